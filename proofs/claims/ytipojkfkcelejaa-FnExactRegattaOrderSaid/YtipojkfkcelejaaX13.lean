-- Written by a program of this session (wip/xp.py, over the kit's print) out of the translation: functions, and the walks that show them.
import Derived.RangeFuncBox
import Derived.RangeFuncLeaves
import Derived.Shelf.Abstract
import Derived.OwnWalkIn
import Derived.TacticsInMore
import Derived.LoopNIn
import Derived.LoopIn
import Derived.Test.YtipojkfkcelejaaX0
import Derived.Test.YtipojkfkcelejaaX3
import Derived.Test.YtipojkfkcelejaaX4
import Derived.Test.YtipojkfkcelejaaX12
namespace Go.Proofs.Ytipojkfkcelejaa.X
open Go.RowKit Go.Proofs.YtipojkfkcelejaaW.PrintWords Go.Proofs.YtipojkfkcelejaaW.PrintLast Go.Proofs.YtipojkfkcelejaaW.PrintMore
attribute [local go_sem] max2_int min2_int max_two min_two max_three min_three max_four min_four   -- for this text's walks alone
set_option linter.unusedVariables false
set_option linter.unusedSimpArgs false

/-! ### slices_Sorted_int_slices_Values_int_int_1: slices.Sorted(slices.Values(l)) (functions 36, 37, 53, 51, 58; this session's own text) -/
set_option maxRecDepth 100000 in
set_option maxHeartbeats 4000000 in
theorem slices_Sorted_int_slices_Values_int_int_1.vcalls (A : Option Addr) (n c : Nat) (w : World) :
    Calls Try.prog 37 #[.slice A n c] w fun e w' => ∃ g : Nat, e = .returned (.func (.func 53) #[] #[.pointer (some ⟨g, 0, none⟩)]) ∧ g = w.heap.size ∧ w'.heap[g]? = some (.cells #[.slice A n c] 22 (0, 0)) ∧ Below w.heap.size w w' := by
  go_enter Try.func37, Try.ntmps37
  go_wp2
  go_ret
  exact ⟨_, rfl, rfl, by simpa using heap_alloc_new w _, below_alloc (Below.refl _ w) _⟩

attribute [local go_sem] Oper.semAt_some in
set_option maxRecDepth 100000 in
set_option maxHeartbeats 4000000 in
theorem slices_Sorted_int_slices_Values_int_int_1.vgen (F : Fence) (n : Nat) (h7 : F.fn 53) (hro : F.round = none) (hn : 1 ≤ n) (l Bs n₀ : Nat) (A : Option Addr) (c : Nat) (zs : List Int) (J Jx : List Int → World → Prop)
    (hY : ∀ pre x W, J pre W → pre.length < zs.length → YieldAt F (n - 1) Try.prog l #[.int .i64 x] W fun e W' =>
      (e = .returned (.bool true) ∧ J (pre ++ [x]) W' ∧ Below n₀ W W') ∨ (e = .returned (.bool false) ∧ Jx (pre ++ [x]) W'))
    (W : World) (hBs : W.cell? ⟨Bs, 0, none⟩ = some (.slice A zs.length c)) (hc : ∀ W', Below n₀ W W' → Kd.C (Kd.int .i64) W' A zs.length zs) (h0 : J [] W) :
    CallsIn F n Try.prog 53 #[.func (.yield l) #[] #[], .pointer (some ⟨Bs, 0, none⟩)] W fun e W' => (∃ v, e = .returned v) ∧
      ((∃ ys, ys = zs ∧ J ys W') ∨ (∃ pre, (∃ k, k ≤ zs.length ∧ pre = zs.take k) ∧ Jx pre W')) := by
  refine callsIn_of_wp Try.func53 rfl h7 ?_ hro
  simp only [Try.ntmps53, List.size_toArray, List.length_cons, List.length_nil, Nat.reduceAdd, Nat.reduceSub, Array.replicate_succ, Array.replicate_zero, List.push_toArray, List.append_toArray, List.nil_append, List.cons_append]
  gi_wp2
  gi_loopw [7] (fun i wr => ∃ k : Nat, k ≤ zs.length ∧ i = .int .i64 k ∧ J (zs.take k) wr ∧ Aside0 (Below n₀ W wr))
    (fun i _ => zs.length - (intOf i).toNat)
  case atStart => exact ⟨0, Nat.zero_le _, rfl, h0, ⟨Below.refl _ _⟩⟩
  case round =>
    obtain ⟨k, hk, rfl, hJs, hnx⟩ := hrel
    by_cases hlt : k < zs.length
    · have hlz : (k : Int) < (zs.length : Int) := by omega
      obtain ⟨ad, rfl, hcx⟩ := Kd.at_int (hc wr hnx.out) (k : Int) (by omega) hlz
      rw [Int.toNat_natCast] at hcx
      have hx : zs.take k ++ [rd zs (k : Int)] = zs.take (k + 1) := by
        rw [List.take_add_one, List.getElem?_eq_getElem hlt]
        simp [rd, List.getD, List.getElem?_eq_getElem hlt]
      obtain ⟨fn, tmps, assign, body, hy, hR⟩ := hY _ (rd zs (k : Int)) wr hJs (by rw [List.length_take]; omega)
      rw [hx] at hR
      gi_wp2
      refine hR.mono ?_
      rintro e W3 (⟨rfl, hJ3, hk3⟩ | ⟨rfl, hJx3⟩)
      · gi_wp2
        go_roundw
        case rel =>
          have hz := (hc wr hnx.out).2.1
          exact ⟨k + 1, by omega, by rw [show wrap64 ((k : Int) + 1) = ((k + 1 : Nat) : Int) by unfold wrap64; omega], hJ3, ⟨hnx.out.trans hk3⟩⟩
        case measure =>
          have hz := (hc wr hnx.out).2.1
          rw [show wrap64 ((k : Int) + 1) = ((k + 1 : Nat) : Int) by unfold wrap64; omega]
          simp [intOf]; omega
      · gi_wp2
        refine bodyPost_ret (results_none rfl _ _ _) rfl ?_
        exact ⟨⟨_, rfl⟩, .inr ⟨_, ⟨k + 1, by omega, rfl⟩, hJx3⟩⟩
    · obtain rfl : k = zs.length := by omega
      gi_wp2
      go_end0
      exact ⟨⟨_, rfl⟩, .inl ⟨_, rfl, by simpa using hJs⟩⟩

theorem slices_Sorted_int_slices_Values_int_int_1.vstops (F : Fence) (n : Nat) (h7 : F.fn 53) (hro : F.round = none) (hn : 1 ≤ n) (Bs n₀ : Nat) (A : Option Addr) (c : Nat) (zs : List Int) (w : World) (hBs : Bs < w.heap.size) (hn₀ : n₀ ≤ w.heap.size)
    (hcell : w.cell? ⟨Bs, 0, none⟩ = some (.slice A zs.length c)) (hc : ∀ W', Below n₀ w W' → Kd.C (Kd.int .i64) W' A zs.length zs) :
    SeqStopsK F n Try.prog 53 #[.pointer (some ⟨Bs, 0, none⟩)] (fun x : Int => #[Value.int .i64 x]) (Below n₀) (fun ys => ys = zs) (fun pre => ∃ k, k ≤ zs.length ∧ pre = zs.take k) zs.length w := fun l J Jx W hW _ _ hY h0 =>
  slices_Sorted_int_slices_Values_int_int_1.vgen F n h7 hro hn l Bs n₀ A c zs J Jx hY W ((hW.cell (p := ⟨Bs, 0, none⟩) hBs).trans hcell) (fun W' h => hc W' ((hW.mono hn₀).trans h)) h0

attribute [local go_sem] Oper.semAt_some in
set_option maxRecDepth 100000 in
set_option maxHeartbeats 4000000 in
theorem slices_Sorted_int_slices_Values_int_int_1.aown (F : Fence) (n : Nat) (h58 : F.fn 58) (h53 : F.fn 53) (hro : F.round = none) (hn : 3 ≤ n) (Bs : Nat) (A : Option Addr) (c : Nat) (zs : List Int) (hlen : zs.length ≤ 1000) (w : World) (hBs : Bs < w.heap.size)
    (hcell : w.cell? ⟨Bs, 0, none⟩ = some (.slice A zs.length c)) (hc : ∀ W', Below w.heap.size w W' → Kd.C (Kd.int .i64) W' A zs.length zs) :
    CallsIn F n Try.prog 58 #[.slice none 0 0, .func (.func 53) #[] #[.pointer (some ⟨Bs, 0, none⟩)]] w fun e W' => ∃ v, e = .returned v ∧ W'.ownsRow w.heap.size 3 1 v zs.length (zs.map (Value.int .i64)) ∧ Below w.heap.size w W' := by
  have h1 : 1 ≤ n := by omega
  obtain ⟨i0, hi, hz0, hz1, hz2⟩ := info_parts info3
  refine callsIn_of_wp_marks Try.func58 rfl h58 ?_ hro
  simp only [Try.ntmps58, List.size_toArray, List.length_cons, List.length_nil, Nat.reduceAdd, Nat.reduceSub, Array.replicate_succ, Array.replicate_zero, List.push_toArray, List.append_toArray, List.nil_append, List.cons_append]
  gi_wp2
  have bO := Boxed.new w 22 (.slice none 0 0)
  have hB0 : Below w.heap.size w (w.alloc (.cells #[.slice none 0 0] 22)) := (Below.refl _ w).alloc (Nat.le_refl _) _
  refine wpIn_rangeFunc_ownG hro h1 (gf := 53) (lb := #[.pointer (some ⟨Bs, 0, none⟩)]) rfl h53 (enters_of Try.func53 (by kernel_rfl) rfl)
    (slices_Sorted_int_slices_Values_int_int_1.vstops F (n - 1) h53 hro (by omega) Bs w.heap.size A c zs _ (by simp; omega) (by simp) ((hB0.cell (p := ⟨Bs, 0, none⟩) hBs).trans hcell) (fun W' h => hc W' (hB0.trans h))) belowK_t (belowK_b (by simp)) (Below.refl _ _) (fun _ => rfl)
    (fun (pre : List Int) W => (∃ v, Boxed W w.heap.size 22 v ∧ W.ownsRow w.heap.size 3 1 v pre.length (pre.map (Value.int .i64)) ∧ True) ∧ Below w.heap.size w W)
    (fun _ _ _ => False)
    (OwnFrom.and (Own.from (holdsRow_own w.heap.size w.heap.size 22 3 1 (fun pre : List Int => pre.length) (fun pre : List Int => pre.map (Value.int .i64)) (fun _ _ => True)) _) (ownFrom_below (Nat.le_refl _) (by simp)))
    (fun _ _ _ _ _ hs _ _ => hs)
    ⟨⟨_, bO, World.ownsRow_nil _ _ _ _, trivial⟩, hB0⟩
    (fun x => { tmps := #[.slice none 0 0, .func (.func 53) #[] #[.pointer (some ⟨Bs, 0, none⟩)], .pointer (some ⟨w.heap.size, 0, none⟩), undef, .slice none 0 0, .int .i64 x, .func (.func 53) #[] #[.pointer (some ⟨Bs, 0, none⟩)], .int .i64 x, undef, undef, undef, undef, undef], defers := [] }) ?assign ?body ?done ?stop
  case assign =>
    intro l x W K hK
    gi_wp2
    exact hK
  case body =>
    rintro l pre x W ⟨⟨v, hv, hrow, _⟩, hB⟩ hlt
    have hcv := hv.cell
    have hml : 1000 ≤ maxLen := by decide
    gi_wp2_with (gi_at_builtin; refine wpListIn_append_own _ rfl _ _ 22 rfl w.heap.size 3 i0 (.int .i64 0) 1 8 Try.underlying22 hi hz0 hz1 hz2 rfl (by decide) _ _ _ rfl (hrow.alloc _) ⟨W.heap.size, 0, none⟩ 1 1 [.int .i64 x] rfl rfl (cell_one_new _ _ _) (by simp [Value.oneCell']) (Nat.le_trans (show pre.length + 1 ≤ 1000 by omega) hml) (by omega) (by have := hB.size; simp; omega) ?_; intro v' w1 hown' hgrow _; obtain ⟨g', cap', rfl⟩ := ownsRow_succ hown'; obtain ⟨hv1, hv2, hr2, hk2, hb2⟩ := hv.appended (by decide) hrow hB.size (Nat.le_refl _) hown' hgrow; have hc1 := hv1.cell; have hf1 := hv1.frozen)
    exact ⟨hk2.from _, hb2, ⟨_, hv2, by simpa using hr2, trivial⟩, hB.trans hb2⟩
  case done =>
    rintro D ys W hD rfl ⟨⟨v, hv, hrow, _⟩, hB⟩ hK
    have hcv := hv.cell
    gi_wp2
    refine ⟨by simp, .inl ⟨_, _, rfl, run_takeDeferred hK, ?_⟩⟩
    exact ⟨_, results_tmp rfl _ _ _, v, rfl, ownsRow_putObj hrow _ hK rfl, hB.trans (belowK_b (w := w) (Nat.le_refl _) W D _ _ (by simp at hD; omega) hK rfl rfl)⟩
  case stop =>
    rintro D c pre W _ _ h _
    exact h.elim

set_option maxRecDepth 100000 in
set_option maxHeartbeats 4000000 in
theorem slices_Sorted_int_slices_Values_int_int_1.cown (gb : Nat) (A : Option Addr) (c : Nat) (zs : List Int) (hlen : zs.length ≤ 1000) (w : World) (hb0 : w.heap[gb]? = some (.cells #[.slice A zs.length c] 22 (0, 0))) (hr0 : Kd.C (Kd.int .i64) w A zs.length zs) :
    Calls Try.prog 51 #[.func (.func 53) #[] #[.pointer (some ⟨gb, 0, none⟩)]] w fun e w' => ∃ v, e = .returned v ∧ Kd.R (Kd.int .i64) 3 w' w.heap.size (fun _ => True) v zs ∧ Below w.heap.size w w' := by
  have HR := Aside0.mk hr0
  have HN := Aside0.mk hlen
  have HB := Aside0.mk hb0
  clear hr0 hlen hb0
  go_enter Try.func51, Try.ntmps51
  go_wp2_with (go_at_call 58; refine (callsIn_wide.1 (slices_Sorted_int_slices_Values_int_int_1.aown Fence.wide 10 trivial trivial rfl (by omega) gb A c zs HN.out _ (blk_lt HB.out) ((blk_cell HB.out 0).trans rfl) (fun W' h => Kd.C_below HR.out h))).mono ?_; rintro e w' ⟨v, rfl, ho, hb⟩; have HO := Aside0.mk ho; have HZ := Aside0.mk hb; clear ho hb)
  go_ret
  exact ⟨v, rfl, Kd.R_of_own HO.out (fun _ _ => trivial), HZ.out⟩

def slices_Sorted_int_slices_Values_int_int_1.f (k : Nat) (l0 : List Int) : Option (List Int) := if l0.length ≤ 1000 then (slices_Sort_int_int.f k l0) else (none)
set_option maxRecDepth 100000 in
set_option maxHeartbeats 4000000 in
theorem slices_Sorted_int_slices_Values_int_int_1.calls (k : Nat) (gb : Nat) (A0 : Option Addr) (c0 : Nat) (l0 : List Int) (r : List Int) (w : World) (hr0 : Kd.C (Kd.int .i64) w A0 l0.length l0) (hc0 : l0.length ≤ c0) (hb0 : w.heap[gb]? = some (.cells #[.slice A0 l0.length c0] 22 (0, 0))) (h : slices_Sorted_int_slices_Values_int_int_1.f k l0 = some r) :
    Calls Try.prog 36 #[.func (.func 53) #[] #[.pointer (some ⟨gb, 0, none⟩)]] w fun e w' => ∃ v0_ : Value, e = .returned v0_ ∧ Kd.R (Kd.int .i64) 3 w' w.heap.size (fun _ => True) v0_ r ∧ Below w.heap.size w w' := by
  unfold slices_Sorted_int_slices_Values_int_int_1.f at h
  by_cases cl : l0.length ≤ 1000
  · rw [if_pos cl] at h
    have HC := Aside0.mk (slices_Sorted_int_slices_Values_int_int_1.cown gb A0 c0 l0 cl w hb0 hr0)
    have HS := Aside0.mk h
    have HW := Aside0.mk (Below.refl w.heap.size w)
    clear h cl hr0 hc0 hb0
    go_enter Try.func36, Try.ntmps36
    go_wp2_with (first | (go_at_call 51; refine HC.out.mono ?_; rintro e w1 ⟨v, rfl, ho, hb⟩; obtain ⟨A1, c1, rfl⟩ := Kd.R_slice ho; have HO := Aside0.mk ho; have HB := Aside0.mk hb; clear ho hb) | (go_at_call 52; refine (slices_Sort_int_int.calls k (fun _ => True) _ l0 r w _ HB.out HO.out HS.out).mono ?_; rintro e w2 ⟨rfl, ho, hb, hk⟩; have HO2 := Aside0.mk ho; have HB2 := Aside0.mk hb; clear ho hb hk))
    go_ret
    exact ⟨_, rfl, Kd.R_mono HO2.out (fun _ _ => trivial), HB2.out⟩
  · rw [if_neg cl] at h
    exact absurd h (by simp)
theorem slices_Sorted_int_slices_Values_int_int_1.mono : ∀ a0 k, LeO (slices_Sorted_int_slices_Values_int_int_1.f k a0) (slices_Sorted_int_slices_Values_int_int_1.f (k + 1) a0) := by
  intro a0 k
  unfold slices_Sorted_int_slices_Values_int_int_1.f
  repeat' first
      | (with_reducible exact slices_Sort_int_int.mono _ _)
      | (with_reducible exact LeO.refl _)
      | (with_reducible exact LeO.none _)
      | (with_reducible refine LeO.ite ?_ ?_)
      | (with_reducible refine LeO.bind ?_ (fun _ => ?_))
      | exact slices_Sort_int_int.mono _ _
      | exact LeO.none _
      | refine LeO.ite ?_ ?_
      | refine LeO.bind ?_ (fun _ => ?_)
/-! ### impl_RaceOk: function 12 -/
mutual
def impl_RaceOk.j0 : Nat → Int → List Int → Bool → Option (Bool)
  | 0, _, _, _ => none
  | k + 1, x0, x1, x16 => if x16 = true then (some false) else (impl_RaceOk.l0 k x0 (([] : List Int)) x1 (x1.length : Int) 0)
def impl_RaceOk.l0 : Nat → Int → List Int → List Int → Int → Int → Option (Bool)
  | 0, _, _, _, _, _ => none
  | k + 1, x0, x5, x18, x19, x20 => if x20 < x19 then (if 0 ≤ x20 then (if x20 < (x18.length : Int) then ((impl_within.f (rd x18 x20) 1 (wrap64 (x0 + 1))).bind fun t255 => (if t255 = true then (if (rd x18 x20) ≤ x0 then (if x5.length < 17592186044416 then (impl_RaceOk.l0 k x0 (x5 ++ [wrap64 ((rd x18 x20) - 1)]) x18 x19 (wrap64 (x20 + 1))) else (none)) else (impl_RaceOk.l0 k x0 x5 x18 x19 (wrap64 (x20 + 1)))) else (some false))) else (none)) else (none)) else ((slices_Sorted_int_slices_Values_int_int_1.f k x5).bind fun t247 => ((impl_upTo.f k (x5.length : Int)).bind fun t250 => ((slices_Equal_int_int.f k t247 t250).bind fun t253 => (some t253))))
end
def impl_RaceOk.f (k : Nat) (a0 : Int) (l1 : List Int) : Option (Bool) := (impl_within.f a0 2 8).bind fun t242 => (if t242 = true then (impl_RaceOk.j0 k a0 l1 ((l1.length : Int) != a0)) else (impl_RaceOk.j0 k a0 l1 true))
theorem impl_RaceOk.mono_l : ∀ k, (∀ y0 y1 y2, LeO (impl_RaceOk.j0 k y0 y1 y2) (impl_RaceOk.j0 (k + 1) y0 y1 y2)) ∧ (∀ y0 y1 y2 y3 y4, LeO (impl_RaceOk.l0 k y0 y1 y2 y3 y4) (impl_RaceOk.l0 (k + 1) y0 y1 y2 y3 y4))
  | 0 => ⟨fun _ _ _ r h => by simp [impl_RaceOk.j0] at h, fun _ _ _ _ _ r h => by simp [impl_RaceOk.l0] at h⟩
  | k + 1 => by
    obtain ⟨ih0, ih1⟩ := impl_RaceOk.mono_l k
    refine ⟨?_, ?_⟩
    · intro y0 y1 y2
      unfold impl_RaceOk.j0
      repeat' first
      | (with_reducible exact ih0 _ _ _)
      | (with_reducible exact ih1 _ _ _ _ _)
      | (with_reducible exact impl_upTo.mono _ _)
      | (with_reducible exact slices_Equal_int_int.mono _ _ _)
      | (with_reducible exact slices_Sorted_int_slices_Values_int_int_1.mono _ _)
      | (with_reducible exact LeO.refl _)
      | (with_reducible exact LeO.none _)
      | (with_reducible refine LeO.ite ?_ ?_)
      | (with_reducible refine LeO.bind ?_ (fun _ => ?_))
      | exact ih0 _ _ _
      | exact ih1 _ _ _ _ _
      | exact impl_upTo.mono _ _
      | exact slices_Equal_int_int.mono _ _ _
      | exact slices_Sorted_int_slices_Values_int_int_1.mono _ _
      | exact LeO.none _
      | refine LeO.ite ?_ ?_
      | refine LeO.bind ?_ (fun _ => ?_)
    · intro y0 y1 y2 y3 y4
      unfold impl_RaceOk.l0
      repeat' first
      | (with_reducible exact ih0 _ _ _)
      | (with_reducible exact ih1 _ _ _ _ _)
      | (with_reducible exact impl_upTo.mono _ _)
      | (with_reducible exact slices_Equal_int_int.mono _ _ _)
      | (with_reducible exact slices_Sorted_int_slices_Values_int_int_1.mono _ _)
      | (with_reducible exact LeO.refl _)
      | (with_reducible exact LeO.none _)
      | (with_reducible refine LeO.ite ?_ ?_)
      | (with_reducible refine LeO.bind ?_ (fun _ => ?_))
      | exact ih0 _ _ _
      | exact ih1 _ _ _ _ _
      | exact impl_upTo.mono _ _
      | exact slices_Equal_int_int.mono _ _ _
      | exact slices_Sorted_int_slices_Values_int_int_1.mono _ _
      | exact LeO.none _
      | refine LeO.ite ?_ ?_
      | refine LeO.bind ?_ (fun _ => ?_)
theorem impl_RaceOk.mono : ∀ a0 a1 k, LeO (impl_RaceOk.f k a0 a1) (impl_RaceOk.f (k + 1) a0 a1) := by
  intro a0 a1 k
  obtain ⟨ih0, ih1⟩ := impl_RaceOk.mono_l k
  unfold impl_RaceOk.f
  repeat' first
      | (with_reducible exact ih0 _ _ _)
      | (with_reducible exact ih1 _ _ _ _ _)
      | (with_reducible exact impl_upTo.mono _ _)
      | (with_reducible exact slices_Equal_int_int.mono _ _ _)
      | (with_reducible exact slices_Sorted_int_slices_Values_int_int_1.mono _ _)
      | (with_reducible exact LeO.refl _)
      | (with_reducible exact LeO.none _)
      | (with_reducible refine LeO.ite ?_ ?_)
      | (with_reducible refine LeO.bind ?_ (fun _ => ?_))
      | exact ih0 _ _ _
      | exact ih1 _ _ _ _ _
      | exact impl_upTo.mono _ _
      | exact slices_Equal_int_int.mono _ _ _
      | exact slices_Sorted_int_slices_Values_int_int_1.mono _ _
      | exact LeO.none _
      | refine LeO.ite ?_ ?_
      | refine LeO.bind ?_ (fun _ => ?_)
set_option maxHeartbeats 8000000 in
set_option maxRecDepth 100000 in
theorem impl_RaceOk.calls (k : Nat) (a0 : Int) (A1 : Option Addr) (c1 : Nat) (l1 : List Int) (r : Bool) (w : World) (hr1 : Kd.C (Kd.int .i64) w A1 l1.length l1) (hc1 : l1.length ≤ c1) (h : impl_RaceOk.f k a0 l1 = some r) :
    Calls Try.prog 12 #[.int .i64 a0, .slice A1 l1.length c1] w fun e w' => e = .returned (.bool r) ∧ Below w.heap.size w w' := by
  have HR1 := Aside0.mk hr1
  have HC1 := Aside0.mk hc1
  clear hr1 hc1
  have HB := Aside0.mk (Below.refl w.heap.size w)
  have H : ((impl_within.f a0 2 8).bind fun t242 => (if t242 = true then (impl_RaceOk.j0 k a0 l1 ((l1.length : Int) != a0)) else (impl_RaceOk.j0 k a0 l1 true))) = some r := h
  clear h
  have HC3 := Aside0.mk H
  clear H
  go_enter Try.func12, Try.ntmps12
  go_upto_region 1 with (fail)
  go_cut [16] (fun v16 wc => ∃ (kq : Nat) (x16_2 : Bool), v16 = .bool x16_2 ∧ Aside0 (impl_RaceOk.j0 kq a0 l1 x16_2 = some r) ∧ Aside0 (kq ≤ k) ∧ Aside0 (Below w.heap.size w wc))
  case first =>
    have H := HC3.out
    clear HC3
    replace H := Option.bind_eq_some_iff.mp H
    obtain ⟨t242, A40, H⟩ := H
    replace H : (if t242 = true then (impl_RaceOk.j0 k a0 l1 ((l1.length : Int) != a0)) else (impl_RaceOk.j0 k a0 l1 true)) = some r := H
    have A4 := Aside0.mk A40
    clear A40
    by_cases c5 : t242 = true
    · subst c5
      have H1 : (impl_RaceOk.j0 k a0 l1 ((l1.length : Int) != a0)) = some r := by rw [if_pos rfl] at H; exact H
      clear H
      have H := H1
      clear H1
      have H' := Aside0.mk H
      clear H
      go_wp2_with (first | ((with_reducible refine gate_callee (f := 34) rfl ?_); refine goesL_ (some 9) rfl rfl Try.func34 (by kernel_rfl) rfl #[.int .i64 a0, .int .i64 2, .int .i64 8] rfl ga ?_; (with_reducible refine (impl_within.calls a0 2 8 true _ A4.out).mono ?_); rintro e w' ⟨rfl, ⟨nd, rfl⟩⟩; refine ⟨_, rfl, ?_⟩))
      go_meet
      case rel => exact ⟨_, (((l1.length : Int) != a0)), (es), H', ⟨by first | omega | exact Nat.le_refl _⟩, ⟨bel⟩⟩
    · replace c5 := Bool.eq_false_iff.mpr c5
      subst c5
      have H1 : (impl_RaceOk.j0 k a0 l1 true) = some r := by rw [if_neg (show ¬ (false = true) by decide)] at H; exact H
      clear H
      have H := H1
      clear H1
      have H' := Aside0.mk H
      clear H
      go_wp2_with (first | ((with_reducible refine gate_callee (f := 34) rfl ?_); refine goesL_ (some 9) rfl rfl Try.func34 (by kernel_rfl) rfl #[.int .i64 a0, .int .i64 2, .int .i64 8] rfl ga ?_; (with_reducible refine (impl_within.calls a0 2 8 false _ A4.out).mono ?_); rintro e w' ⟨rfl, ⟨nd, rfl⟩⟩; refine ⟨_, rfl, ?_⟩))
      go_meet
      case rel => exact ⟨_, (true), (es), H', ⟨by first | omega | exact Nat.le_refl _⟩, ⟨bel⟩⟩
  case rest =>
    clear HC3
    try clear c1; try clear p2; try clear c3; try clear c5
    obtain ⟨kq, x16_2, rfl, HA, HJ2, HB⟩ := hcut
    cases kq with
    | zero => exact absurd HA.out (by simp [impl_RaceOk.j0])
    | succ kj2 =>
      have H := HA.out
      clear HA
      simp only [impl_RaceOk.j0] at H
      by_cases c6 : x16_2 = true
      · subst c6
        have H1 : (some false) = some r := by rw [if_pos rfl] at H; exact H
        clear H
        have H := H1
        clear H1
        obtain rfl := Option.some.inj H
        go_wp2
        go_ret
        exact ⟨er, bel⟩
      · replace c6 := Bool.eq_false_iff.mpr c6
        subst c6
        have H1 : (impl_RaceOk.l0 kj2 a0 (([] : List Int)) l1 (l1.length : Int) 0) = some r := by rw [if_neg (show ¬ (false = true) by decide)] at H; exact H
        clear H
        have H := H1
        clear H1
        obtain ⟨y243, hy243⟩ : ∃ y_ : List Int, y_ = (([] : List Int)) := ⟨_, rfl⟩
        replace H : (impl_RaceOk.l0 kj2 a0 y243 l1 (l1.length : Int) 0) = some r := by first | (rw [hy243]; with_reducible exact H) | (have H2_ := (Option.bind_some _ _).symm.trans H; rw [hy243]; with_reducible exact H2_) | (have H2_ := (Option.bind_some _ _).symm.trans H; with_reducible exact H2_) | with_reducible exact H | (rw [hy243]; exact H) | exact H
        have Ny243 := Aside0.mk hy243
        clear hy243
        have H' := Aside0.mk H
        clear H
        go_wp2_with (first | ((with_reducible refine gate_dst (N := 17) rfl ?_); refine Kd.R_lit (Kd.int .i64) _ 3 ?hg (N := 17) ?hd (xs := ([] : List Int)) (inner := []) (ok := fun _ => True) (okp := fun _ => True) ?hr ?hp (fun _ hk => hk) trivial (Below.refl _ _) (Nat.le_refl _) (by simp) ?_; (case hd => rfl); (case hg => rfl); (case hr => first | (go_simp; done) | (go_simp; rfl)); (case hp => exact (Reps.none _ _)); intro v244 w7 ho8 hb hg_ hnew_; clear hg_ hnew_; (first | rw [← Ny243.out] at ho8 | (simp only [Int.reduceToNat] at ho8; rw [← Ny243.out] at ho8)); have HO245 := Aside0.mk (Kd.R_lower ho8 (below_size bel)); replace HB := Aside0.mk (below_step bel hb); clear hb ho8))
        go_loopg [5, 20] kj2 (fun kq v5 v20 w' => ∃ (x5_2 : List Int) (x20_2 : Int), v20 = .int .i64 x20_2 ∧ Aside0 (impl_RaceOk.l0 kq a0 x5_2 l1 (l1.length : Int) x20_2 = some r) ∧ Aside0 (kq ≤ kj2) ∧ Aside0 (Kd.R (Kd.int .i64) 3 w' w.heap.size (fun _ => True) v5 x5_2) ∧ Aside0 (Below w.heap.size w w'))
        case atStart => exact ⟨(y243), (0), (es), H', ⟨Nat.le_refl _⟩, ⟨rk HO245.out⟩, ⟨bel⟩⟩
        case round =>
          clear H'
          try clear c1; try clear p2; try clear c3; try clear c5; try clear c6; try clear p2
          obtain ⟨x5_2, x20_2, rfl, HA, HK2, HO_5, HB⟩ := hrel
          cases gk with
          | zero => exact absurd HA.out (by simp [impl_RaceOk.l0])
          | succ k2 =>
            have H := HA.out
            clear HA
            simp only [impl_RaceOk.l0] at H
            by_cases c9 : x20_2 < (l1.length : Int)
            · rw [if_pos c9] at H
              have c9b0 : decide (x20_2 < (l1.length : Int)) = true := decide_eq_true c9
              clear c9
              by_cases c10 : 0 ≤ x20_2
              · rw [if_pos c10] at H
                have c10b0 : decide (0 ≤ x20_2) = true := decide_eq_true c10
                clear c10
                by_cases c11 : x20_2 < (l1.length : Int)
                · rw [if_pos c11] at H
                  have c11b0 : decide (x20_2 < (l1.length : Int)) = true := decide_eq_true c11
                  clear c11
                  replace H := Option.bind_eq_some_iff.mp H
                  obtain ⟨t255, A120, H⟩ := H
                  replace H : (if t255 = true then (if (rd l1 x20_2) ≤ a0 then (if x5_2.length < 17592186044416 then (impl_RaceOk.l0 k2 a0 (x5_2 ++ [wrap64 ((rd l1 x20_2) - 1)]) l1 (l1.length : Int) (wrap64 (x20_2 + 1))) else (none)) else (impl_RaceOk.l0 k2 a0 x5_2 l1 (l1.length : Int) (wrap64 (x20_2 + 1)))) else (some false)) = some r := H
                  have A12 := Aside0.mk A120
                  clear A120
                  by_cases c13 : t255 = true
                  · subst c13
                    have H1 : (if (rd l1 x20_2) ≤ a0 then (if x5_2.length < 17592186044416 then (impl_RaceOk.l0 k2 a0 (x5_2 ++ [wrap64 ((rd l1 x20_2) - 1)]) l1 (l1.length : Int) (wrap64 (x20_2 + 1))) else (none)) else (impl_RaceOk.l0 k2 a0 x5_2 l1 (l1.length : Int) (wrap64 (x20_2 + 1)))) = some r := by rw [if_pos rfl] at H; exact H
                    clear H
                    have H := H1
                    clear H1
                    by_cases c14 : (rd l1 x20_2) ≤ a0
                    · rw [if_pos c14] at H
                      have c14b0 : decide ((rd l1 x20_2) ≤ a0) = true := decide_eq_true c14
                      clear c14
                      by_cases c15 : x5_2.length < 17592186044416
                      · rw [if_pos c15] at H
                        have LMc15 := Aside0.mk c15
                        clear c15
                        obtain ⟨y256, hy256⟩ : ∃ y_ : List Int, y_ = (x5_2 ++ [wrap64 ((rd l1 x20_2) - 1)]) := ⟨_, rfl⟩
                        replace H : (impl_RaceOk.l0 k2 a0 y256 l1 (l1.length : Int) (wrap64 (x20_2 + 1))) = some r := by first | (rw [hy256]; with_reducible exact H) | (have H2_ := (Option.bind_some _ _).symm.trans H; rw [hy256]; with_reducible exact H2_) | (have H2_ := (Option.bind_some _ _).symm.trans H; with_reducible exact H2_) | with_reducible exact H | (rw [hy256]; exact H) | exact H
                        have Ny256 := Aside0.mk hy256
                        clear hy256
                        have H' := Aside0.mk H
                        clear H
                        have p254 : 0 ≤ (x20_2 : Int) := asm
                        have q254 : x20_2 < (l1.length : Int) := asm
                        obtain ⟨ad254, e254, hx254_0⟩ := Kd.at_int HR1.out x20_2 p254 q254
                        cases e254
                        replace hx254_0 := hcl HB.out hx254_0
                        replace p254 := eq_true p254
                        replace q254 := eq_true q254
                        go_wp2_with (first | ((with_reducible refine gate_callee (f := 34) rfl ?_); refine goesL_ (some 27) rfl rfl Try.func34 (by kernel_rfl) rfl #[.int .i64 (rd l1 x20_2), .int .i64 1, .int .i64 (wrap64 (a0 + 1))] rfl ga ?_; (with_reducible refine (impl_within.calls (rd l1 x20_2) 1 (wrap64 (a0 + 1)) true _ A12.out).mono ?_); rintro e w' ⟨rfl, ⟨nd, rfl⟩⟩; refine ⟨_, rfl, ?_⟩) | ((with_reducible refine gate_builtin (b := .append) (xs := #[.tmp 32, .tmp 35]) rfl ?_); at_builtin; refine Kd.R_append (Kd.int .i64) (w0 := w) w.heap.size rfl (.tmp 32) (.tmp 35) 22 3 (.int .i64 0) 8 rfl Try.underlying22 info3 rfl (by decide) (by omega) u5 x5_2 (wrap64 ((rd l1 x20_2) - 1)) [.int .i64 (wrap64 ((rd l1 x20_2) - 1))] (fun _ => True) (fun _ => False) rfl rfl ?aP (fun _ hk => hk.elim) ?aF ?aO ?aB ?aS ?aL ?_; (case aP => exact rfl); (case aB => exact bel); (case aF => exact (fun _ _ => trivial)); (case aO => exact (rk HO_5.out)); (case aS => exact (below_size bel)); (case aL => have := LMc15.out; omega); intro v257 w16 ho hb hg hat; rw [← Ny256.out] at ho; have n0_ := Aside0.mk (hb); have n1_ := Aside0.mk (ho); clear HB; clear HO_5; have HB := n0_; have HO258 := n1_; clear n0_ n1_; clear ho hb hg hat))
                        go_roundg k2
                        case measure => have := HJ2.out; have := HK2.out; omega
                        case rel => exact ⟨(y256), (wrap64 (x20_2 + 1)), (es), H', ⟨by have := HJ2.out; have := HK2.out; omega⟩, ⟨rk HO258.out⟩, ⟨bel⟩⟩
                      · rw [if_neg c15] at H
                        exact absurd H (by simp)
                    · rw [if_neg c14] at H
                      have c14b0 : decide ((rd l1 x20_2) ≤ a0) = false := decide_eq_false c14
                      clear c14
                      have H' := Aside0.mk H
                      clear H
                      have p254 : 0 ≤ (x20_2 : Int) := asm
                      have q254 : x20_2 < (l1.length : Int) := asm
                      obtain ⟨ad254, e254, hx254_0⟩ := Kd.at_int HR1.out x20_2 p254 q254
                      cases e254
                      replace hx254_0 := hcl HB.out hx254_0
                      replace p254 := eq_true p254
                      replace q254 := eq_true q254
                      go_wp2_with (first | ((with_reducible refine gate_callee (f := 34) rfl ?_); refine goesL_ (some 27) rfl rfl Try.func34 (by kernel_rfl) rfl #[.int .i64 (rd l1 x20_2), .int .i64 1, .int .i64 (wrap64 (a0 + 1))] rfl ga ?_; (with_reducible refine (impl_within.calls (rd l1 x20_2) 1 (wrap64 (a0 + 1)) true _ A12.out).mono ?_); rintro e w' ⟨rfl, ⟨nd, rfl⟩⟩; refine ⟨_, rfl, ?_⟩))
                      go_roundg k2
                      case measure => have := HJ2.out; have := HK2.out; omega
                      case rel => exact ⟨(x5_2), (wrap64 (x20_2 + 1)), (es), H', ⟨by have := HJ2.out; have := HK2.out; omega⟩, ⟨rk HO_5.out⟩, ⟨bel⟩⟩
                  · replace c13 := Bool.eq_false_iff.mpr c13
                    subst c13
                    have H1 : (some false) = some r := by rw [if_neg (show ¬ (false = true) by decide)] at H; exact H
                    clear H
                    have H := H1
                    clear H1
                    obtain rfl := Option.some.inj H
                    have p254 : 0 ≤ (x20_2 : Int) := asm
                    have q254 : x20_2 < (l1.length : Int) := asm
                    obtain ⟨ad254, e254, hx254_0⟩ := Kd.at_int HR1.out x20_2 p254 q254
                    cases e254
                    replace hx254_0 := hcl HB.out hx254_0
                    replace p254 := eq_true p254
                    replace q254 := eq_true q254
                    go_wp2_with (first | ((with_reducible refine gate_callee (f := 34) rfl ?_); refine goesL_ (some 27) rfl rfl Try.func34 (by kernel_rfl) rfl #[.int .i64 (rd l1 x20_2), .int .i64 1, .int .i64 (wrap64 (a0 + 1))] rfl ga ?_; (with_reducible refine (impl_within.calls (rd l1 x20_2) 1 (wrap64 (a0 + 1)) false _ A12.out).mono ?_); rintro e w' ⟨rfl, ⟨nd, rfl⟩⟩; refine ⟨_, rfl, ?_⟩))
                    go_ret
                    exact ⟨er, bel⟩
                · rw [if_neg c11] at H
                  exact absurd H (by simp)
              · rw [if_neg c10] at H
                exact absurd H (by simp)
            · rw [if_neg c9] at H
              have c9b0 : decide (x20_2 < (l1.length : Int)) = false := decide_eq_false c9
              clear c9
              replace H := Option.bind_eq_some_iff.mp H
              obtain ⟨t247, A170, H⟩ := H
              replace H : ((impl_upTo.f k2 (x5_2.length : Int)).bind fun t250 => ((slices_Equal_int_int.f k2 t247 t250).bind fun t253 => (some t253))) = some r := H
              have A17 := Aside0.mk A170
              clear A170
              replace H := Option.bind_eq_some_iff.mp H
              obtain ⟨t250, A180, H⟩ := H
              replace H : ((slices_Equal_int_int.f k2 t247 t250).bind fun t253 => (some t253)) = some r := H
              have A18 := Aside0.mk A180
              clear A180
              replace H := Option.bind_eq_some_iff.mp H
              obtain ⟨t253, A190, H⟩ := H
              replace H : (some t253) = some r := H
              have A19 := Aside0.mk A190
              clear A190
              obtain rfl := Option.some.inj H
              obtain ⟨Ao20, co20, eo20⟩ := Kd.R_slice HO_5.out
              subst eo20
              go_wp2_with (first | (go_at_call 37; refine (slices_Sorted_int_slices_Values_int_int_1.vcalls _ _ _ _).mono ?_; rintro _ w21 ⟨gb246, rfl, hg, hbox, hb⟩; have BK246 := Aside0.mk (hbox); have GW246 := Aside0.mk ((bsz hg : w.heap.size ≤ gb246)); have GE246 := Aside0.mk ((bsz hg : w.heap.size ≤ gb246)); replace HO_5 := Aside0.mk (Kd.R_below (rk HO_5.out) hb); replace HB := Aside0.mk (below_step bel hb); clear hb hbox hg) | ((with_reducible refine gate_callee (f := 36) rfl ?_); refine goesL_ (some 40) rfl rfl Try.func36 (by kernel_rfl) rfl #[.func (.func 53) #[] #[.pointer (some ⟨gb246, 0, none⟩)]] rfl ga ?_; (with_reducible refine (slices_Sorted_int_slices_Values_int_int_1.calls k2 gb246 Ao20 co20 x5_2 t247 _ ?side1 ?side2 ?side3 A17.out).mono ?_); (case side1 => exact ck (Kd.R_reads' HO_5.out).2.2); (case side2 => exact (Kd.R_reads' HO_5.out).2.1); (case side3 => exact (bk BK246.out)); rintro e w22 ⟨v248, rfl, ho0, hb⟩; refine ⟨_, rfl, ?_⟩; have HO249 := Aside0.mk (Kd.R_lower (Kd.R_new' ho0 (Kd.R_lt (rk HO_5.out))) (below_size bel)); replace HO_5 := Aside0.mk (Kd.R_elder' (rk HO_5.out) (Kd.R_base ho0) hb); replace BK246 := Aside0.mk (bb BK246.out hb); replace HB := Aside0.mk (below_step bel hb); (try clear hb); (try clear ho0)) | ((with_reducible refine gate_callee (f := 38) rfl ?_); refine goesL_ (some 43) rfl rfl Try.func38 (by kernel_rfl) rfl #[.int .i64 (x5_2.length : Int)] rfl ga ?_; (with_reducible refine (impl_upTo.calls k2 (x5_2.length : Int) t250 _ A18.out).mono ?_); rintro e w23 ⟨v251, rfl, ho0, hb⟩; refine ⟨_, rfl, ?_⟩; have HO252 := Aside0.mk (Kd.R_lower (Kd.R_new' (Kd.R_new' ho0 (Kd.R_lt (rk HO_5.out))) (Kd.R_lt (rk HO249.out))) (below_size bel)); replace HO_5 := Aside0.mk (Kd.R_elder' (rk HO_5.out) (Kd.R_base ho0) hb); replace HO249 := Aside0.mk (Kd.R_elder' (rk HO249.out) (Kd.R_base ho0) hb); replace BK246 := Aside0.mk (bb BK246.out hb); replace HB := Aside0.mk (below_step bel hb); (try clear hb); (try clear ho0); obtain ⟨Ao24, co24, eo24⟩ := Kd.R_slice HO249.out; subst eo24; obtain ⟨Ao25, co25, eo25⟩ := Kd.R_slice HO252.out; subst eo25) | ((with_reducible refine gate_callee (f := 35) rfl ?_); refine goesL_ (some 44) rfl rfl Try.func35 (by kernel_rfl) rfl #[.slice Ao24 t247.length co24, .slice Ao25 t250.length co25] rfl ga ?_; (with_reducible refine (slices_Equal_int_int.calls k2 _ _ t247 _ _ t250 t253 _ ?side1 ?side2 ?side3 ?side4 A19.out).mono ?_); (case side1 => exact ck (Kd.R_reads' HO249.out).2.2); (case side2 => exact (Kd.R_reads' HO249.out).2.1); (case side3 => exact ck (Kd.R_reads' HO252.out).2.2); (case side4 => exact (Kd.R_reads' HO252.out).2.1); rintro e w' ⟨rfl, ⟨nd, rfl⟩⟩; refine ⟨_, rfl, ?_⟩))
              go_ret
              exact ⟨er, bel⟩

end Go.Proofs.Ytipojkfkcelejaa.X
