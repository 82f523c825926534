-- Written by a program of this session (wip/xp.py, over the kit's print) out of the translation: functions, and the walks that show them.
import Derived.Test.YtgalpgakdcfilaaQ0
namespace Go.Proofs.Ytgalpgakdcfilaa.Q
open Go.RowKit Go.Proofs.YtgalpgakdcfilaaW.PrintWords Go.Proofs.YtgalpgakdcfilaaW.PrintLast Go.Proofs.YtgalpgakdcfilaaW.PrintMore
attribute [local go_sem] max2_int min2_int max_two min_two max_three min_three max_four min_four   -- for this text's walks alone
set_option linter.unusedVariables false
set_option linter.unusedSimpArgs false

def impl_GameOf_1.f (a0_0 : Int) (a0_1 : Int) (a0_2 : Int) (a0_3 : Int) (a0_4 : Int) (a1_0 : Int) (a2_0 : Int) : Option (Bool) := if a0_0 = a1_0 then (some (a0_1 == a2_0)) else (some false)
set_option maxHeartbeats 8000000 in
set_option maxRecDepth 100000 in
theorem impl_GameOf_1.calls (a0_0 : Int) (a0_1 : Int) (a0_2 : Int) (a0_3 : Int) (a0_4 : Int) (gb403 : Nat) (a1_0 : Int) (gb404 : Nat) (a2_0 : Int) (r : Bool) (w : World) (hbk403 : w.heap[gb403]? = some (.cells #[.int .i64 a1_0] 3 (0, 0))) (hbk404 : w.heap[gb404]? = some (.cells #[.int .i64 a2_0] 3 (0, 0))) (h : impl_GameOf_1.f a0_0 a0_1 a0_2 a0_3 a0_4 a1_0 a2_0 = some r) :
    Calls Try.prog 141 #[.agg #[.int .i64 a0_0, .int .i64 a0_1, .int .i64 a0_2, .int .i64 a0_3, .int .i64 a0_4], .pointer (some ⟨gb403, 0, none⟩), .pointer (some ⟨gb404, 0, none⟩)] w fun e w' => e = .returned (.bool r) ∧ Below w.heap.size w w' := by
  have hu71 := Try.underlying71
  have BK403 := Aside0.mk hbk403
  clear hbk403
  have BK404 := Aside0.mk hbk404
  clear hbk404
  have HB := Aside0.mk (Below.refl w.heap.size w)
  have H : (if a0_0 = a1_0 then (some (a0_1 == a2_0)) else (some false)) = some r := h
  clear h
  by_cases c4 : a0_0 = a1_0
  · rw [if_pos c4] at H
    have c4b0 : (a0_0 == a1_0) = true := beq_iff_eq.mpr c4
    have c4b1 : (a0_0 != a1_0) = false := bne_eq_false_iff_eq.mpr c4
    clear c4
    obtain rfl := Option.some.inj H
    go_enter Try.func141, Try.ntmps141
    go_wp2_with (first | ((with_reducible refine gate_dst (N := 3) rfl ?_); refine box_event ?hg (N := 3) ?hd (cs := #[.int .i64 a0_0, .int .i64 a0_1, .int .i64 a0_2, .int .i64 a0_3, .int .i64 a0_4]) (t := 71) ?hr ?_; (case hd => rfl); (case hg => rfl); (case hr => first | (go_simp; done) | (go_simp; rfl)); intro gb405 hg w5 hbox hb; have BK405 := Aside0.mk (hbox); have GW405 := Aside0.mk ((bsz hg : w.heap.size ≤ gb405)); have GE405 := Aside0.mk ((bsz hg : w.heap.size ≤ gb405)); have NB403_405 := Aside0.mk ((nlt hg BK403.out : gb403 ≠ gb405)); have NB405_403 := Aside0.mk ((ngt hg BK403.out : gb405 ≠ gb403)); have NB404_405 := Aside0.mk ((nlt hg BK404.out : gb404 ≠ gb405)); have NB405_404 := Aside0.mk ((ngt hg BK404.out : gb405 ≠ gb404)); replace BK403 := Aside0.mk (bb BK403.out hb); replace BK404 := Aside0.mk (bb BK404.out hb); replace HB := Aside0.mk (below_step bel hb); clear hb hbox hg; have hnb6 := NB405_403.out; have hnc6 := NB403_405.out; have hnb7 := NB405_404.out; have hnc7 := NB404_405.out; obtain ⟨hcz8_0, hcz8_1, hcz8_2, hcz8_3, hcz8_4, hfz8_0, hfz8_1, hfz8_2, hfz8_3, hfz8_4⟩ := cf5 BK405.out; obtain ⟨hcz10_0, hfz10_0⟩ := cf1 BK403.out; obtain ⟨hcz11_0, hfz11_0⟩ := cf1 BK404.out))
    go_ret
    exact ⟨er, bel⟩
  · rw [if_neg c4] at H
    have c4b0 : (a0_0 == a1_0) = false := beq_eq_false_iff_ne.mpr c4
    have c4b1 : (a0_0 != a1_0) = true := bne_iff_ne.mpr c4
    obtain rfl := Option.some.inj H
    go_enter Try.func141, Try.ntmps141
    go_wp2_with (first | ((with_reducible refine gate_dst (N := 3) rfl ?_); refine box_event ?hg (N := 3) ?hd (cs := #[.int .i64 a0_0, .int .i64 a0_1, .int .i64 a0_2, .int .i64 a0_3, .int .i64 a0_4]) (t := 71) ?hr ?_; (case hd => rfl); (case hg => rfl); (case hr => first | (go_simp; done) | (go_simp; rfl)); intro gb405 hg w12 hbox hb; have BK405 := Aside0.mk (hbox); have GW405 := Aside0.mk ((bsz hg : w.heap.size ≤ gb405)); have GE405 := Aside0.mk ((bsz hg : w.heap.size ≤ gb405)); have NB403_405 := Aside0.mk ((nlt hg BK403.out : gb403 ≠ gb405)); have NB405_403 := Aside0.mk ((ngt hg BK403.out : gb405 ≠ gb403)); have NB404_405 := Aside0.mk ((nlt hg BK404.out : gb404 ≠ gb405)); have NB405_404 := Aside0.mk ((ngt hg BK404.out : gb405 ≠ gb404)); replace BK403 := Aside0.mk (bb BK403.out hb); replace BK404 := Aside0.mk (bb BK404.out hb); replace HB := Aside0.mk (below_step bel hb); clear hb hbox hg; have hnb13 := NB405_403.out; have hnc13 := NB403_405.out; have hnb14 := NB405_404.out; have hnc14 := NB404_405.out; obtain ⟨hcz15_0, hcz15_1, hcz15_2, hcz15_3, hcz15_4, hfz15_0, hfz15_1, hfz15_2, hfz15_3, hfz15_4⟩ := cf5 BK405.out; obtain ⟨hcz17_0, hfz17_0⟩ := cf1 BK403.out))
    go_ret
    exact ⟨er, bel⟩
def slices_IndexFunc_impl_Game_impl_Game_impl_GameOf_1.l0 : Nat → List (S71) → Int → Int → Int → Int → Option (Int)
  | 0, _, _, _, _, _ => none
  | k + 1, x0, x7, x8, x407000, x408000 => if x8 < x7 then (if 0 ≤ x8 then (if x8 < (x0.length : Int) then ((impl_GameOf_1.f ((rd_T71 x0 x8).f0) ((rd_T71 x0 x8).f1) ((rd_T71 x0 x8).f2) ((rd_T71 x0 x8).f3) ((rd_T71 x0 x8).f4) x407000 x408000).bind fun t409 => (if t409 = true then (some x8) else (slices_IndexFunc_impl_Game_impl_Game_impl_GameOf_1.l0 k x0 x7 (wrap64 (x8 + 1)) x407000 x408000))) else (none)) else (none)) else (some (-1))
def slices_IndexFunc_impl_Game_impl_Game_impl_GameOf_1.f (k : Nat) (l0 : List (S71))  (a2_0 : Int) (a3_0 : Int) : Option (Int) := slices_IndexFunc_impl_Game_impl_Game_impl_GameOf_1.l0 k l0 (l0.length : Int) 0 a2_0 a3_0
set_option maxHeartbeats 8000000 in
set_option maxRecDepth 100000 in
theorem slices_IndexFunc_impl_Game_impl_Game_impl_GameOf_1.calls (k : Nat) (A0 : Option Addr) (c0 : Nat) (l0 : List (S71))  (gb406 : Nat) (a2_0 : Int) (gb407 : Nat) (a3_0 : Int) (r : Int) (w : World) (hr0 : Kd.C k71 w A0 l0.length l0) (hc0 : l0.length ≤ c0) (hbk406 : w.heap[gb406]? = some (.cells #[.int .i64 a2_0] 3 (0, 0))) (hbk407 : w.heap[gb407]? = some (.cells #[.int .i64 a3_0] 3 (0, 0))) (h : slices_IndexFunc_impl_Game_impl_Game_impl_GameOf_1.f k l0 a2_0 a3_0 = some r) :
    Calls Try.prog 140 #[.slice A0 l0.length c0, .func (.func 141) #[] #[.pointer (some ⟨gb406, 0, none⟩), .pointer (some ⟨gb407, 0, none⟩)]] w fun e w' => e = .returned (.int .i64 r) ∧ Below w.heap.size w w' := by
  have hu71 := Try.underlying71
  have HR0 := Aside0.mk hr0
  have HC0 := Aside0.mk hc0
  clear hr0 hc0
  have BK406 := Aside0.mk hbk406
  clear hbk406
  have BK407 := Aside0.mk hbk407
  clear hbk407
  have HB := Aside0.mk (Below.refl w.heap.size w)
  have H : (slices_IndexFunc_impl_Game_impl_Game_impl_GameOf_1.l0 k l0 (l0.length : Int) 0 a2_0 a3_0) = some r := h
  clear h
  have H' := Aside0.mk H
  clear H
  go_enter Try.func140, Try.ntmps140
  go_wp2
  go_loopg [8] k (fun kq v8 w' => ∃ (x8_1 : Int), v8 = .int .i64 x8_1 ∧ Aside0 (slices_IndexFunc_impl_Game_impl_Game_impl_GameOf_1.l0 kq l0 (l0.length : Int) x8_1 a2_0 a3_0 = some r) ∧ Aside0 (kq ≤ k) ∧ Aside0 (w'.heap[gb406]? = some (.cells #[.int .i64 a2_0] 3 (0, 0))) ∧ Aside0 (w'.heap[gb407]? = some (.cells #[.int .i64 a3_0] 3 (0, 0))) ∧ Aside0 (Below w.heap.size w w'))
  case atStart => exact ⟨(0), (es), H', ⟨Nat.le_refl _⟩, ⟨bk BK406.out⟩, ⟨bk BK407.out⟩, ⟨bel⟩⟩
  case round =>
    clear H'
    try clear c1; try clear p2
    obtain ⟨x8_1, rfl, HA, HK1, BK406, BK407, HB⟩ := hrel
    cases gk with
    | zero => exact absurd HA.out (by simp [slices_IndexFunc_impl_Game_impl_Game_impl_GameOf_1.l0])
    | succ k1 =>
      have H := HA.out
      clear HA
      simp only [slices_IndexFunc_impl_Game_impl_Game_impl_GameOf_1.l0] at H
      by_cases c5 : x8_1 < (l0.length : Int)
      · rw [if_pos c5] at H
        have c5b0 : decide (x8_1 < (l0.length : Int)) = true := decide_eq_true c5
        clear c5
        by_cases c6 : 0 ≤ x8_1
        · rw [if_pos c6] at H
          have c6b0 : decide (0 ≤ x8_1) = true := decide_eq_true c6
          clear c6
          by_cases c7 : x8_1 < (l0.length : Int)
          · rw [if_pos c7] at H
            have c7b0 : decide (x8_1 < (l0.length : Int)) = true := decide_eq_true c7
            clear c7
            replace H := Option.bind_eq_some_iff.mp H
            obtain ⟨t409, A80, H⟩ := H
            replace H : (if t409 = true then (some x8_1) else (slices_IndexFunc_impl_Game_impl_Game_impl_GameOf_1.l0 k1 l0 (l0.length : Int) (wrap64 (x8_1 + 1)) a2_0 a3_0)) = some r := H
            have A8 := Aside0.mk A80
            clear A80
            by_cases c9 : t409 = true
            · subst c9
              have H1 : (some x8_1) = some r := by rw [if_pos rfl] at H; exact H
              clear H
              have H := H1
              clear H1
              obtain rfl := Option.some.inj H
              have p408 : 0 ≤ (x8_1 : Int) := asm
              have q408 : x8_1 < (l0.length : Int) := asm
              obtain ⟨ad408, e408, hx408_0, hx408_1, hx408_2, hx408_3, hx408_4⟩ := at_T71 HR0.out x8_1 p408 q408
              cases e408
              replace hx408_0 := hcl HB.out hx408_0
              replace hx408_1 := hcl HB.out hx408_1
              replace hx408_2 := hcl HB.out hx408_2
              replace hx408_3 := hcl HB.out hx408_3
              replace hx408_4 := hcl HB.out hx408_4
              replace p408 := eq_true p408
              replace q408 := eq_true q408
              go_wp2_with (first | (go_at_call 141; (with_reducible refine (impl_GameOf_1.calls ((rd_T71 l0 x8_1).f0) ((rd_T71 l0 x8_1).f1) ((rd_T71 l0 x8_1).f2) ((rd_T71 l0 x8_1).f3) ((rd_T71 l0 x8_1).f4) gb406 a2_0 gb407 a3_0 true _ ?side1 ?side2 A8.out).mono ?_); (case side1 => exact (bk BK406.out)); (case side2 => exact (bk BK407.out)); rintro e w10 ⟨rfl, hb⟩; replace BK406 := Aside0.mk (bb BK406.out hb); replace BK407 := Aside0.mk (bb BK407.out hb); replace HB := Aside0.mk (below_step bel hb); (try clear hb); (try clear hb2); (try clear hk); (try clear hi)))
              go_ret
              exact ⟨er, bel⟩
            · replace c9 := Bool.eq_false_iff.mpr c9
              subst c9
              have H1 : (slices_IndexFunc_impl_Game_impl_Game_impl_GameOf_1.l0 k1 l0 (l0.length : Int) (wrap64 (x8_1 + 1)) a2_0 a3_0) = some r := by rw [if_neg (show ¬ (false = true) by decide)] at H; exact H
              clear H
              have H := H1
              clear H1
              have H' := Aside0.mk H
              clear H
              have p408 : 0 ≤ (x8_1 : Int) := asm
              have q408 : x8_1 < (l0.length : Int) := asm
              obtain ⟨ad408, e408, hx408_0, hx408_1, hx408_2, hx408_3, hx408_4⟩ := at_T71 HR0.out x8_1 p408 q408
              cases e408
              replace hx408_0 := hcl HB.out hx408_0
              replace hx408_1 := hcl HB.out hx408_1
              replace hx408_2 := hcl HB.out hx408_2
              replace hx408_3 := hcl HB.out hx408_3
              replace hx408_4 := hcl HB.out hx408_4
              replace p408 := eq_true p408
              replace q408 := eq_true q408
              go_wp2_with (first | (go_at_call 141; (with_reducible refine (impl_GameOf_1.calls ((rd_T71 l0 x8_1).f0) ((rd_T71 l0 x8_1).f1) ((rd_T71 l0 x8_1).f2) ((rd_T71 l0 x8_1).f3) ((rd_T71 l0 x8_1).f4) gb406 a2_0 gb407 a3_0 false _ ?side1 ?side2 A8.out).mono ?_); (case side1 => exact (bk BK406.out)); (case side2 => exact (bk BK407.out)); rintro e w11 ⟨rfl, hb⟩; replace BK406 := Aside0.mk (bb BK406.out hb); replace BK407 := Aside0.mk (bb BK407.out hb); replace HB := Aside0.mk (below_step bel hb); (try clear hb); (try clear hb2); (try clear hk); (try clear hi)))
              go_roundg k1
              case measure => have := HK1.out; omega
              case rel => exact ⟨(wrap64 (x8_1 + 1)), (es), H', ⟨by have := HK1.out; omega⟩, ⟨bk BK406.out⟩, ⟨bk BK407.out⟩, ⟨bel⟩⟩
          · rw [if_neg c7] at H
            exact absurd H (by simp)
        · rw [if_neg c6] at H
          exact absurd H (by simp)
      · rw [if_neg c5] at H
        have c5b0 : decide (x8_1 < (l0.length : Int)) = false := decide_eq_false c5
        clear c5
        obtain rfl := Option.some.inj H
        go_wp2
        go_ret
        exact ⟨er, bel⟩
def impl_GameOf.f (k : Nat) (l0 : List (S71)) (a1 : Int) (a2 : Int) : Option (Int) := (slices_IndexFunc_impl_Game_impl_Game_impl_GameOf_1.f k l0 a1 a2).bind fun t412 => (some t412)
set_option maxHeartbeats 8000000 in
set_option maxRecDepth 100000 in
theorem impl_GameOf.calls (k : Nat) (A0 : Option Addr) (c0 : Nat) (l0 : List (S71)) (a1 : Int) (a2 : Int) (r : Int) (w : World) (hr0 : Kd.C k71 w A0 l0.length l0) (hc0 : l0.length ≤ c0) (h : impl_GameOf.f k l0 a1 a2 = some r) :
    Calls Try.prog 126 #[.slice A0 l0.length c0, .int .i64 a1, .int .i64 a2] w fun e w' => e = .returned (.int .i64 r) ∧ Below w.heap.size w w' := by
  have HR0 := Aside0.mk hr0
  have HC0 := Aside0.mk hc0
  clear hr0 hc0
  have HB := Aside0.mk (Below.refl w.heap.size w)
  have H : ((slices_IndexFunc_impl_Game_impl_Game_impl_GameOf_1.f k l0 a1 a2).bind fun t412 => (some t412)) = some r := h
  clear h
  replace H := Option.bind_eq_some_iff.mp H
  obtain ⟨t412, A40, H⟩ := H
  replace H : (some t412) = some r := H
  have A4 := Aside0.mk A40
  clear A40
  obtain rfl := Option.some.inj H
  go_enter Try.func126, Try.ntmps126
  go_wp2_with (first | ((with_reducible refine gate_dst (N := 4) rfl ?_); refine box_event ?hg (N := 4) ?hd (cs := #[.int .i64 a1]) (t := 3) ?hr ?_; (case hd => rfl); (case hg => rfl); (case hr => first | (go_simp; done) | (go_simp; rfl)); intro gb410 hg w5 hbox hb; have BK410 := Aside0.mk (hbox); have GW410 := Aside0.mk ((bsz hg : w.heap.size ≤ gb410)); have GE410 := Aside0.mk ((bsz hg : w.heap.size ≤ gb410)); replace HB := Aside0.mk (below_step bel hb); clear hb hbox hg) | ((with_reducible refine gate_dst (N := 5) rfl ?_); refine box_event ?hg (N := 5) ?hd (cs := #[.int .i64 a2]) (t := 3) ?hr ?_; (case hd => rfl); (case hg => rfl); (case hr => first | (go_simp; done) | (go_simp; rfl)); intro gb411 hg w6 hbox hb; have BK411 := Aside0.mk (hbox); have GW411 := Aside0.mk ((bsz hg : w.heap.size ≤ gb411)); have GE411 := Aside0.mk ((bsz hg : w.heap.size ≤ gb411)); have NB410_411 := Aside0.mk ((nlt hg BK410.out : gb410 ≠ gb411)); have NB411_410 := Aside0.mk ((ngt hg BK410.out : gb411 ≠ gb410)); replace BK410 := Aside0.mk (bb BK410.out hb); replace HB := Aside0.mk (below_step bel hb); clear hb hbox hg) | ((with_reducible refine gate_callee (f := 140) rfl ?_); refine goesL_ (some 9) rfl rfl Try.func140 (by kernel_rfl) rfl #[.slice A0 l0.length c0, .func (.func 141) #[] #[.pointer (some ⟨gb410, 0, none⟩), .pointer (some ⟨gb411, 0, none⟩)]] rfl ga ?_; (with_reducible refine (slices_IndexFunc_impl_Game_impl_Game_impl_GameOf_1.calls k _ _ l0 gb410 a1 gb411 a2 t412 _ ?side1 ?side2 ?side3 ?side4 A4.out).mono ?_); (case side1 => exact ck (Kd.C_below HR0.out HB.out)); (case side2 => exact HC0.out); (case side3 => exact (bk BK410.out)); (case side4 => exact (bk BK411.out)); rintro e w7 ⟨rfl, hb⟩; refine ⟨_, rfl, ?_⟩; replace BK410 := Aside0.mk (bb BK410.out hb); replace BK411 := Aside0.mk (bb BK411.out hb); replace HB := Aside0.mk (below_step bel hb); (try clear hb)))
  go_ret
  exact ⟨er, bel⟩

end Go.Proofs.Ytgalpgakdcfilaa.Q
