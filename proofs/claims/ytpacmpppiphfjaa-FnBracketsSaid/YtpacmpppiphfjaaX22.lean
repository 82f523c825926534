-- Written by a program of this session (wip/xp.py, over the kit's print) out of the translation: functions, and the walks that show them.
import Derived.Test.YtpacmpppiphfjaaX0
import Derived.Test.YtpacmpppiphfjaaX20
import Derived.Test.YtpacmpppiphfjaaX21
namespace Go.Proofs.Ytpacmpppiphfjaa.X
open Go.RowKit Go.Proofs.YtpacmpppiphfjaaW.PrintWords Go.Proofs.YtpacmpppiphfjaaW.PrintLast Go.Proofs.YtpacmpppiphfjaaW.PrintMore
attribute [local go_sem] max2_int min2_int max_two min_two max_three min_three max_four min_four   -- for this text's walks alone
set_option linter.unusedVariables false
set_option linter.unusedSimpArgs false

/-! ### spec_l01New: function 52 -/
def spec_l01New.l0 : Nat → List Int → Int → Int → Option (List Int × Int × Int)
  | 0, _, _, _ => none
  | k + 1, x0, x3, x4 => if x4 < (x0.length : Int) then (if x4 < 4000 then (if 0 ≤ x4 then (spec_l01New.l0 k x0 (Go.bits .and .i64 (wrap64 ((wrap64 ((wrap64 (x3 * 89)) + (wrap64 (rd x0 x4)))) + 7)) 1073741823) (wrap64 (x4 + 1))) else (none)) else (some (x0, 0, x3))) else (some (x0, 0, x3))
def spec_l01New.f (k : Nat) (l0 : List Int) : Option (List Int × Int × Int) := spec_l01New.l0 k l0 (wrap64 (1978 + (l0.length : Int))) 0
theorem spec_l01New.mono_l : ∀ k, (∀ y0 y1 y2, LeO (spec_l01New.l0 k y0 y1 y2) (spec_l01New.l0 (k + 1) y0 y1 y2))
  | 0 => fun _ _ _ r h => by simp [spec_l01New.l0] at h
  | k + 1 => by
    have ih0 := spec_l01New.mono_l k
    · intro y0 y1 y2
      unfold spec_l01New.l0
      repeat' first
      | (with_reducible exact ih0 _ _ _)
      | (with_reducible exact LeO.refl _)
      | (with_reducible exact LeO.none _)
      | (with_reducible refine LeO.ite ?_ ?_)
      | (with_reducible refine LeO.bind ?_ (fun _ => ?_))
      | exact ih0 _ _ _
      | exact LeO.none _
      | refine LeO.ite ?_ ?_
      | refine LeO.bind ?_ (fun _ => ?_)
theorem spec_l01New.mono : ∀ a0 k, LeO (spec_l01New.f k a0) (spec_l01New.f (k + 1) a0) := by
  intro a0 k
  have ih0 := spec_l01New.mono_l k
  unfold spec_l01New.f
  repeat' first
      | (with_reducible exact ih0 _ _ _)
      | (with_reducible exact LeO.refl _)
      | (with_reducible exact LeO.none _)
      | (with_reducible refine LeO.ite ?_ ?_)
      | (with_reducible refine LeO.bind ?_ (fun _ => ?_))
      | exact ih0 _ _ _
      | exact LeO.none _
      | refine LeO.ite ?_ ?_
      | refine LeO.bind ?_ (fun _ => ?_)
set_option maxHeartbeats 8000000 in
set_option maxRecDepth 100000 in
theorem spec_l01New.calls (k : Nat) (A0 : Option Addr) (c0 : Nat) (l0 : List Int) (r1 : List Int) (r2 : Int) (r3 : Int) (w0 w : World) (hB : Below w0.heap.size w0 w) (hr0 : Kd.C (Kd.int .u8) w0 A0 l0.length l0) (hc0 : l0.length ≤ c0) (h : spec_l01New.f k l0 = some (r1, r2, r3)) :
    Calls Try.prog 52 #[.slice A0 l0.length c0] w fun e w' => ∃ g_ : Nat, e = .returned (.pointer (some ⟨g_, 0, none⟩)) ∧ IsS62 w0 w' g_ r1 r2 r3 ∧ Below w0.heap.size w0 w' ∧ Below w.heap.size w w' := by
  have hu62 := Try.underlying62
  have HR0 := Aside0.mk hr0
  have HC0 := Aside0.mk hc0
  clear hr0 hc0
  have HBW := Aside0.mk (Below.refl w.heap.size w)
  have HW0 := Aside0.mk hB.size
  have HB := Aside0.mk hB
  clear hB
  have H : (spec_l01New.l0 k l0 (wrap64 (1978 + (l0.length : Int))) 0) = some (r1, r2, r3) := h
  clear h
  have H' := Aside0.mk H
  clear H
  go_enter Try.func52, Try.ntmps52
  go_wp2
  go_loopg [3, 4] k (fun kq v3 v4 w' => ∃ (x3_1 : Int) (x4_1 : Int), v3 = .int .i64 x3_1 ∧ v4 = .int .i64 x4_1 ∧ Aside0 (spec_l01New.l0 kq l0 x3_1 x4_1 = some (r1, r2, r3)) ∧ Aside0 (kq ≤ k) ∧ Aside0 (Below w0.heap.size w0 w') ∧ Aside0 (Below w.heap.size w w'))
  case atStart => exact ⟨(wrap64 (1978 + (l0.length : Int))), (0), (es), (es), H', ⟨Nat.le_refl _⟩, ⟨bel⟩, ⟨bel⟩⟩
  case round =>
    clear H'
    obtain ⟨x3_1, x4_1, rfl, rfl, HA, HK1, HB, HBW⟩ := hrel
    cases gk with
    | zero => exact absurd HA.out (by simp [spec_l01New.l0])
    | succ k1 =>
      have H := HA.out
      clear HA
      simp only [spec_l01New.l0] at H
      by_cases c2 : x4_1 < (l0.length : Int)
      · rw [if_pos c2] at H
        have c2b0 : decide (x4_1 < (l0.length : Int)) = true := decide_eq_true c2
        clear c2
        by_cases c3 : x4_1 < 4000
        · rw [if_pos c3] at H
          have c3b0 : decide (x4_1 < 4000) = true := decide_eq_true c3
          clear c3
          by_cases c4 : 0 ≤ x4_1
          · rw [if_pos c4] at H
            have c4b0 : decide (0 ≤ x4_1) = true := decide_eq_true c4
            clear c4
            have H' := Aside0.mk H
            clear H
            have p443 : 0 ≤ (x4_1 : Int) := asm
            have q443 : x4_1 < (l0.length : Int) := asm
            obtain ⟨ad443, e443, hx443_0⟩ := Kd.at_int HR0.out x4_1 p443 q443
            cases e443
            replace hx443_0 := pw_cell_below HB.out hx443_0
            replace p443 := eq_true p443
            replace q443 := eq_true q443
            go_wp2
            go_roundg k1
            case measure => have := HK1.out; omega
            case rel => exact ⟨(Go.bits .and .i64 (wrap64 ((wrap64 ((wrap64 (x3_1 * 89)) + (wrap64 (rd l0 x4_1)))) + 7)) 1073741823), (wrap64 (x4_1 + 1)), (es), (es), H', ⟨by have := HK1.out; omega⟩, ⟨bel⟩, ⟨bel⟩⟩
          · rw [if_neg c4] at H
            exact absurd H (by simp)
        · rw [if_neg c3] at H
          have c3b0 : decide (x4_1 < 4000) = false := decide_eq_false c3
          clear c3
          simp only [Option.some.injEq, Prod.mk.injEq] at H
          obtain ⟨rfl, rfl, rfl⟩ := H
          go_wp2_with (first | ((with_reducible refine gate_dst (N := 31) rfl ?_); refine box_event ?hg (N := 31) ?hd (cs := #[.slice A0 l0.length c0, .int .i64 0, .int .i64 x3_1]) (t := 62) ?hr ?_; (case hd => rfl); (case hg => rfl); (case hr => first | (go_simp; done) | (go_simp; rfl)); intro gb444 hg w5 hbox hb; have BK444 := Aside0.mk (hbox); have GW444 := Aside0.mk ((bsz hg : w.heap.size ≤ gb444)); have GE444 := Aside0.mk ((Nat.le_trans HW0.out (bsz hg : w.heap.size ≤ gb444) : w0.heap.size ≤ gb444)); replace HBW := Aside0.mk (below_step HBW.out hb); replace HB := Aside0.mk (below_step bel hb); clear hb hbox hg))
          go_ret
          exact ⟨_, rfl, (show IsS62 w0 _ gb444 l0 0 x3_1 from ⟨_, _, bk BK444.out, GE444.out, HR0.out⟩), bel, bel⟩
      · rw [if_neg c2] at H
        have c2b0 : decide (x4_1 < (l0.length : Int)) = false := decide_eq_false c2
        clear c2
        simp only [Option.some.injEq, Prod.mk.injEq] at H
        obtain ⟨rfl, rfl, rfl⟩ := H
        go_wp2_with (first | ((with_reducible refine gate_dst (N := 31) rfl ?_); refine box_event ?hg (N := 31) ?hd (cs := #[.slice A0 l0.length c0, .int .i64 0, .int .i64 x3_1]) (t := 62) ?hr ?_; (case hd => rfl); (case hg => rfl); (case hr => first | (go_simp; done) | (go_simp; rfl)); intro gb445 hg w6 hbox hb; have BK445 := Aside0.mk (hbox); have GW445 := Aside0.mk ((bsz hg : w.heap.size ≤ gb445)); have GE445 := Aside0.mk ((Nat.le_trans HW0.out (bsz hg : w.heap.size ≤ gb445) : w0.heap.size ≤ gb445)); replace HBW := Aside0.mk (below_step HBW.out hb); replace HB := Aside0.mk (below_step bel hb); clear hb hbox hg))
        go_ret
        exact ⟨_, rfl, (show IsS62 w0 _ gb445 l0 0 x3_1 from ⟨_, _, bk BK445.out, GE445.out, HR0.out⟩), bel, bel⟩

/-! ### spec_MakeCup: function 36 -/
def spec_MakeCup.f (k : Nat) (l0 : List Int) : Option (Int × List Int) := (spec_l01New.f k l0).bind fun bt447 => ((spec_l14Draw.f k bt447.1 bt447.2.1 bt447.2.2).bind fun bt451 => (some (bt451.1, bt451.2.1)))
theorem spec_MakeCup.mono : ∀ a0 k, LeO (spec_MakeCup.f k a0) (spec_MakeCup.f (k + 1) a0) := by
  intro a0 k
  unfold spec_MakeCup.f
  repeat' first
      | (with_reducible exact spec_l01New.mono _ _)
      | (with_reducible exact spec_l14Draw.mono _ _ _ _)
      | (with_reducible exact LeO.refl _)
      | (with_reducible exact LeO.none _)
      | (with_reducible refine LeO.ite ?_ ?_)
      | (with_reducible refine LeO.bind ?_ (fun _ => ?_))
      | exact spec_l01New.mono _ _
      | exact spec_l14Draw.mono _ _ _ _
      | exact LeO.none _
      | refine LeO.ite ?_ ?_
      | refine LeO.bind ?_ (fun _ => ?_)
set_option maxHeartbeats 8000000 in
set_option maxRecDepth 100000 in
theorem spec_MakeCup.calls (k : Nat) (A0 : Option Addr) (c0 : Nat) (l0 : List Int) (r1 : Int) (r2 : List Int) (w : World) (hr0 : Kd.C (Kd.int .u8) w A0 l0.length l0) (hc0 : l0.length ≤ c0) (h : spec_MakeCup.f k l0 = some (r1, r2)) :
    Calls Try.prog 36 #[.slice A0 l0.length c0] w fun e w' => ∃ v1_ : Value, e = .returned (.agg #[.int .i64 r1, v1_]) ∧ Kd.R (Kd.int .i64) 3 w' w.heap.size (fun _ => True) v1_ r2 ∧ Below w.heap.size w w' := by
  have hu36 := Try.underlying36
  have HR0 := Aside0.mk hr0
  have HC0 := Aside0.mk hc0
  clear hr0 hc0
  have HB := Aside0.mk (Below.refl w.heap.size w)
  have H : ((spec_l01New.f k l0).bind fun bt447 => ((spec_l14Draw.f k bt447.1 bt447.2.1 bt447.2.2).bind fun bt451 => (some (bt451.1, bt451.2.1)))) = some (r1, r2) := h
  clear h
  replace H := Option.bind_eq_some_iff.mp H
  obtain ⟨⟨t447, t448, t449⟩, A20, H⟩ := H
  replace H : ((spec_l14Draw.f k t447 t448 t449).bind fun bt451 => (some (bt451.1, bt451.2.1))) = some (r1, r2) := H
  have A2 := Aside0.mk A20
  clear A20
  replace H := Option.bind_eq_some_iff.mp H
  obtain ⟨⟨t451, t452, t455, t456⟩, A30, H⟩ := H
  replace H : (some (t451, t452)) = some (r1, r2) := H
  have A3 := Aside0.mk A30
  clear A30
  simp only [Option.some.injEq, Prod.mk.injEq] at H
  obtain ⟨rfl, rfl⟩ := H
  go_enter Try.func36, Try.ntmps36
  go_wp2_with (first | ((with_reducible refine gate_dst (N := 2) rfl ?_); refine box_event ?hg (N := 2) ?hd (cs := #[.int .i64 0, .slice none 0 0]) (t := 36) ?hr ?_; (case hd => rfl); (case hg => rfl); (case hr => first | (go_simp; done) | (go_simp; rfl)); intro gb446 hg w4 hbox hb; have BK446 := Aside0.mk (hbox); have GW446 := Aside0.mk ((bsz hg : w.heap.size ≤ gb446)); have GE446 := Aside0.mk ((bsz hg : w.heap.size ≤ gb446)); replace HB := Aside0.mk (below_step bel hb); clear hb hbox hg) | ((with_reducible refine gate_callee (f := 52) rfl ?_); refine goesL_ (some 4) rfl rfl Try.func52 (by kernel_rfl) rfl #[.slice A0 l0.length c0] rfl ga ?_; (with_reducible refine (spec_l01New.calls k _ _ l0 t447 t448 t449 w _ ?side1 ?side2 ?side3 A2.out).mono ?_); (case side1 => exact bel); (case side2 => exact HR0.out); (case side3 => exact HC0.out); rintro e w5 ⟨g450, rfl, hi, hb, hb2⟩; refine ⟨_, rfl, ?_⟩; have HI450 := Aside0.mk (hi); have NB450_446 := Aside0.mk (IsS62.ne_blk hi (bb BK446.out hb2) (by decide)); have NB446_450 := Aside0.mk (Ne.symm (IsS62.ne_blk hi (bb BK446.out hb2) (by decide))); replace BK446 := Aside0.mk (bb BK446.out hb2); replace HB := Aside0.mk (hb); (try clear hb); (try clear hb2); (try clear hi)) | ((with_reducible refine gate_callee (f := 51) rfl ?_); refine goesL_ (some 5) rfl rfl Try.func51 (by kernel_rfl) rfl #[.pointer (some ⟨g450, 0, none⟩)] rfl ga ?_; (with_reducible refine (spec_l14Draw.calls k g450 t447 t448 t449 t451 t452 t455 t456 w _ ?side1 ?side2 A3.out).mono ?_); (case side1 => repeat (first | (with_reducible first | exact HI450.out | apply IsS62.alloc | apply IsS62.drewN | apply IsS62.drew | apply IsS62.set_1 | apply IsS62.set_2 | refine IsS62.far ?_ NB450_446.out _) | exact HI450.out)); (case side2 => repeat (first | (with_reducible first | exact HB.out | apply below_alloc | apply pw_below_drewN | apply below_drew1 | refine below_set ?_ (IsS62.ge HI450.out) | refine below_set ?_ GE446.out) | exact HB.out)); rintro e w6 ⟨v453, rfl, ho0, hi, hb, hk⟩; refine ⟨_, rfl, ?_⟩; have HO454 := Aside0.mk (Kd.R_lower ho0 (below_size (by repeat (first | (with_reducible first | exact HB.out | apply below_alloc | apply pw_below_drewN | apply below_drew1 | refine below_set ?_ (IsS62.ge HI450.out) | refine below_set ?_ GE446.out) | exact HB.out)))); replace HI450 := Aside0.mk (hi); replace BK446 := Aside0.mk (KeepBut.blk hk (g' := gb446) (o := .cells #[.int .i64 0, .slice none 0 0] 36 (0, 0)) (bk BK446.out) NB446_450.out (by simp)); replace HB := Aside0.mk (hb); (try clear hb); (try clear hk); (try clear hi); (try clear ho0); have hnb7 := NB446_450.out; have hnc7 := NB450_446.out; obtain ⟨hcz8_0, hcz8_1, hfz8_0, hfz8_1⟩ := cf2 BK446.out; obtain ⟨Ao9, co9, eo9⟩ := Kd.R_slice HO454.out; subst eo9))
  refine bodyPost_ret (results_cell_row rfl _ _ gb446 36 #[.int .i64 t451, .slice Ao9 t452.length co9] (0, 0) _ rfl (by (with_reducible repeat (first | refine blk_drewN ?_ _ | refine blk_drew ?_ | refine blk_alloc ?_ _)); refine blk_put (cs := #[.int .i64 t451, .slice none 0 0]) ?_ 1 _ rfl; (with_reducible repeat (first | refine blk_drewN ?_ _ | refine blk_drew ?_ | refine blk_alloc ?_ _)); refine blk_put (cs := #[.int .i64 0, .slice none 0 0]) ?_ 0 _ rfl; (with_reducible repeat (first | refine blk_drewN ?_ _ | refine blk_drew ?_ | refine blk_alloc ?_ _)); exact BK446.out) Try.underlying36 rfl (by kernel_rfl)) rfl ?_
  exact ⟨_, er, by (with_reducible repeat (first | apply Kd.R_alloc | apply Kd.R_drewN | apply Kd.R_drew)); exact Kd.R_mono (Kd.R_far (p := ⟨gb446, 1, none⟩) (Kd.R_far (p := ⟨gb446, 0, none⟩) (Kd.R_types HO454.out BK446.out (by decide)) (fun _ hk => hk.2) (.int .i64 t451)) (fun _ hk => hk.2) (.slice Ao9 t452.length co9)) (fun _ hk => trivial), by repeat (first | (with_reducible first | exact HB.out | apply below_alloc | apply pw_below_drewN | apply below_drew1 | refine below_set ?_ (IsS62.ge HI450.out) | refine below_set ?_ GE446.out) | exact HB.out)⟩

/-! ### spec_l27New: function 54 (this session's own text) -/
def spec_l27New.l0 : Nat → Int → Int → List Int → Int → Int → Option (List Int × Int × Int)
  | 0, _, _, _, _, _ => none
  | k + 1, x1, x6, x1000, x1001, x1002 => if x6 < x1 then ((spec_l01Byte.f x1000 x1001 x1002).bind fun b => (spec_l27New.l0 k x1 (wrap64 (x6 + 1)) x1000 b.2.1 b.2.2)) else (some (x1000, x1001, x1002))
def spec_l27New.f (k : Nat) (l0 : List Int) (a1 : Int) : Option (List Int × Int × Int) := (spec_l01New.f k l0).bind fun b => (spec_l27New.l0 k a1 0 b.1 b.2.1 b.2.2)
theorem spec_l27New.mono_l : ∀ k, (∀ y0 y1 y2 y3 y4, LeO (spec_l27New.l0 k y0 y1 y2 y3 y4) (spec_l27New.l0 (k + 1) y0 y1 y2 y3 y4))
  | 0 => fun _ _ _ _ _ r h => by simp [spec_l27New.l0] at h
  | k + 1 => by
    have ih0 := spec_l27New.mono_l k
    · intro y0 y1 y2 y3 y4
      unfold spec_l27New.l0
      repeat' first
      | (with_reducible exact ih0 _ _ _ _ _)
      | (with_reducible exact spec_l01New.mono _ _)
      | (with_reducible exact LeO.refl _)
      | (with_reducible exact LeO.none _)
      | (with_reducible refine LeO.ite ?_ ?_)
      | (with_reducible refine LeO.bind ?_ (fun _ => ?_))
      | exact ih0 _ _ _ _ _
      | exact spec_l01New.mono _ _
      | exact LeO.none _
      | refine LeO.ite ?_ ?_
      | refine LeO.bind ?_ (fun _ => ?_)
theorem spec_l27New.mono : ∀ a0 a1 k, LeO (spec_l27New.f k a0 a1) (spec_l27New.f (k + 1) a0 a1) := by
  intro a0 a1 k
  have ih0 := spec_l27New.mono_l k
  unfold spec_l27New.f
  repeat' first
      | (with_reducible exact ih0 _ _ _ _ _)
      | (with_reducible exact spec_l01New.mono _ _)
      | (with_reducible exact LeO.refl _)
      | (with_reducible exact LeO.none _)
      | (with_reducible refine LeO.ite ?_ ?_)
      | (with_reducible refine LeO.bind ?_ (fun _ => ?_))
      | exact ih0 _ _ _ _ _
      | exact spec_l01New.mono _ _
      | exact LeO.none _
      | refine LeO.ite ?_ ?_
      | refine LeO.bind ?_ (fun _ => ?_)
set_option maxHeartbeats 8000000 in
set_option maxRecDepth 100000 in
theorem spec_l27New.own (k : Nat) (A0 : Option Addr) (c0 : Nat) (l0 : List Int) (a1 : Int) (r1 : List Int) (r2 : Int) (r3 : Int) (w : World) (hr0 : Kd.C (Kd.int .u8) w A0 l0.length l0) (hc0 : l0.length ≤ c0) (h : spec_l27New.f k l0 a1 = some (r1, r2, r3)) :
    Calls Try.prog 54 #[.slice A0 l0.length c0, .int .i64 a1] w fun e w' => ∃ g_ : Nat, e = .returned (.pointer (some ⟨g_, 0, none⟩)) ∧ IsS62 w w' g_ r1 r2 r3 ∧ Below w.heap.size w w' := by
  have HR0 := Aside0.mk hr0
  have HC0 := Aside0.mk hc0
  clear hr0 hc0
  have HB := Aside0.mk (Below.refl w.heap.size w)
  obtain ⟨⟨t1, t2, t3⟩, A10, H⟩ := Option.bind_eq_some_iff.mp h
  clear h
  replace H : spec_l27New.l0 k a1 0 t1 t2 t3 = some (r1, r2, r3) := H
  have A1 := Aside0.mk A10
  clear A10
  have H' := Aside0.mk H
  clear H
  go_enter Try.func54, Try.ntmps54
  go_wp2_with (first | ((with_reducible refine gate_callee (f := 52) rfl ?_); refine goesL_ (some 8) rfl rfl Try.func52 (by kernel_rfl) rfl #[.slice A0 l0.length c0] rfl (by (try simp only [List.map_toArray, List.map_cons, List.map_nil]); first | done | rfl) ?_; (with_reducible refine (spec_l01New.calls k _ _ l0 t1 t2 t3 w _ ?side1 ?side2 ?side3 A1.out).mono ?_); (case side1 => exact HB.out); (case side2 => exact HR0.out); (case side3 => exact HC0.out); rintro e w5 ⟨g, rfl, hi, hb, hb2⟩; refine ⟨_, rfl, ?_⟩; have HI := Aside0.mk hi; have n0_ := Aside0.mk hb; clear HB hi hb hb2; have HB := n0_; clear n0_))
  go_loopg [6] k (fun kq v6 w' => ∃ (i : Int) (x : Int) (y : Int), v6 = .int .i64 i ∧ Aside0 (spec_l27New.l0 kq a1 i t1 x y = some (r1, r2, r3)) ∧ Aside0 (kq ≤ k) ∧ Aside0 (IsS62 w w' g t1 x y) ∧ Aside0 (Below w.heap.size w w'))
  case atStart => exact ⟨0, t2, t3, rfl, H', ⟨Nat.le_refl _⟩, HI, HB⟩
  case round =>
    clear H' HI HB
    obtain ⟨i, x, y, rfl, HA, HK1, HI, HB⟩ := hrel
    cases gk with
    | zero => exact absurd HA.out (by simp [spec_l27New.l0])
    | succ k1 =>
      have H := HA.out
      clear HA
      simp only [spec_l27New.l0] at H
      by_cases c : i < a1
      · rw [if_pos c] at H
        have cb : decide (i < a1) = true := decide_eq_true c
        clear c
        obtain ⟨⟨u1, u2, u3⟩, A20, H⟩ := Option.bind_eq_some_iff.mp H
        replace H : spec_l27New.l0 k1 a1 (wrap64 (i + 1)) t1 u2 u3 = some (r1, r2, r3) := H
        have A2 := Aside0.mk A20
        clear A20
        have HN := Aside0.mk H
        clear H
        go_wp2_with (first | ((with_reducible refine gate_callee (f := 55) rfl ?_); refine goesL_ (some 15) rfl rfl Try.func55 (by kernel_rfl) rfl #[.pointer (some ⟨g, 0, none⟩)] rfl (by (try simp only [List.map_toArray, List.map_cons, List.map_nil]); first | done | rfl) ?_; (with_reducible refine (spec_l01Byte.calls g t1 x y u1 u2 u3 w _ ?side1 ?side2 A2.out).mono ?_); (case side1 => exact HI.out); (case side2 => exact HB.out); rintro e w6 ⟨rfl, hi, hb, hk⟩; refine ⟨_, rfl, ?_⟩; have n0_ := Aside0.mk hi; have n1_ := Aside0.mk hb; clear HI HB hi hb hk; have HI := n0_; have HB := n1_; clear n0_ n1_))
        go_roundg k1
        case measure => have := HK1.out; omega
        case rel => exact ⟨_, u2, u3, rfl, HN, ⟨by have := HK1.out; omega⟩, HI, HB⟩
      · rw [if_neg c] at H
        have cb : decide (i < a1) = false := decide_eq_false c
        clear c
        simp only [Option.some.injEq, Prod.mk.injEq] at H
        obtain ⟨rfl, rfl, rfl⟩ := H
        go_wp2
        go_ret
        exact ⟨g, rfl, HI.out, HB.out⟩

/-! ### spec_MakeNum: function 38 (this session's own text) -/
def spec_MakeNum.f (k : Nat) (l0 : List Int) (a1 : Int) : Option Int := (spec_l27New.f k l0 a1).bind fun b => (spec_l01Byte.f b.1 b.2.1 b.2.2).bind fun x => (spec_l01Byte.f b.1 x.2.1 x.2.2).bind fun y => some (wrap64 (wrap64 (x.1 * 256) + y.1))
theorem spec_MakeNum.mono : ∀ a0 a1 k, LeO (spec_MakeNum.f k a0 a1) (spec_MakeNum.f (k + 1) a0 a1) := by
  intro a0 a1 k
  unfold spec_MakeNum.f
  repeat' first
      | (with_reducible exact spec_l27New.mono _ _ _)
      | (with_reducible exact LeO.refl _)
      | (with_reducible exact LeO.none _)
      | (with_reducible refine LeO.ite ?_ ?_)
      | (with_reducible refine LeO.bind ?_ (fun _ => ?_))
      | exact spec_l27New.mono _ _ _
      | exact LeO.none _
      | refine LeO.ite ?_ ?_
      | refine LeO.bind ?_ (fun _ => ?_)
set_option maxHeartbeats 8000000 in
set_option maxRecDepth 100000 in
theorem spec_MakeNum.calls (k : Nat) (A0 : Option Addr) (c0 : Nat) (l0 : List Int) (a1 : Int) (r : Int) (w : World) (hr0 : Kd.C (Kd.int .u8) w A0 l0.length l0) (hc0 : l0.length ≤ c0) (h : spec_MakeNum.f k l0 a1 = some r) :
    Calls Try.prog 38 #[.slice A0 l0.length c0, .int .i64 a1] w fun e w' => e = .returned (.int .i64 r) ∧ Below w.heap.size w w' := by
  have HR0 := Aside0.mk hr0
  have HC0 := Aside0.mk hc0
  clear hr0 hc0
  obtain ⟨⟨t1, t2, t3⟩, A10, H⟩ := Option.bind_eq_some_iff.mp h
  clear h
  have A1 := Aside0.mk A10
  clear A10
  replace H := Option.bind_eq_some_iff.mp H
  obtain ⟨⟨x1, x2, x3⟩, A20, H⟩ := H
  have A2 := Aside0.mk A20
  clear A20
  replace H := Option.bind_eq_some_iff.mp H
  obtain ⟨⟨y1, y2, y3⟩, A30, H⟩ := H
  have A3 := Aside0.mk A30
  clear A30
  replace H : some (wrap64 (wrap64 (x1 * 256) + y1)) = some r := H
  obtain rfl := Option.some.inj H
  clear H
  go_enter Try.func38, Try.ntmps38
  go_wp2_with (first | ((with_reducible refine gate_callee (f := 54) rfl ?_); refine goesL_ (some 8) rfl rfl Try.func54 (by kernel_rfl) rfl #[.slice A0 l0.length c0, .int .i64 a1] rfl (by (try simp only [List.map_toArray, List.map_cons, List.map_nil]); first | done | rfl) ?_; (with_reducible refine (spec_l27New.own k _ _ l0 a1 t1 t2 t3 _ ?side2 ?side3 A1.out).mono ?_); (case side2 => exact HR0.out); (case side3 => exact HC0.out); rintro e w5 ⟨g, rfl, hi, hb⟩; refine ⟨_, rfl, ?_⟩; have HI := Aside0.mk hi; have HB := Aside0.mk hb; clear hi hb) | ((with_reducible refine gate_callee (f := 55) rfl ?_); refine goesL_ (some 10) rfl rfl Try.func55 (by kernel_rfl) rfl #[.pointer (some ⟨g, 0, none⟩)] rfl (by (try simp only [List.map_toArray, List.map_cons, List.map_nil]); first | done | rfl) ?_; (with_reducible refine (spec_l01Byte.calls g t1 t2 t3 x1 x2 x3 w _ ?side1 ?side2 A2.out).mono ?_); (case side1 => exact HI.out); (case side2 => exact HB.out); rintro e w6 ⟨rfl, hi, hb, hk⟩; refine ⟨_, rfl, ?_⟩; have n0_ := Aside0.mk hi; have n1_ := Aside0.mk hb; clear HI HB hi hb hk; have HI := n0_; have HB := n1_; clear n0_ n1_) | ((with_reducible refine gate_callee (f := 55) rfl ?_); refine goesL_ (some 13) rfl rfl Try.func55 (by kernel_rfl) rfl #[.pointer (some ⟨g, 0, none⟩)] rfl (by (try simp only [List.map_toArray, List.map_cons, List.map_nil]); first | done | rfl) ?_; (with_reducible refine (spec_l01Byte.calls g t1 x2 x3 y1 y2 y3 w _ ?side1 ?side2 A3.out).mono ?_); (case side1 => exact HI.out); (case side2 => exact HB.out); rintro e w6 ⟨rfl, hi, hb, hk⟩; refine ⟨_, rfl, ?_⟩; have n0_ := Aside0.mk hi; have n1_ := Aside0.mk hb; clear HI HB hi hb hk; have HI := n0_; have HB := n1_; clear n0_ n1_))
  go_ret
  exact ⟨rfl, HB.out⟩

end Go.Proofs.Ytpacmpppiphfjaa.X
