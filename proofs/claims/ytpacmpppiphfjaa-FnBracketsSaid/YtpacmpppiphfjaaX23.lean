-- Written by a program of this session (wip/xp.py, over the kit's print) out of the translation: functions, and the walks that show them.
import Derived.Test.YtpacmpppiphfjaaX0
import Derived.Test.YtpacmpppiphfjaaX10
import Derived.Test.YtpacmpppiphfjaaX11
import Derived.Test.YtpacmpppiphfjaaX13
import Derived.Test.YtpacmpppiphfjaaX22
namespace Go.Proofs.Ytpacmpppiphfjaa.X
open Go.RowKit Go.Proofs.YtpacmpppiphfjaaW.PrintWords Go.Proofs.YtpacmpppiphfjaaW.PrintLast Go.Proofs.YtpacmpppiphfjaaW.PrintMore
attribute [local go_sem] max2_int min2_int max_two min_two max_three min_three max_four min_four   -- for this text's walks alone
set_option linter.unusedVariables false
set_option linter.unusedSimpArgs false

/-! ### laws_FnBrackets: function 11 -/
mutual
def laws_FnBrackets.l0 : Nat → List Int → Int → Int → List Int → Option (Bool)
  | 0, _, _, _, _ => none
  | k + 1, x0, x4, x462000, x462001 => if x4 < 8 then ((impl_OpponentsOf.f k x462000 x462001 (x462001.length : Int)).bind fun bt462 => (if bt462.2.2 = true then ((impl_WinGame.f k x462000 x462001 bt462.1).bind fun bt466 => ((impl_WinGame.f k x462000 x462001 bt462.2.1).bind fun bt472 => ((impl_WinGame.f k x462000 x462001 9).bind fun bt478 => (if bt462.1 = bt462.2.1 then (laws_FnBrackets.j1 k x0 x4 true bt466.1 bt466.2.1 bt472.1 bt472.2.1) else (if bt466.2.2 = true then (if bt472.2.2 = true then (if bt478.2.2 = true then (laws_FnBrackets.j1 k x0 x4 true bt466.1 bt466.2.1 bt472.1 bt472.2.1) else (if (bt466.2.1.length : Int) = (wrap64 ((x462001.length : Int) + 1)) then (laws_FnBrackets.j1 k x0 x4 ((bt472.2.1.length : Int) != (bt466.2.1.length : Int)) bt466.1 bt466.2.1 bt472.1 bt472.2.1) else (laws_FnBrackets.j1 k x0 x4 true bt466.1 bt466.2.1 bt472.1 bt472.2.1))) else (laws_FnBrackets.j1 k x0 x4 true bt466.1 bt466.2.1 bt472.1 bt472.2.1)) else (laws_FnBrackets.j1 k x0 x4 true bt466.1 bt466.2.1 bt472.1 bt472.2.1)))))) else (if (x462001.length : Int) = (wrap64 (x462000 - 1)) then ((impl_ChampionOf.f k x462000 x462001).bind fun t465 => (some (decide (t465 > 0)))) else (some false)))) else (some false)
def laws_FnBrackets.j1 : Nat → List Int → Int → Bool → Int → List Int → Int → List Int → Option (Bool)
  | 0, _, _, _, _, _, _, _ => none
  | k + 1, x0, x4, x95, x472000, x472001, x478000, x478001 => if x95 = true then (some false) else ((spec_MakeNum.f k x0 (wrap64 (60 + x4))).bind fun t484 => (if (Int.tmod t484 2) = 0 then (laws_FnBrackets.l0 k x0 (wrap64 (x4 + 1)) x478000 x478001) else (laws_FnBrackets.l0 k x0 (wrap64 (x4 + 1)) x472000 x472001)))
end
def laws_FnBrackets.f (k : Nat) (l0 : List Int) : Option (Bool) := if (l0.length : Int) > 1048576 then (some true) else ((spec_MakeCup.f k l0).bind fun bt457 => (laws_FnBrackets.l0 k l0 0 bt457.1 bt457.2))
theorem laws_FnBrackets.mono_l : ∀ k, (∀ y0 y1 y2 y3, LeO (laws_FnBrackets.l0 k y0 y1 y2 y3) (laws_FnBrackets.l0 (k + 1) y0 y1 y2 y3)) ∧ (∀ y0 y1 y2 y3 y4 y5 y6, LeO (laws_FnBrackets.j1 k y0 y1 y2 y3 y4 y5 y6) (laws_FnBrackets.j1 (k + 1) y0 y1 y2 y3 y4 y5 y6))
  | 0 => ⟨fun _ _ _ _ r h => by simp [laws_FnBrackets.l0] at h, fun _ _ _ _ _ _ _ r h => by simp [laws_FnBrackets.j1] at h⟩
  | k + 1 => by
    obtain ⟨ih0, ih1⟩ := laws_FnBrackets.mono_l k
    refine ⟨?_, ?_⟩
    · intro y0 y1 y2 y3
      unfold laws_FnBrackets.l0
      repeat' first
      | (with_reducible exact ih0 _ _ _ _)
      | (with_reducible exact ih1 _ _ _ _ _ _ _)
      | (with_reducible exact impl_ChampionOf.mono _ _ _)
      | (with_reducible exact impl_OpponentsOf.mono _ _ _ _)
      | (with_reducible exact impl_WinGame.mono _ _ _ _)
      | (with_reducible exact spec_MakeCup.mono _ _)
      | (with_reducible exact spec_MakeNum.mono _ _ _)
      | (with_reducible exact LeO.refl _)
      | (with_reducible exact LeO.none _)
      | (with_reducible refine LeO.ite ?_ ?_)
      | (with_reducible refine LeO.bind ?_ (fun _ => ?_))
      | exact ih0 _ _ _ _
      | exact ih1 _ _ _ _ _ _ _
      | exact impl_ChampionOf.mono _ _ _
      | exact impl_OpponentsOf.mono _ _ _ _
      | exact impl_WinGame.mono _ _ _ _
      | exact spec_MakeCup.mono _ _
      | exact spec_MakeNum.mono _ _ _
      | exact LeO.none _
      | refine LeO.ite ?_ ?_
      | refine LeO.bind ?_ (fun _ => ?_)
    · intro y0 y1 y2 y3 y4 y5 y6
      unfold laws_FnBrackets.j1
      repeat' first
      | (with_reducible exact ih0 _ _ _ _)
      | (with_reducible exact ih1 _ _ _ _ _ _ _)
      | (with_reducible exact impl_ChampionOf.mono _ _ _)
      | (with_reducible exact impl_OpponentsOf.mono _ _ _ _)
      | (with_reducible exact impl_WinGame.mono _ _ _ _)
      | (with_reducible exact spec_MakeCup.mono _ _)
      | (with_reducible exact spec_MakeNum.mono _ _ _)
      | (with_reducible exact LeO.refl _)
      | (with_reducible exact LeO.none _)
      | (with_reducible refine LeO.ite ?_ ?_)
      | (with_reducible refine LeO.bind ?_ (fun _ => ?_))
      | exact ih0 _ _ _ _
      | exact ih1 _ _ _ _ _ _ _
      | exact impl_ChampionOf.mono _ _ _
      | exact impl_OpponentsOf.mono _ _ _ _
      | exact impl_WinGame.mono _ _ _ _
      | exact spec_MakeCup.mono _ _
      | exact spec_MakeNum.mono _ _ _
      | exact LeO.none _
      | refine LeO.ite ?_ ?_
      | refine LeO.bind ?_ (fun _ => ?_)
theorem laws_FnBrackets.mono : ∀ a0 k, LeO (laws_FnBrackets.f k a0) (laws_FnBrackets.f (k + 1) a0) := by
  intro a0 k
  obtain ⟨ih0, ih1⟩ := laws_FnBrackets.mono_l k
  unfold laws_FnBrackets.f
  repeat' first
      | (with_reducible exact ih0 _ _ _ _)
      | (with_reducible exact ih1 _ _ _ _ _ _ _)
      | (with_reducible exact impl_ChampionOf.mono _ _ _)
      | (with_reducible exact impl_OpponentsOf.mono _ _ _ _)
      | (with_reducible exact impl_WinGame.mono _ _ _ _)
      | (with_reducible exact spec_MakeCup.mono _ _)
      | (with_reducible exact spec_MakeNum.mono _ _ _)
      | (with_reducible exact LeO.refl _)
      | (with_reducible exact LeO.none _)
      | (with_reducible refine LeO.ite ?_ ?_)
      | (with_reducible refine LeO.bind ?_ (fun _ => ?_))
      | exact ih0 _ _ _ _
      | exact ih1 _ _ _ _ _ _ _
      | exact impl_ChampionOf.mono _ _ _
      | exact impl_OpponentsOf.mono _ _ _ _
      | exact impl_WinGame.mono _ _ _ _
      | exact spec_MakeCup.mono _ _
      | exact spec_MakeNum.mono _ _ _
      | exact LeO.none _
      | refine LeO.ite ?_ ?_
      | refine LeO.bind ?_ (fun _ => ?_)
set_option maxHeartbeats 8000000 in
set_option maxRecDepth 100000 in
theorem laws_FnBrackets.calls (k : Nat) (A0 : Option Addr) (c0 : Nat) (l0 : List Int) (r : Bool) (w : World) (hr0 : Kd.C (Kd.int .u8) w A0 l0.length l0) (hc0 : l0.length ≤ c0) (h : laws_FnBrackets.f k l0 = some r) :
    Calls Try.prog 11 #[.slice A0 l0.length c0] w fun e w' => e = .returned (.bool r) ∧ Below w.heap.size w w' := by
  have hu36 := Try.underlying36
  have HR0 := Aside0.mk hr0
  have HC0 := Aside0.mk hc0
  clear hr0 hc0
  have HB := Aside0.mk (Below.refl w.heap.size w)
  have H : (if (l0.length : Int) > 1048576 then (some true) else ((spec_MakeCup.f k l0).bind fun bt457 => (laws_FnBrackets.l0 k l0 0 bt457.1 bt457.2))) = some r := h
  clear h
  by_cases c2 : (l0.length : Int) > 1048576
  · rw [if_pos c2] at H
    have c2b0 : decide (1048576 < (l0.length : Int)) = true := decide_eq_true c2
    have c2b1 : decide (1048576 < l0.length) = true := decide_eq_true (by omega)
    clear c2
    obtain rfl := Option.some.inj H
    go_enter Try.func11, Try.ntmps11
    go_wp2
    go_ret
    exact ⟨er, bel⟩
  · rw [if_neg c2] at H
    have c2b0 : decide (1048576 < (l0.length : Int)) = false := decide_eq_false c2
    have c2b1 : decide (1048576 < l0.length) = false := decide_eq_false (by omega)
    clear c2
    replace H := Option.bind_eq_some_iff.mp H
    obtain ⟨⟨t457, t458⟩, A30, H⟩ := H
    replace H : (laws_FnBrackets.l0 k l0 0 t457 t458) = some r := H
    have A3 := Aside0.mk A30
    clear A30
    have H' := Aside0.mk H
    clear H
    go_enter Try.func11, Try.ntmps11
    go_wp2_with (first | ((with_reducible refine gate_callee (f := 36) rfl ?_); refine goesL_ (some 18) rfl rfl Try.func36 (by kernel_rfl) rfl #[.slice A0 l0.length c0] rfl ga ?_; (with_reducible refine (spec_MakeCup.calls k _ _ l0 t457 t458 _ ?side1 ?side2 A3.out).mono ?_); (case side1 => exact ck HR0.out); (case side2 => exact HC0.out); rintro e w4 ⟨v459, rfl, ho0, hb⟩; refine ⟨_, rfl, ?_⟩; have HO460 := Aside0.mk (Kd.R_lower ho0 (below_size bel)); replace HB := Aside0.mk (below_step bel hb); (try clear hb); (try clear ho0)) | ((with_reducible refine gate_dst (N := 3) rfl ?_); refine box_event ?hg (N := 3) ?hd (cs := #[.int .i64 0, .slice none 0 0]) (t := 36) ?hr ?_; (case hd => rfl); (case hg => rfl); (case hr => first | (go_simp; done) | (go_simp; rfl)); intro gb461 hg w5 hbox hb; have BK461 := Aside0.mk (hbox); have GW461 := Aside0.mk ((bsz hg : w.heap.size ≤ gb461)); have GE461 := Aside0.mk ((bsz hg : w.heap.size ≤ gb461)); replace HO460 := Aside0.mk (Kd.R_below (rk HO460.out) hb); replace HB := Aside0.mk (below_step bel hb); clear hb hbox hg; obtain ⟨hcz6_0, hcz6_1, hfz6_0, hfz6_1⟩ := cf2 BK461.out; obtain ⟨Ao7, co7, eo7⟩ := Kd.R_slice HO460.out; subst eo7))
    go_loopg [4] k (fun kq v4 w' => ∃ (x4_1 : Int) (x462000_1 : Int) (x462001_1 : List Int) (u462001 : Value), v4 = .int .i64 x4_1 ∧ Aside0 (laws_FnBrackets.l0 kq l0 x4_1 x462000_1 x462001_1 = some r) ∧ Aside0 (kq ≤ k) ∧ Aside0 (Kd.R (Kd.int .i64) 3 w' w.heap.size (fun _ => True) u462001 x462001_1) ∧ Aside0 (w'.heap[gb461]? = some (.cells #[.int .i64 x462000_1, u462001] 36 (0, 0))) ∧ Aside0 (Below w.heap.size w w'))
    case atStart => exact ⟨(0), (t457), (t458), (.slice Ao7 t458.length co7), (es), H', ⟨Nat.le_refl _⟩, ⟨by (with_reducible repeat (first | apply Kd.R_alloc | apply Kd.R_drewN | apply Kd.R_drew)); exact Kd.R_mono (Kd.R_far (p := ⟨gb461, 1, none⟩) (Kd.R_far (p := ⟨gb461, 0, none⟩) (Kd.R_types HO460.out BK461.out (by decide)) (fun _ hk => hk.2) (.int .i64 t457)) (fun _ hk => hk.2) (.slice Ao7 t458.length co7)) (fun _ hk => trivial)⟩, ⟨by (with_reducible repeat (first | refine blk_drewN ?_ _ | refine blk_drew ?_ | refine blk_alloc ?_ _)); refine blk_put (cs := #[.int .i64 t457, .slice none 0 0]) ?_ 1 _ rfl; (with_reducible repeat (first | refine blk_drewN ?_ _ | refine blk_drew ?_ | refine blk_alloc ?_ _)); refine blk_put (cs := #[.int .i64 0, .slice none 0 0]) ?_ 0 _ rfl; (with_reducible repeat (first | refine blk_drewN ?_ _ | refine blk_drew ?_ | refine blk_alloc ?_ _)); exact BK461.out⟩, ⟨bel⟩⟩
    case round =>
      clear H'
      try clear c1; try clear c2; try clear c2b0; try clear c2b1; try clear p2; try clear c3; try clear hcz6_0; try clear hcz6_1; try clear hfz6_0; try clear hfz6_1
      obtain ⟨x4_1, x462000_1, x462001_1, u462001, rfl, HA, HK1, HO_462001, BK461, HB⟩ := hrel
      cases gk with
      | zero => exact absurd HA.out (by simp [laws_FnBrackets.l0])
      | succ k1 =>
        have H := HA.out
        clear HA
        simp only [laws_FnBrackets.l0] at H
        by_cases c8 : x4_1 < 8
        · rw [if_pos c8] at H
          have c8b0 : decide (x4_1 < 8) = true := decide_eq_true c8
          clear c8
          replace H := Option.bind_eq_some_iff.mp H
          obtain ⟨⟨t462, t463, t464⟩, A90, H⟩ := H
          replace H : (if t464 = true then ((impl_WinGame.f k1 x462000_1 x462001_1 t462).bind fun bt466 => ((impl_WinGame.f k1 x462000_1 x462001_1 t463).bind fun bt472 => ((impl_WinGame.f k1 x462000_1 x462001_1 9).bind fun bt478 => (if t462 = t463 then (laws_FnBrackets.j1 k1 l0 x4_1 true bt466.1 bt466.2.1 bt472.1 bt472.2.1) else (if bt466.2.2 = true then (if bt472.2.2 = true then (if bt478.2.2 = true then (laws_FnBrackets.j1 k1 l0 x4_1 true bt466.1 bt466.2.1 bt472.1 bt472.2.1) else (if (bt466.2.1.length : Int) = (wrap64 ((x462001_1.length : Int) + 1)) then (laws_FnBrackets.j1 k1 l0 x4_1 ((bt472.2.1.length : Int) != (bt466.2.1.length : Int)) bt466.1 bt466.2.1 bt472.1 bt472.2.1) else (laws_FnBrackets.j1 k1 l0 x4_1 true bt466.1 bt466.2.1 bt472.1 bt472.2.1))) else (laws_FnBrackets.j1 k1 l0 x4_1 true bt466.1 bt466.2.1 bt472.1 bt472.2.1)) else (laws_FnBrackets.j1 k1 l0 x4_1 true bt466.1 bt466.2.1 bt472.1 bt472.2.1)))))) else (if (x462001_1.length : Int) = (wrap64 (x462000_1 - 1)) then ((impl_ChampionOf.f k1 x462000_1 x462001_1).bind fun t465 => (some (decide (t465 > 0)))) else (some false))) = some r := H
          have A9 := Aside0.mk A90
          clear A90
          by_cases c10 : t464 = true
          · subst c10
            have H1 : ((impl_WinGame.f k1 x462000_1 x462001_1 t462).bind fun bt466 => ((impl_WinGame.f k1 x462000_1 x462001_1 t463).bind fun bt472 => ((impl_WinGame.f k1 x462000_1 x462001_1 9).bind fun bt478 => (if t462 = t463 then (laws_FnBrackets.j1 k1 l0 x4_1 true bt466.1 bt466.2.1 bt472.1 bt472.2.1) else (if bt466.2.2 = true then (if bt472.2.2 = true then (if bt478.2.2 = true then (laws_FnBrackets.j1 k1 l0 x4_1 true bt466.1 bt466.2.1 bt472.1 bt472.2.1) else (if (bt466.2.1.length : Int) = (wrap64 ((x462001_1.length : Int) + 1)) then (laws_FnBrackets.j1 k1 l0 x4_1 ((bt472.2.1.length : Int) != (bt466.2.1.length : Int)) bt466.1 bt466.2.1 bt472.1 bt472.2.1) else (laws_FnBrackets.j1 k1 l0 x4_1 true bt466.1 bt466.2.1 bt472.1 bt472.2.1))) else (laws_FnBrackets.j1 k1 l0 x4_1 true bt466.1 bt466.2.1 bt472.1 bt472.2.1)) else (laws_FnBrackets.j1 k1 l0 x4_1 true bt466.1 bt466.2.1 bt472.1 bt472.2.1)))))) = some r := by rw [if_pos rfl] at H; exact H
            clear H
            have H := H1
            clear H1
            replace H := Option.bind_eq_some_iff.mp H
            obtain ⟨⟨t466, t467, t470⟩, A110, H⟩ := H
            replace H : ((impl_WinGame.f k1 x462000_1 x462001_1 t463).bind fun bt472 => ((impl_WinGame.f k1 x462000_1 x462001_1 9).bind fun bt478 => (if t462 = t463 then (laws_FnBrackets.j1 k1 l0 x4_1 true t466 t467 bt472.1 bt472.2.1) else (if t470 = true then (if bt472.2.2 = true then (if bt478.2.2 = true then (laws_FnBrackets.j1 k1 l0 x4_1 true t466 t467 bt472.1 bt472.2.1) else (if (t467.length : Int) = (wrap64 ((x462001_1.length : Int) + 1)) then (laws_FnBrackets.j1 k1 l0 x4_1 ((bt472.2.1.length : Int) != (t467.length : Int)) t466 t467 bt472.1 bt472.2.1) else (laws_FnBrackets.j1 k1 l0 x4_1 true t466 t467 bt472.1 bt472.2.1))) else (laws_FnBrackets.j1 k1 l0 x4_1 true t466 t467 bt472.1 bt472.2.1)) else (laws_FnBrackets.j1 k1 l0 x4_1 true t466 t467 bt472.1 bt472.2.1))))) = some r := H
            have A11 := Aside0.mk A110
            clear A110
            replace H := Option.bind_eq_some_iff.mp H
            obtain ⟨⟨t472, t473, t476⟩, A120, H⟩ := H
            replace H : ((impl_WinGame.f k1 x462000_1 x462001_1 9).bind fun bt478 => (if t462 = t463 then (laws_FnBrackets.j1 k1 l0 x4_1 true t466 t467 t472 t473) else (if t470 = true then (if t476 = true then (if bt478.2.2 = true then (laws_FnBrackets.j1 k1 l0 x4_1 true t466 t467 t472 t473) else (if (t467.length : Int) = (wrap64 ((x462001_1.length : Int) + 1)) then (laws_FnBrackets.j1 k1 l0 x4_1 ((t473.length : Int) != (t467.length : Int)) t466 t467 t472 t473) else (laws_FnBrackets.j1 k1 l0 x4_1 true t466 t467 t472 t473))) else (laws_FnBrackets.j1 k1 l0 x4_1 true t466 t467 t472 t473)) else (laws_FnBrackets.j1 k1 l0 x4_1 true t466 t467 t472 t473)))) = some r := H
            have A12 := Aside0.mk A120
            clear A120
            replace H := Option.bind_eq_some_iff.mp H
            obtain ⟨⟨t478, t479, t482⟩, A130, H⟩ := H
            replace H : (if t462 = t463 then (laws_FnBrackets.j1 k1 l0 x4_1 true t466 t467 t472 t473) else (if t470 = true then (if t476 = true then (if t482 = true then (laws_FnBrackets.j1 k1 l0 x4_1 true t466 t467 t472 t473) else (if (t467.length : Int) = (wrap64 ((x462001_1.length : Int) + 1)) then (laws_FnBrackets.j1 k1 l0 x4_1 ((t473.length : Int) != (t467.length : Int)) t466 t467 t472 t473) else (laws_FnBrackets.j1 k1 l0 x4_1 true t466 t467 t472 t473))) else (laws_FnBrackets.j1 k1 l0 x4_1 true t466 t467 t472 t473)) else (laws_FnBrackets.j1 k1 l0 x4_1 true t466 t467 t472 t473))) = some r := H
            have A13 := Aside0.mk A130
            clear A130
            have HC14 := Aside0.mk H
            clear H
            obtain ⟨hcz15_0, hcz15_1, hfz15_0, hfz15_1⟩ := cf2 BK461.out
            obtain ⟨Ao16, co16, eo16⟩ := Kd.R_slice HO_462001.out
            subst eo16
            go_upto_region 13 with (first | ((with_reducible refine gate_callee (f := 30) rfl ?_); refine goesL_ (some 28) rfl rfl Try.func30 (by kernel_rfl) rfl #[.agg #[.int .i64 x462000_1, .slice Ao16 x462001_1.length co16], .int .i64 (x462001_1.length : Int)] rfl ga ?_; (with_reducible refine (impl_OpponentsOf.calls k1 x462000_1 _ _ x462001_1 (x462001_1.length : Int) t462 t463 true _ ?side1 ?side2 A9.out).mono ?_); (case side1 => exact ck (Kd.R_reads' HO_462001.out).2.2); (case side2 => exact (Kd.R_reads' HO_462001.out).2.1); rintro e w17 ⟨rfl, hb⟩; refine ⟨_, rfl, ?_⟩; replace HO_462001 := Aside0.mk (Kd.R_below (rk HO_462001.out) hb); replace BK461 := Aside0.mk (bb BK461.out hb); replace HB := Aside0.mk (below_step bel hb); (try clear hb); obtain ⟨hcz18_0, hcz18_1, hfz18_0, hfz18_1⟩ := cf2 BK461.out) | ((with_reducible refine gate_callee (f := 37) rfl ?_); refine goesL_ (some 49) rfl rfl Try.func37 (by kernel_rfl) rfl #[.agg #[.int .i64 x462000_1, .slice Ao16 x462001_1.length co16], .int .i64 t462] rfl ga ?_; (with_reducible refine (impl_WinGame.calls k1 x462000_1 _ _ x462001_1 t462 t466 t467 t470 _ ?side1 ?side2 A11.out).mono ?_); (case side1 => exact ck (Kd.R_reads' HO_462001.out).2.2); (case side2 => exact (Kd.R_reads' HO_462001.out).2.1); rintro e w19 ⟨v468, rfl, ho0, hb⟩; refine ⟨_, rfl, ?_⟩; have HO469 := Aside0.mk (Kd.R_lower (Kd.R_new' ho0 (Kd.R_lt (rk HO_462001.out))) (below_size bel)); replace HO_462001 := Aside0.mk (Kd.R_elder' (rk HO_462001.out) (Kd.R_base ho0) hb); replace BK461 := Aside0.mk (bb BK461.out hb); replace HB := Aside0.mk (below_step bel hb); (try clear hb); (try clear ho0)) | ((with_reducible refine gate_dst (N := 8) rfl ?_); refine box_event ?hg (N := 8) ?hd (cs := #[.int .i64 0, .slice none 0 0]) (t := 36) ?hr ?_; (case hd => rfl); (case hg => rfl); (case hr => first | (go_simp; done) | (go_simp; rfl)); intro gb471 hg w20 hbox hb; have BK471 := Aside0.mk (hbox); have GW471 := Aside0.mk ((bsz hg : w.heap.size ≤ gb471)); have GE471 := Aside0.mk ((bsz hg : w.heap.size ≤ gb471)); have NB461_471 := Aside0.mk ((nlt hg BK461.out : gb461 ≠ gb471)); have NB471_461 := Aside0.mk ((ngt hg BK461.out : gb471 ≠ gb461)); replace HO_462001 := Aside0.mk (Kd.R_below (rk HO_462001.out) hb); replace HO469 := Aside0.mk (Kd.R_below (rk HO469.out) hb); replace BK461 := Aside0.mk (bb BK461.out hb); replace HB := Aside0.mk (below_step bel hb); clear hb hbox hg; have hnb21 := NB471_461.out; have hnc21 := NB461_471.out; obtain ⟨hcz22_0, hcz22_1, hfz22_0, hfz22_1⟩ := cf2 BK471.out; obtain ⟨Ao23, co23, eo23⟩ := Kd.R_slice HO469.out; subst eo23; obtain ⟨hcz24_0, hcz24_1, hfz24_0, hfz24_1⟩ := cf2 BK461.out) | ((with_reducible refine gate_callee (f := 37) rfl ?_); refine goesL_ (some 55) rfl rfl Try.func37 (by kernel_rfl) rfl #[.agg #[.int .i64 x462000_1, .slice Ao16 x462001_1.length co16], .int .i64 t463] rfl ga ?_; (with_reducible refine (impl_WinGame.calls k1 x462000_1 _ _ x462001_1 t463 t472 t473 t476 _ ?side1 ?side2 A12.out).mono ?_); (case side1 => refine (Kd.R_reads' (e := 3) (base := w.heap.size) (ok := fun k_ => (True ∧ some k_ ≠ (.slice Ao23 t467.length co23 : Value).ownBlock)) (n := x462001_1.length) (c := co16) ?_).2.2; exact (by exact rk (Kd.R_mono (Kd.R_far (p := ⟨gb471, 1, none⟩) (Kd.R_far (p := ⟨gb471, 0, none⟩) (Kd.R_types HO_462001.out BK471.out (by decide)) (fun _ hk => hk.2) (.int .i64 t466)) (fun _ hk => hk.2) (.slice Ao23 t467.length co23)) (fun _ h_ => h_.1)))); (case side2 => exact (Kd.R_reads' HO_462001.out).2.1); rintro e w25 ⟨v474, rfl, ho0, hb⟩; refine ⟨_, rfl, ?_⟩; have HO475 := Aside0.mk (Kd.R_lower (Kd.R_new' (Kd.R_new' ho0 (Kd.R_lt (by exact rk (Kd.R_mono (Kd.R_far (p := ⟨gb471, 1, none⟩) (Kd.R_far (p := ⟨gb471, 0, none⟩) (Kd.R_types HO_462001.out BK471.out (by decide)) (fun _ hk => hk.2) (.int .i64 t466)) (fun _ hk => hk.2) (.slice Ao23 t467.length co23)) (fun _ h_ => h_.1))))) (Kd.R_lt (by exact rk (Kd.R_mono (Kd.R_far (p := ⟨gb471, 1, none⟩) (Kd.R_far (p := ⟨gb471, 0, none⟩) (Kd.R_types HO469.out BK471.out (by decide)) (fun _ hk => hk.2) (.int .i64 t466)) (fun _ hk => hk.2) (.slice Ao23 t467.length co23)) (fun _ h_ => h_.1))))) (below_size bel)); replace HO_462001 := Aside0.mk (Kd.R_elder' (by exact rk (Kd.R_mono (Kd.R_far (p := ⟨gb471, 1, none⟩) (Kd.R_far (p := ⟨gb471, 0, none⟩) (Kd.R_types HO_462001.out BK471.out (by decide)) (fun _ hk => hk.2) (.int .i64 t466)) (fun _ hk => hk.2) (.slice Ao23 t467.length co23)) (fun _ h_ => h_.1))) (Kd.R_base ho0) hb); replace HO469 := Aside0.mk (Kd.R_elder' (by exact rk (Kd.R_mono (Kd.R_far (p := ⟨gb471, 1, none⟩) (Kd.R_far (p := ⟨gb471, 0, none⟩) (Kd.R_types HO469.out BK471.out (by decide)) (fun _ hk => hk.2) (.int .i64 t466)) (fun _ hk => hk.2) (.slice Ao23 t467.length co23)) (fun _ h_ => h_.1))) (Kd.R_base ho0) hb); replace BK461 := Aside0.mk (bb BK461.out hb); replace BK471 := Aside0.mk (blk_below (g := gb471) (o := .cells #[.int .i64 t466, .slice Ao23 t467.length co23] 36 (0, 0)) (by (with_reducible repeat (first | refine blk_drewN ?_ _ | refine blk_drew ?_ | refine blk_alloc ?_ _)); refine blk_put (cs := #[.int .i64 t466, .slice none 0 0]) ?_ 1 _ rfl; (with_reducible repeat (first | refine blk_drewN ?_ _ | refine blk_drew ?_ | refine blk_alloc ?_ _)); refine blk_put (cs := #[.int .i64 0, .slice none 0 0]) ?_ 0 _ rfl; (with_reducible repeat (first | refine blk_drewN ?_ _ | refine blk_drew ?_ | refine blk_alloc ?_ _)); exact BK471.out) hb); replace HB := Aside0.mk (below_step bel hb); (try clear hb); (try clear ho0)) | ((with_reducible refine gate_dst (N := 10) rfl ?_); refine box_event ?hg (N := 10) ?hd (cs := #[.int .i64 0, .slice none 0 0]) (t := 36) ?hr ?_; (case hd => rfl); (case hg => rfl); (case hr => first | (go_simp; done) | (go_simp; rfl)); intro gb477 hg w26 hbox hb; have BK477 := Aside0.mk (hbox); have GW477 := Aside0.mk ((bsz hg : w.heap.size ≤ gb477)); have GE477 := Aside0.mk ((bsz hg : w.heap.size ≤ gb477)); have NB461_477 := Aside0.mk ((nlt hg BK461.out : gb461 ≠ gb477)); have NB477_461 := Aside0.mk ((ngt hg BK461.out : gb477 ≠ gb461)); have NB471_477 := Aside0.mk ((nlt hg BK471.out : gb471 ≠ gb477)); have NB477_471 := Aside0.mk ((ngt hg BK471.out : gb477 ≠ gb471)); replace HO_462001 := Aside0.mk (Kd.R_below (rk HO_462001.out) hb); replace HO469 := Aside0.mk (Kd.R_below (rk HO469.out) hb); replace HO475 := Aside0.mk (Kd.R_below (rk HO475.out) hb); replace BK461 := Aside0.mk (bb BK461.out hb); replace BK471 := Aside0.mk (bb BK471.out hb); replace HB := Aside0.mk (below_step bel hb); clear hb hbox hg; have hnb27 := NB477_461.out; have hnc27 := NB461_477.out; have hnb28 := NB477_471.out; have hnc28 := NB471_477.out; obtain ⟨hcz29_0, hcz29_1, hfz29_0, hfz29_1⟩ := cf2 BK477.out; obtain ⟨Ao30, co30, eo30⟩ := Kd.R_slice HO475.out; subst eo30; obtain ⟨hcz31_0, hcz31_1, hfz31_0, hfz31_1⟩ := cf2 BK461.out) | ((with_reducible refine gate_callee (f := 37) rfl ?_); refine goesL_ (some 60) rfl rfl Try.func37 (by kernel_rfl) rfl #[.agg #[.int .i64 x462000_1, .slice Ao16 x462001_1.length co16], .int .i64 9] rfl ga ?_; (with_reducible refine (impl_WinGame.calls k1 x462000_1 _ _ x462001_1 9 t478 t479 t482 _ ?side1 ?side2 A13.out).mono ?_); (case side1 => refine (Kd.R_reads' (e := 3) (base := w.heap.size) (ok := fun k_ => ((True ∧ some k_ ≠ (.slice Ao23 t467.length co23 : Value).ownBlock) ∧ some k_ ≠ (.slice Ao30 t473.length co30 : Value).ownBlock)) (n := x462001_1.length) (c := co16) ?_).2.2; exact (by exact rk (Kd.R_mono (Kd.R_far (p := ⟨gb477, 1, none⟩) (Kd.R_far (p := ⟨gb477, 0, none⟩) (Kd.R_types HO_462001.out BK477.out (by decide)) (fun _ hk => hk.2) (.int .i64 t472)) (fun _ hk => hk.2) (.slice Ao30 t473.length co30)) (fun _ h_ => h_.1)))); (case side2 => exact (Kd.R_reads' HO_462001.out).2.1); rintro e w32 ⟨v480, rfl, ho0, hb⟩; refine ⟨_, rfl, ?_⟩; have HO481 := Aside0.mk (Kd.R_lower (Kd.R_new' (Kd.R_new' (Kd.R_new' ho0 (Kd.R_lt (by exact rk (Kd.R_mono (Kd.R_far (p := ⟨gb477, 1, none⟩) (Kd.R_far (p := ⟨gb477, 0, none⟩) (Kd.R_types HO_462001.out BK477.out (by decide)) (fun _ hk => hk.2) (.int .i64 t472)) (fun _ hk => hk.2) (.slice Ao30 t473.length co30)) (fun _ h_ => h_.1))))) (Kd.R_lt (by exact rk (Kd.R_mono (Kd.R_far (p := ⟨gb477, 1, none⟩) (Kd.R_far (p := ⟨gb477, 0, none⟩) (Kd.R_types HO469.out BK477.out (by decide)) (fun _ hk => hk.2) (.int .i64 t472)) (fun _ hk => hk.2) (.slice Ao30 t473.length co30)) (fun _ h_ => h_.1))))) (Kd.R_lt (by exact rk (Kd.R_mono (Kd.R_far (p := ⟨gb477, 1, none⟩) (Kd.R_far (p := ⟨gb477, 0, none⟩) (Kd.R_types HO475.out BK477.out (by decide)) (fun _ hk => hk.2) (.int .i64 t472)) (fun _ hk => hk.2) (.slice Ao30 t473.length co30)) (fun _ h_ => h_.1))))) (below_size bel)); replace HO_462001 := Aside0.mk (Kd.R_elder' (by exact rk (Kd.R_mono (Kd.R_far (p := ⟨gb477, 1, none⟩) (Kd.R_far (p := ⟨gb477, 0, none⟩) (Kd.R_types HO_462001.out BK477.out (by decide)) (fun _ hk => hk.2) (.int .i64 t472)) (fun _ hk => hk.2) (.slice Ao30 t473.length co30)) (fun _ h_ => h_.1))) (Kd.R_base ho0) hb); replace HO469 := Aside0.mk (Kd.R_elder' (by exact rk (Kd.R_mono (Kd.R_far (p := ⟨gb477, 1, none⟩) (Kd.R_far (p := ⟨gb477, 0, none⟩) (Kd.R_types HO469.out BK477.out (by decide)) (fun _ hk => hk.2) (.int .i64 t472)) (fun _ hk => hk.2) (.slice Ao30 t473.length co30)) (fun _ h_ => h_.1))) (Kd.R_base ho0) hb); replace HO475 := Aside0.mk (Kd.R_elder' (by exact rk (Kd.R_mono (Kd.R_far (p := ⟨gb477, 1, none⟩) (Kd.R_far (p := ⟨gb477, 0, none⟩) (Kd.R_types HO475.out BK477.out (by decide)) (fun _ hk => hk.2) (.int .i64 t472)) (fun _ hk => hk.2) (.slice Ao30 t473.length co30)) (fun _ h_ => h_.1))) (Kd.R_base ho0) hb); replace BK461 := Aside0.mk (bb BK461.out hb); replace BK471 := Aside0.mk (bb BK471.out hb); replace BK477 := Aside0.mk (blk_below (g := gb477) (o := .cells #[.int .i64 t472, .slice Ao30 t473.length co30] 36 (0, 0)) (by (with_reducible repeat (first | refine blk_drewN ?_ _ | refine blk_drew ?_ | refine blk_alloc ?_ _)); refine blk_put (cs := #[.int .i64 t472, .slice none 0 0]) ?_ 1 _ rfl; (with_reducible repeat (first | refine blk_drewN ?_ _ | refine blk_drew ?_ | refine blk_alloc ?_ _)); refine blk_put (cs := #[.int .i64 0, .slice none 0 0]) ?_ 0 _ rfl; (with_reducible repeat (first | refine blk_drewN ?_ _ | refine blk_drew ?_ | refine blk_alloc ?_ _)); exact BK477.out) hb); replace HB := Aside0.mk (below_step bel hb); (try clear hb); (try clear ho0)) | ((with_reducible refine gate_dst (N := 12) rfl ?_); refine box_event ?hg (N := 12) ?hd (cs := #[.int .i64 0, .slice none 0 0]) (t := 36) ?hr ?_; (case hd => rfl); (case hg => rfl); (case hr => first | (go_simp; done) | (go_simp; rfl)); intro gb483 hg w33 hbox hb; have BK483 := Aside0.mk (hbox); have GW483 := Aside0.mk ((bsz hg : w.heap.size ≤ gb483)); have GE483 := Aside0.mk ((bsz hg : w.heap.size ≤ gb483)); have NB461_483 := Aside0.mk ((nlt hg BK461.out : gb461 ≠ gb483)); have NB483_461 := Aside0.mk ((ngt hg BK461.out : gb483 ≠ gb461)); have NB471_483 := Aside0.mk ((nlt hg BK471.out : gb471 ≠ gb483)); have NB483_471 := Aside0.mk ((ngt hg BK471.out : gb483 ≠ gb471)); have NB477_483 := Aside0.mk ((nlt hg BK477.out : gb477 ≠ gb483)); have NB483_477 := Aside0.mk ((ngt hg BK477.out : gb483 ≠ gb477)); replace HO_462001 := Aside0.mk (Kd.R_below (rk HO_462001.out) hb); replace HO469 := Aside0.mk (Kd.R_below (rk HO469.out) hb); replace HO475 := Aside0.mk (Kd.R_below (rk HO475.out) hb); replace HO481 := Aside0.mk (Kd.R_below (rk HO481.out) hb); replace BK461 := Aside0.mk (bb BK461.out hb); replace BK471 := Aside0.mk (bb BK471.out hb); replace BK477 := Aside0.mk (bb BK477.out hb); replace HB := Aside0.mk (below_step bel hb); clear hb hbox hg; have hnb34 := NB483_461.out; have hnc34 := NB461_483.out; have hnb35 := NB483_471.out; have hnc35 := NB471_483.out; have hnb36 := NB483_477.out; have hnc36 := NB477_483.out; obtain ⟨hcz37_0, hcz37_1, hfz37_0, hfz37_1⟩ := cf2 BK483.out; obtain ⟨Ao38, co38, eo38⟩ := Kd.R_slice HO481.out; subst eo38))
            (try simp only [Act.put, List.setIfInBounds_toArray, List.set_cons_zero, List.set_cons_succ])
            go_cut [95] (fun v95 wc => ∃ (kq : Nat) (x95_13 : Bool), v95 = .bool x95_13 ∧ Aside0 (laws_FnBrackets.j1 kq l0 x4_1 x95_13 t466 t467 t472 t473 = some r) ∧ Aside0 (kq ≤ k1) ∧ Aside0 (Kd.R (Kd.int .i64) 3 wc w.heap.size (fun k_ => some k_ ≠ ((.slice Ao23 t467.length co23) : Value).ownBlock ∧ some k_ ≠ ((.slice Ao30 t473.length co30) : Value).ownBlock ∧ some k_ ≠ ((.slice Ao38 t479.length co38) : Value).ownBlock) (.slice Ao16 x462001_1.length co16) x462001_1) ∧ Aside0 (Kd.R (Kd.int .i64) 3 wc w.heap.size (fun k_ => some k_ ≠ ((.slice Ao16 x462001_1.length co16) : Value).ownBlock ∧ some k_ ≠ ((.slice Ao30 t473.length co30) : Value).ownBlock ∧ some k_ ≠ ((.slice Ao38 t479.length co38) : Value).ownBlock) (.slice Ao23 t467.length co23) t467) ∧ Aside0 (Kd.R (Kd.int .i64) 3 wc w.heap.size (fun k_ => some k_ ≠ ((.slice Ao16 x462001_1.length co16) : Value).ownBlock ∧ some k_ ≠ ((.slice Ao23 t467.length co23) : Value).ownBlock ∧ some k_ ≠ ((.slice Ao38 t479.length co38) : Value).ownBlock) (.slice Ao30 t473.length co30) t473) ∧ Aside0 (Kd.R (Kd.int .i64) 3 wc w.heap.size (fun k_ => some k_ ≠ ((.slice Ao16 x462001_1.length co16) : Value).ownBlock ∧ some k_ ≠ ((.slice Ao23 t467.length co23) : Value).ownBlock ∧ some k_ ≠ ((.slice Ao30 t473.length co30) : Value).ownBlock) (.slice Ao38 t479.length co38) t479) ∧ Aside0 (wc.heap[gb461]? = some (.cells #[.int .i64 x462000_1, (.slice Ao16 x462001_1.length co16)] 36 (0, 0))) ∧ Aside0 (wc.heap[gb471]? = some (.cells #[.int .i64 t466, (.slice Ao23 t467.length co23)] 36 (0, 0))) ∧ Aside0 (wc.heap[gb477]? = some (.cells #[.int .i64 t472, (.slice Ao30 t473.length co30)] 36 (0, 0))) ∧ Aside0 (wc.heap[gb483]? = some (.cells #[.int .i64 t478, (.slice Ao38 t479.length co38)] 36 (0, 0))) ∧ Aside0 (Below w.heap.size w wc))
            case first =>
              have H := HC14.out
              clear HC14
              by_cases c39 : t462 = t463
              · rw [if_pos c39] at H
                have c39b0 : (t462 == t463) = true := beq_iff_eq.mpr c39
                have c39b1 : (t462 != t463) = false := bne_eq_false_iff_eq.mpr c39
                clear c39
                (first | rw [c39b0] | (simp only [i64_w, i32_w]; rw [c39b0]) | skip)
                have H' := Aside0.mk H
                clear H
                go_wp2
                go_meet
                case rel => exact ⟨_, (true), (es), H', ⟨by have := HK1.out; first | omega | exact Nat.le_refl _⟩, ⟨by (with_reducible repeat (first | apply Kd.R_alloc | apply Kd.R_drewN | apply Kd.R_drew)); exact Kd.R_mono (Kd.R_far (p := ⟨gb483, 1, none⟩) (Kd.R_far (p := ⟨gb483, 0, none⟩) (Kd.R_types HO_462001.out BK483.out (by decide)) (fun _ hk => hk.2) (.int .i64 t478)) (fun _ hk => hk.2) (.slice Ao38 t479.length co38)) (fun _ hk => ⟨hk.1.1.1.2, ⟨hk.1.1.2, hk.1.2⟩⟩)⟩, ⟨by (with_reducible repeat (first | apply Kd.R_alloc | apply Kd.R_drewN | apply Kd.R_drew)); exact Kd.R_mono (Kd.R_far (p := ⟨gb483, 1, none⟩) (Kd.R_far (p := ⟨gb483, 0, none⟩) (Kd.R_types HO469.out BK483.out (by decide)) (fun _ hk => hk.2) (.int .i64 t478)) (fun _ hk => hk.2) (.slice Ao38 t479.length co38)) (fun _ hk => ⟨hk.1.1.1.2, ⟨hk.1.1.2, hk.1.2⟩⟩)⟩, ⟨by (with_reducible repeat (first | apply Kd.R_alloc | apply Kd.R_drewN | apply Kd.R_drew)); exact Kd.R_mono (Kd.R_far (p := ⟨gb483, 1, none⟩) (Kd.R_far (p := ⟨gb483, 0, none⟩) (Kd.R_types HO475.out BK483.out (by decide)) (fun _ hk => hk.2) (.int .i64 t478)) (fun _ hk => hk.2) (.slice Ao38 t479.length co38)) (fun _ hk => ⟨hk.1.1.1.2, ⟨hk.1.1.2, hk.1.2⟩⟩)⟩, ⟨by (with_reducible repeat (first | apply Kd.R_alloc | apply Kd.R_drewN | apply Kd.R_drew)); exact Kd.R_mono (Kd.R_far (p := ⟨gb483, 1, none⟩) (Kd.R_far (p := ⟨gb483, 0, none⟩) (Kd.R_types HO481.out BK483.out (by decide)) (fun _ hk => hk.2) (.int .i64 t478)) (fun _ hk => hk.2) (.slice Ao38 t479.length co38)) (fun _ hk => ⟨hk.1.1.1.2, ⟨hk.1.1.2, hk.1.2⟩⟩)⟩, ⟨bk BK461.out⟩, ⟨bk BK471.out⟩, ⟨bk BK477.out⟩, ⟨by (with_reducible repeat (first | refine blk_drewN ?_ _ | refine blk_drew ?_ | refine blk_alloc ?_ _)); refine blk_put (cs := #[.int .i64 t478, .slice none 0 0]) ?_ 1 _ rfl; (with_reducible repeat (first | refine blk_drewN ?_ _ | refine blk_drew ?_ | refine blk_alloc ?_ _)); refine blk_put (cs := #[.int .i64 0, .slice none 0 0]) ?_ 0 _ rfl; (with_reducible repeat (first | refine blk_drewN ?_ _ | refine blk_drew ?_ | refine blk_alloc ?_ _)); exact BK483.out⟩, ⟨bel⟩⟩
              · rw [if_neg c39] at H
                have c39b0 : (t462 == t463) = false := beq_eq_false_iff_ne.mpr c39
                have c39b1 : (t462 != t463) = true := bne_iff_ne.mpr c39
                (first | rw [c39b0] | (simp only [i64_w, i32_w]; rw [c39b0]) | skip)
                by_cases c40 : t470 = true
                · subst c40
                  have H1 : (if t476 = true then (if t482 = true then (laws_FnBrackets.j1 k1 l0 x4_1 true t466 t467 t472 t473) else (if (t467.length : Int) = (wrap64 ((x462001_1.length : Int) + 1)) then (laws_FnBrackets.j1 k1 l0 x4_1 ((t473.length : Int) != (t467.length : Int)) t466 t467 t472 t473) else (laws_FnBrackets.j1 k1 l0 x4_1 true t466 t467 t472 t473))) else (laws_FnBrackets.j1 k1 l0 x4_1 true t466 t467 t472 t473)) = some r := by rw [if_pos rfl] at H; exact H
                  clear H
                  have H := H1
                  clear H1
                  by_cases c41 : t476 = true
                  · subst c41
                    have H1 : (if t482 = true then (laws_FnBrackets.j1 k1 l0 x4_1 true t466 t467 t472 t473) else (if (t467.length : Int) = (wrap64 ((x462001_1.length : Int) + 1)) then (laws_FnBrackets.j1 k1 l0 x4_1 ((t473.length : Int) != (t467.length : Int)) t466 t467 t472 t473) else (laws_FnBrackets.j1 k1 l0 x4_1 true t466 t467 t472 t473))) = some r := by rw [if_pos rfl] at H; exact H
                    clear H
                    have H := H1
                    clear H1
                    by_cases c42 : t482 = true
                    · subst c42
                      have H1 : (laws_FnBrackets.j1 k1 l0 x4_1 true t466 t467 t472 t473) = some r := by rw [if_pos rfl] at H; exact H
                      clear H
                      have H := H1
                      clear H1
                      have H' := Aside0.mk H
                      clear H
                      go_wp2
                      go_meet
                      case rel => exact ⟨_, (true), (es), H', ⟨by have := HK1.out; first | omega | exact Nat.le_refl _⟩, ⟨by (with_reducible repeat (first | apply Kd.R_alloc | apply Kd.R_drewN | apply Kd.R_drew)); exact Kd.R_mono (Kd.R_far (p := ⟨gb483, 1, none⟩) (Kd.R_far (p := ⟨gb483, 0, none⟩) (Kd.R_types HO_462001.out BK483.out (by decide)) (fun _ hk => hk.2) (.int .i64 t478)) (fun _ hk => hk.2) (.slice Ao38 t479.length co38)) (fun _ hk => ⟨hk.1.1.1.2, ⟨hk.1.1.2, hk.1.2⟩⟩)⟩, ⟨by (with_reducible repeat (first | apply Kd.R_alloc | apply Kd.R_drewN | apply Kd.R_drew)); exact Kd.R_mono (Kd.R_far (p := ⟨gb483, 1, none⟩) (Kd.R_far (p := ⟨gb483, 0, none⟩) (Kd.R_types HO469.out BK483.out (by decide)) (fun _ hk => hk.2) (.int .i64 t478)) (fun _ hk => hk.2) (.slice Ao38 t479.length co38)) (fun _ hk => ⟨hk.1.1.1.2, ⟨hk.1.1.2, hk.1.2⟩⟩)⟩, ⟨by (with_reducible repeat (first | apply Kd.R_alloc | apply Kd.R_drewN | apply Kd.R_drew)); exact Kd.R_mono (Kd.R_far (p := ⟨gb483, 1, none⟩) (Kd.R_far (p := ⟨gb483, 0, none⟩) (Kd.R_types HO475.out BK483.out (by decide)) (fun _ hk => hk.2) (.int .i64 t478)) (fun _ hk => hk.2) (.slice Ao38 t479.length co38)) (fun _ hk => ⟨hk.1.1.1.2, ⟨hk.1.1.2, hk.1.2⟩⟩)⟩, ⟨by (with_reducible repeat (first | apply Kd.R_alloc | apply Kd.R_drewN | apply Kd.R_drew)); exact Kd.R_mono (Kd.R_far (p := ⟨gb483, 1, none⟩) (Kd.R_far (p := ⟨gb483, 0, none⟩) (Kd.R_types HO481.out BK483.out (by decide)) (fun _ hk => hk.2) (.int .i64 t478)) (fun _ hk => hk.2) (.slice Ao38 t479.length co38)) (fun _ hk => ⟨hk.1.1.1.2, ⟨hk.1.1.2, hk.1.2⟩⟩)⟩, ⟨bk BK461.out⟩, ⟨bk BK471.out⟩, ⟨bk BK477.out⟩, ⟨by (with_reducible repeat (first | refine blk_drewN ?_ _ | refine blk_drew ?_ | refine blk_alloc ?_ _)); refine blk_put (cs := #[.int .i64 t478, .slice none 0 0]) ?_ 1 _ rfl; (with_reducible repeat (first | refine blk_drewN ?_ _ | refine blk_drew ?_ | refine blk_alloc ?_ _)); refine blk_put (cs := #[.int .i64 0, .slice none 0 0]) ?_ 0 _ rfl; (with_reducible repeat (first | refine blk_drewN ?_ _ | refine blk_drew ?_ | refine blk_alloc ?_ _)); exact BK483.out⟩, ⟨bel⟩⟩
                    · replace c42 := Bool.eq_false_iff.mpr c42
                      subst c42
                      have H1 : (if (t467.length : Int) = (wrap64 ((x462001_1.length : Int) + 1)) then (laws_FnBrackets.j1 k1 l0 x4_1 ((t473.length : Int) != (t467.length : Int)) t466 t467 t472 t473) else (laws_FnBrackets.j1 k1 l0 x4_1 true t466 t467 t472 t473)) = some r := by rw [if_neg (show ¬ (false = true) by decide)] at H; exact H
                      clear H
                      have H := H1
                      clear H1
                      by_cases c43 : (t467.length : Int) = (wrap64 ((x462001_1.length : Int) + 1))
                      · rw [if_pos c43] at H
                        have c43b0 : ((t467.length : Int) == (wrap64 ((x462001_1.length : Int) + 1))) = true := beq_iff_eq.mpr c43
                        have c43b1 : ((t467.length : Int) != (wrap64 ((x462001_1.length : Int) + 1))) = false := bne_eq_false_iff_eq.mpr c43
                        clear c43
                        have H' := Aside0.mk H
                        clear H
                        have hnb44 := NB471_461.out
                        have hnc44 := NB461_471.out
                        have hnb45 := NB471_477.out
                        have hnc45 := NB477_471.out
                        have hnb46 := NB471_483.out
                        have hnc46 := NB483_471.out
                        obtain ⟨hcz47_0, hcz47_1, hfz47_0, hfz47_1⟩ := cf2 BK471.out
                        have hnb48 := NB461_477.out
                        have hnc48 := NB477_461.out
                        have hnb49 := NB461_483.out
                        have hnc49 := NB483_461.out
                        obtain ⟨hcz50_0, hcz50_1, hfz50_0, hfz50_1⟩ := cf2 BK461.out
                        have hnb51 := NB477_483.out
                        have hnc51 := NB483_477.out
                        obtain ⟨hcz52_0, hcz52_1, hfz52_0, hfz52_1⟩ := cf2 BK477.out
                        go_wp2
                        go_meet
                        case rel => exact ⟨_, (((t473.length : Int) != (t467.length : Int))), (es), H', ⟨by have := HK1.out; first | omega | exact Nat.le_refl _⟩, ⟨by (with_reducible repeat (first | apply Kd.R_alloc | apply Kd.R_drewN | apply Kd.R_drew)); exact Kd.R_mono (Kd.R_far (p := ⟨gb483, 1, none⟩) (Kd.R_far (p := ⟨gb483, 0, none⟩) (Kd.R_types HO_462001.out BK483.out (by decide)) (fun _ hk => hk.2) (.int .i64 t478)) (fun _ hk => hk.2) (.slice Ao38 t479.length co38)) (fun _ hk => ⟨hk.1.1.1.2, ⟨hk.1.1.2, hk.1.2⟩⟩)⟩, ⟨by (with_reducible repeat (first | apply Kd.R_alloc | apply Kd.R_drewN | apply Kd.R_drew)); exact Kd.R_mono (Kd.R_far (p := ⟨gb483, 1, none⟩) (Kd.R_far (p := ⟨gb483, 0, none⟩) (Kd.R_types HO469.out BK483.out (by decide)) (fun _ hk => hk.2) (.int .i64 t478)) (fun _ hk => hk.2) (.slice Ao38 t479.length co38)) (fun _ hk => ⟨hk.1.1.1.2, ⟨hk.1.1.2, hk.1.2⟩⟩)⟩, ⟨by (with_reducible repeat (first | apply Kd.R_alloc | apply Kd.R_drewN | apply Kd.R_drew)); exact Kd.R_mono (Kd.R_far (p := ⟨gb483, 1, none⟩) (Kd.R_far (p := ⟨gb483, 0, none⟩) (Kd.R_types HO475.out BK483.out (by decide)) (fun _ hk => hk.2) (.int .i64 t478)) (fun _ hk => hk.2) (.slice Ao38 t479.length co38)) (fun _ hk => ⟨hk.1.1.1.2, ⟨hk.1.1.2, hk.1.2⟩⟩)⟩, ⟨by (with_reducible repeat (first | apply Kd.R_alloc | apply Kd.R_drewN | apply Kd.R_drew)); exact Kd.R_mono (Kd.R_far (p := ⟨gb483, 1, none⟩) (Kd.R_far (p := ⟨gb483, 0, none⟩) (Kd.R_types HO481.out BK483.out (by decide)) (fun _ hk => hk.2) (.int .i64 t478)) (fun _ hk => hk.2) (.slice Ao38 t479.length co38)) (fun _ hk => ⟨hk.1.1.1.2, ⟨hk.1.1.2, hk.1.2⟩⟩)⟩, ⟨bk BK461.out⟩, ⟨bk BK471.out⟩, ⟨bk BK477.out⟩, ⟨by (with_reducible repeat (first | refine blk_drewN ?_ _ | refine blk_drew ?_ | refine blk_alloc ?_ _)); refine blk_put (cs := #[.int .i64 t478, .slice none 0 0]) ?_ 1 _ rfl; (with_reducible repeat (first | refine blk_drewN ?_ _ | refine blk_drew ?_ | refine blk_alloc ?_ _)); refine blk_put (cs := #[.int .i64 0, .slice none 0 0]) ?_ 0 _ rfl; (with_reducible repeat (first | refine blk_drewN ?_ _ | refine blk_drew ?_ | refine blk_alloc ?_ _)); exact BK483.out⟩, ⟨bel⟩⟩
                      · rw [if_neg c43] at H
                        have c43b0 : ((t467.length : Int) == (wrap64 ((x462001_1.length : Int) + 1))) = false := beq_eq_false_iff_ne.mpr c43
                        have c43b1 : ((t467.length : Int) != (wrap64 ((x462001_1.length : Int) + 1))) = true := bne_iff_ne.mpr c43
                        have H' := Aside0.mk H
                        clear H
                        have hnb53 := NB471_461.out
                        have hnc53 := NB461_471.out
                        have hnb54 := NB471_477.out
                        have hnc54 := NB477_471.out
                        have hnb55 := NB471_483.out
                        have hnc55 := NB483_471.out
                        obtain ⟨hcz56_0, hcz56_1, hfz56_0, hfz56_1⟩ := cf2 BK471.out
                        have hnb57 := NB461_477.out
                        have hnc57 := NB477_461.out
                        have hnb58 := NB461_483.out
                        have hnc58 := NB483_461.out
                        obtain ⟨hcz59_0, hcz59_1, hfz59_0, hfz59_1⟩ := cf2 BK461.out
                        go_wp2
                        go_meet
                        case rel => exact ⟨_, (true), (es), H', ⟨by have := HK1.out; first | omega | exact Nat.le_refl _⟩, ⟨by (with_reducible repeat (first | apply Kd.R_alloc | apply Kd.R_drewN | apply Kd.R_drew)); exact Kd.R_mono (Kd.R_far (p := ⟨gb483, 1, none⟩) (Kd.R_far (p := ⟨gb483, 0, none⟩) (Kd.R_types HO_462001.out BK483.out (by decide)) (fun _ hk => hk.2) (.int .i64 t478)) (fun _ hk => hk.2) (.slice Ao38 t479.length co38)) (fun _ hk => ⟨hk.1.1.1.2, ⟨hk.1.1.2, hk.1.2⟩⟩)⟩, ⟨by (with_reducible repeat (first | apply Kd.R_alloc | apply Kd.R_drewN | apply Kd.R_drew)); exact Kd.R_mono (Kd.R_far (p := ⟨gb483, 1, none⟩) (Kd.R_far (p := ⟨gb483, 0, none⟩) (Kd.R_types HO469.out BK483.out (by decide)) (fun _ hk => hk.2) (.int .i64 t478)) (fun _ hk => hk.2) (.slice Ao38 t479.length co38)) (fun _ hk => ⟨hk.1.1.1.2, ⟨hk.1.1.2, hk.1.2⟩⟩)⟩, ⟨by (with_reducible repeat (first | apply Kd.R_alloc | apply Kd.R_drewN | apply Kd.R_drew)); exact Kd.R_mono (Kd.R_far (p := ⟨gb483, 1, none⟩) (Kd.R_far (p := ⟨gb483, 0, none⟩) (Kd.R_types HO475.out BK483.out (by decide)) (fun _ hk => hk.2) (.int .i64 t478)) (fun _ hk => hk.2) (.slice Ao38 t479.length co38)) (fun _ hk => ⟨hk.1.1.1.2, ⟨hk.1.1.2, hk.1.2⟩⟩)⟩, ⟨by (with_reducible repeat (first | apply Kd.R_alloc | apply Kd.R_drewN | apply Kd.R_drew)); exact Kd.R_mono (Kd.R_far (p := ⟨gb483, 1, none⟩) (Kd.R_far (p := ⟨gb483, 0, none⟩) (Kd.R_types HO481.out BK483.out (by decide)) (fun _ hk => hk.2) (.int .i64 t478)) (fun _ hk => hk.2) (.slice Ao38 t479.length co38)) (fun _ hk => ⟨hk.1.1.1.2, ⟨hk.1.1.2, hk.1.2⟩⟩)⟩, ⟨bk BK461.out⟩, ⟨bk BK471.out⟩, ⟨bk BK477.out⟩, ⟨by (with_reducible repeat (first | refine blk_drewN ?_ _ | refine blk_drew ?_ | refine blk_alloc ?_ _)); refine blk_put (cs := #[.int .i64 t478, .slice none 0 0]) ?_ 1 _ rfl; (with_reducible repeat (first | refine blk_drewN ?_ _ | refine blk_drew ?_ | refine blk_alloc ?_ _)); refine blk_put (cs := #[.int .i64 0, .slice none 0 0]) ?_ 0 _ rfl; (with_reducible repeat (first | refine blk_drewN ?_ _ | refine blk_drew ?_ | refine blk_alloc ?_ _)); exact BK483.out⟩, ⟨bel⟩⟩
                  · replace c41 := Bool.eq_false_iff.mpr c41
                    subst c41
                    have H1 : (laws_FnBrackets.j1 k1 l0 x4_1 true t466 t467 t472 t473) = some r := by rw [if_neg (show ¬ (false = true) by decide)] at H; exact H
                    clear H
                    have H := H1
                    clear H1
                    have H' := Aside0.mk H
                    clear H
                    go_wp2
                    go_meet
                    case rel => exact ⟨_, (true), (es), H', ⟨by have := HK1.out; first | omega | exact Nat.le_refl _⟩, ⟨by (with_reducible repeat (first | apply Kd.R_alloc | apply Kd.R_drewN | apply Kd.R_drew)); exact Kd.R_mono (Kd.R_far (p := ⟨gb483, 1, none⟩) (Kd.R_far (p := ⟨gb483, 0, none⟩) (Kd.R_types HO_462001.out BK483.out (by decide)) (fun _ hk => hk.2) (.int .i64 t478)) (fun _ hk => hk.2) (.slice Ao38 t479.length co38)) (fun _ hk => ⟨hk.1.1.1.2, ⟨hk.1.1.2, hk.1.2⟩⟩)⟩, ⟨by (with_reducible repeat (first | apply Kd.R_alloc | apply Kd.R_drewN | apply Kd.R_drew)); exact Kd.R_mono (Kd.R_far (p := ⟨gb483, 1, none⟩) (Kd.R_far (p := ⟨gb483, 0, none⟩) (Kd.R_types HO469.out BK483.out (by decide)) (fun _ hk => hk.2) (.int .i64 t478)) (fun _ hk => hk.2) (.slice Ao38 t479.length co38)) (fun _ hk => ⟨hk.1.1.1.2, ⟨hk.1.1.2, hk.1.2⟩⟩)⟩, ⟨by (with_reducible repeat (first | apply Kd.R_alloc | apply Kd.R_drewN | apply Kd.R_drew)); exact Kd.R_mono (Kd.R_far (p := ⟨gb483, 1, none⟩) (Kd.R_far (p := ⟨gb483, 0, none⟩) (Kd.R_types HO475.out BK483.out (by decide)) (fun _ hk => hk.2) (.int .i64 t478)) (fun _ hk => hk.2) (.slice Ao38 t479.length co38)) (fun _ hk => ⟨hk.1.1.1.2, ⟨hk.1.1.2, hk.1.2⟩⟩)⟩, ⟨by (with_reducible repeat (first | apply Kd.R_alloc | apply Kd.R_drewN | apply Kd.R_drew)); exact Kd.R_mono (Kd.R_far (p := ⟨gb483, 1, none⟩) (Kd.R_far (p := ⟨gb483, 0, none⟩) (Kd.R_types HO481.out BK483.out (by decide)) (fun _ hk => hk.2) (.int .i64 t478)) (fun _ hk => hk.2) (.slice Ao38 t479.length co38)) (fun _ hk => ⟨hk.1.1.1.2, ⟨hk.1.1.2, hk.1.2⟩⟩)⟩, ⟨bk BK461.out⟩, ⟨bk BK471.out⟩, ⟨bk BK477.out⟩, ⟨by (with_reducible repeat (first | refine blk_drewN ?_ _ | refine blk_drew ?_ | refine blk_alloc ?_ _)); refine blk_put (cs := #[.int .i64 t478, .slice none 0 0]) ?_ 1 _ rfl; (with_reducible repeat (first | refine blk_drewN ?_ _ | refine blk_drew ?_ | refine blk_alloc ?_ _)); refine blk_put (cs := #[.int .i64 0, .slice none 0 0]) ?_ 0 _ rfl; (with_reducible repeat (first | refine blk_drewN ?_ _ | refine blk_drew ?_ | refine blk_alloc ?_ _)); exact BK483.out⟩, ⟨bel⟩⟩
                · replace c40 := Bool.eq_false_iff.mpr c40
                  subst c40
                  have H1 : (laws_FnBrackets.j1 k1 l0 x4_1 true t466 t467 t472 t473) = some r := by rw [if_neg (show ¬ (false = true) by decide)] at H; exact H
                  clear H
                  have H := H1
                  clear H1
                  have H' := Aside0.mk H
                  clear H
                  go_wp2
                  go_meet
                  case rel => exact ⟨_, (true), (es), H', ⟨by have := HK1.out; first | omega | exact Nat.le_refl _⟩, ⟨by (with_reducible repeat (first | apply Kd.R_alloc | apply Kd.R_drewN | apply Kd.R_drew)); exact Kd.R_mono (Kd.R_far (p := ⟨gb483, 1, none⟩) (Kd.R_far (p := ⟨gb483, 0, none⟩) (Kd.R_types HO_462001.out BK483.out (by decide)) (fun _ hk => hk.2) (.int .i64 t478)) (fun _ hk => hk.2) (.slice Ao38 t479.length co38)) (fun _ hk => ⟨hk.1.1.1.2, ⟨hk.1.1.2, hk.1.2⟩⟩)⟩, ⟨by (with_reducible repeat (first | apply Kd.R_alloc | apply Kd.R_drewN | apply Kd.R_drew)); exact Kd.R_mono (Kd.R_far (p := ⟨gb483, 1, none⟩) (Kd.R_far (p := ⟨gb483, 0, none⟩) (Kd.R_types HO469.out BK483.out (by decide)) (fun _ hk => hk.2) (.int .i64 t478)) (fun _ hk => hk.2) (.slice Ao38 t479.length co38)) (fun _ hk => ⟨hk.1.1.1.2, ⟨hk.1.1.2, hk.1.2⟩⟩)⟩, ⟨by (with_reducible repeat (first | apply Kd.R_alloc | apply Kd.R_drewN | apply Kd.R_drew)); exact Kd.R_mono (Kd.R_far (p := ⟨gb483, 1, none⟩) (Kd.R_far (p := ⟨gb483, 0, none⟩) (Kd.R_types HO475.out BK483.out (by decide)) (fun _ hk => hk.2) (.int .i64 t478)) (fun _ hk => hk.2) (.slice Ao38 t479.length co38)) (fun _ hk => ⟨hk.1.1.1.2, ⟨hk.1.1.2, hk.1.2⟩⟩)⟩, ⟨by (with_reducible repeat (first | apply Kd.R_alloc | apply Kd.R_drewN | apply Kd.R_drew)); exact Kd.R_mono (Kd.R_far (p := ⟨gb483, 1, none⟩) (Kd.R_far (p := ⟨gb483, 0, none⟩) (Kd.R_types HO481.out BK483.out (by decide)) (fun _ hk => hk.2) (.int .i64 t478)) (fun _ hk => hk.2) (.slice Ao38 t479.length co38)) (fun _ hk => ⟨hk.1.1.1.2, ⟨hk.1.1.2, hk.1.2⟩⟩)⟩, ⟨bk BK461.out⟩, ⟨bk BK471.out⟩, ⟨bk BK477.out⟩, ⟨by (with_reducible repeat (first | refine blk_drewN ?_ _ | refine blk_drew ?_ | refine blk_alloc ?_ _)); refine blk_put (cs := #[.int .i64 t478, .slice none 0 0]) ?_ 1 _ rfl; (with_reducible repeat (first | refine blk_drewN ?_ _ | refine blk_drew ?_ | refine blk_alloc ?_ _)); refine blk_put (cs := #[.int .i64 0, .slice none 0 0]) ?_ 0 _ rfl; (with_reducible repeat (first | refine blk_drewN ?_ _ | refine blk_drew ?_ | refine blk_alloc ?_ _)); exact BK483.out⟩, ⟨bel⟩⟩
            case rest =>
              clear HC14
              try clear c1; try clear c2; try clear c2b0; try clear c2b1; try clear p2; try clear c3; try clear c4; try clear c5; try clear p6; try clear c8; try clear c8b0; try clear c10; try clear c11; try clear c21; try clear c27; try clear c28; try clear c30; try clear c34; try clear c35; try clear c36; try clear c37; try clear c39; try clear c39b0; try clear c39b1; try clear c40; try clear c41; try clear c42; try clear c43; try clear c43b0; try clear c43b1; try clear c44; try clear c45; try clear c46; try clear c48; try clear c49; try clear c51; try clear c53; try clear c54; try clear c55; try clear c57; try clear c58; try clear hcz15_0; try clear hcz15_1; try clear hcz18_0; try clear hcz18_1; try clear hcz22_0; try clear hcz22_1; try clear hcz24_0; try clear hcz24_1; try clear hcz29_0; try clear hcz29_1; try clear hcz31_0; try clear hcz31_1; try clear hcz37_0; try clear hcz37_1; try clear hcz47_0; try clear hcz47_1; try clear hcz50_0; try clear hcz50_1; try clear hcz52_0; try clear hcz52_1; try clear hcz56_0; try clear hcz56_1; try clear hcz59_0; try clear hcz59_1; try clear hcz6_0; try clear hcz6_1; try clear hfz15_0; try clear hfz15_1; try clear hfz18_0; try clear hfz18_1; try clear hfz22_0; try clear hfz22_1; try clear hfz24_0; try clear hfz24_1; try clear hfz29_0; try clear hfz29_1; try clear hfz31_0; try clear hfz31_1; try clear hfz37_0; try clear hfz37_1; try clear hfz47_0; try clear hfz47_1; try clear hfz50_0; try clear hfz50_1; try clear hfz52_0; try clear hfz52_1; try clear hfz56_0; try clear hfz56_1; try clear hfz59_0; try clear hfz59_1; try clear hfz6_0; try clear hfz6_1; try clear p2
              obtain ⟨kq, x95_13, rfl, HA, HJ13, HO_462001, HO_472001, HO_478001, HO_484001, BK461, BK471, BK477, BK483, HB⟩ := hcut
              cases kq with
              | zero => exact absurd HA.out (by simp [laws_FnBrackets.j1])
              | succ kj13 =>
                have H := HA.out
                clear HA
                simp only [laws_FnBrackets.j1] at H
                by_cases c60 : x95_13 = true
                · subst c60
                  have H1 : (some false) = some r := by rw [if_pos rfl] at H; exact H
                  clear H
                  have H := H1
                  clear H1
                  obtain rfl := Option.some.inj H
                  go_wp2
                  go_ret
                  exact ⟨er, bel⟩
                · replace c60 := Bool.eq_false_iff.mpr c60
                  subst c60
                  have H1 : ((spec_MakeNum.f kj13 l0 (wrap64 (60 + x4_1))).bind fun t484 => (if (Int.tmod t484 2) = 0 then (laws_FnBrackets.l0 kj13 l0 (wrap64 (x4_1 + 1)) t472 t473) else (laws_FnBrackets.l0 kj13 l0 (wrap64 (x4_1 + 1)) t466 t467))) = some r := by rw [if_neg (show ¬ (false = true) by decide)] at H; exact H
                  clear H
                  have H := H1
                  clear H1
                  replace H := Option.bind_eq_some_iff.mp H
                  obtain ⟨t484, A610, H⟩ := H
                  replace H : (if (Int.tmod t484 2) = 0 then (laws_FnBrackets.l0 kj13 l0 (wrap64 (x4_1 + 1)) t472 t473) else (laws_FnBrackets.l0 kj13 l0 (wrap64 (x4_1 + 1)) t466 t467)) = some r := H
                  have A61 := Aside0.mk A610
                  clear A610
                  by_cases c62 : (Int.tmod t484 2) = 0
                  · rw [if_pos c62] at H
                    have c62b0 : ((Int.tmod t484 2) == 0) = true := beq_iff_eq.mpr c62
                    have c62b1 : ((Int.tmod t484 2) != 0) = false := bne_eq_false_iff_eq.mpr c62
                    clear c62
                    have H' := Aside0.mk H
                    clear H
                    have hnb63 := NB471_461.out
                    have hnc63 := NB461_471.out
                    have hnb64 := NB471_477.out
                    have hnc64 := NB477_471.out
                    have hnb65 := NB471_483.out
                    have hnc65 := NB483_471.out
                    obtain ⟨hcz66_0, hcz66_1, hfz66_0, hfz66_1⟩ := cf2 BK471.out
                    have hnb67 := NB461_477.out
                    have hnc67 := NB477_461.out
                    have hnb68 := NB461_483.out
                    have hnc68 := NB483_461.out
                    obtain ⟨hcz69_0, hcz69_1, hfz69_0, hfz69_1⟩ := cf2 BK461.out
                    go_wp2_with (first | ((with_reducible refine gate_callee (f := 38) rfl ?_); refine goesL_ (some 100) rfl rfl Try.func38 (by kernel_rfl) rfl #[.slice A0 l0.length c0, .int .i64 (wrap64 (60 + x4_1))] rfl ga ?_; (with_reducible refine (spec_MakeNum.calls kj13 _ _ l0 (wrap64 (60 + x4_1)) t484 _ ?side1 ?side2 A61.out).mono ?_); (case side1 => exact Kd.C_below HR0.out bel); (case side2 => exact HC0.out); rintro e w70 ⟨rfl, hb⟩; refine ⟨_, rfl, ?_⟩; replace HO_462001 := Aside0.mk (Kd.R_below (by exact rk (Kd.R_mono (Kd.R_far (p := ⟨gb461, 1, none⟩) (Kd.R_far (p := ⟨gb461, 0, none⟩) (Kd.R_types HO_462001.out BK461.out (by decide)) (fun _ hk => hk.2) (.int .i64 t466)) (fun _ hk => hk.2) (.slice Ao23 t467.length co23)) (fun _ h_ => h_.1))) hb); replace HO_472001 := Aside0.mk (Kd.R_below (by exact rk (Kd.R_mono (Kd.R_far (p := ⟨gb461, 1, none⟩) (Kd.R_far (p := ⟨gb461, 0, none⟩) (Kd.R_types HO_472001.out BK461.out (by decide)) (fun _ hk => hk.2) (.int .i64 t466)) (fun _ hk => hk.2) (.slice Ao23 t467.length co23)) (fun _ h_ => h_.1))) hb); replace HO_478001 := Aside0.mk (Kd.R_below (by exact rk (Kd.R_mono (Kd.R_far (p := ⟨gb461, 1, none⟩) (Kd.R_far (p := ⟨gb461, 0, none⟩) (Kd.R_types HO_478001.out BK461.out (by decide)) (fun _ hk => hk.2) (.int .i64 t466)) (fun _ hk => hk.2) (.slice Ao23 t467.length co23)) (fun _ h_ => h_.1))) hb); replace HO_484001 := Aside0.mk (Kd.R_below (by exact rk (Kd.R_mono (Kd.R_far (p := ⟨gb461, 1, none⟩) (Kd.R_far (p := ⟨gb461, 0, none⟩) (Kd.R_types HO_484001.out BK461.out (by decide)) (fun _ hk => hk.2) (.int .i64 t466)) (fun _ hk => hk.2) (.slice Ao23 t467.length co23)) (fun _ h_ => h_.1))) hb); replace BK461 := Aside0.mk (blk_below (g := gb461) (o := .cells #[.int .i64 t466, .slice Ao23 t467.length co23] 36 (0, 0)) (by (with_reducible repeat (first | refine blk_drewN ?_ _ | refine blk_drew ?_ | refine blk_alloc ?_ _)); refine blk_put (cs := #[.int .i64 t466, .slice Ao16 x462001_1.length co16]) ?_ 1 _ rfl; (with_reducible repeat (first | refine blk_drewN ?_ _ | refine blk_drew ?_ | refine blk_alloc ?_ _)); refine blk_put (cs := #[.int .i64 x462000_1, .slice Ao16 x462001_1.length co16]) ?_ 0 _ rfl; (with_reducible repeat (first | refine blk_drewN ?_ _ | refine blk_drew ?_ | refine blk_alloc ?_ _)); exact BK461.out) hb); replace BK471 := Aside0.mk (bb BK471.out hb); replace BK477 := Aside0.mk (bb BK477.out hb); replace BK483 := Aside0.mk (bb BK483.out hb); replace HB := Aside0.mk (below_step bel hb); (try clear hb); have hnb71 := NB477_483.out; have hnc71 := NB483_477.out; obtain ⟨hcz72_0, hcz72_1, hfz72_0, hfz72_1⟩ := cf2 BK477.out; obtain ⟨hcz73_0, hcz73_1, hfz73_0, hfz73_1⟩ := cf2 BK461.out))
                    go_roundg kj13
                    case measure => have := HK1.out; have := HJ13.out; omega
                    case rel => exact ⟨(wrap64 (x4_1 + 1)), (t472), (t473), (.slice Ao30 t473.length co30), (es), H', ⟨by have := HK1.out; have := HJ13.out; omega⟩, ⟨by (with_reducible repeat (first | apply Kd.R_alloc | apply Kd.R_drewN | apply Kd.R_drew)); exact Kd.R_mono (Kd.R_far (p := ⟨gb461, 1, none⟩) (Kd.R_far (p := ⟨gb461, 0, none⟩) (Kd.R_types HO_478001.out BK461.out (by decide)) (fun _ hk => hk.2) (.int .i64 t472)) (fun _ hk => hk.2) (.slice Ao30 t473.length co30)) (fun _ hk => trivial)⟩, ⟨by (with_reducible repeat (first | refine blk_drewN ?_ _ | refine blk_drew ?_ | refine blk_alloc ?_ _)); refine blk_put (cs := #[.int .i64 t472, .slice Ao23 t467.length co23]) ?_ 1 _ rfl; (with_reducible repeat (first | refine blk_drewN ?_ _ | refine blk_drew ?_ | refine blk_alloc ?_ _)); refine blk_put (cs := #[.int .i64 t466, .slice Ao23 t467.length co23]) ?_ 0 _ rfl; (with_reducible repeat (first | refine blk_drewN ?_ _ | refine blk_drew ?_ | refine blk_alloc ?_ _)); exact BK461.out⟩, ⟨bel⟩⟩
                  · rw [if_neg c62] at H
                    have c62b0 : ((Int.tmod t484 2) == 0) = false := beq_eq_false_iff_ne.mpr c62
                    have c62b1 : ((Int.tmod t484 2) != 0) = true := bne_iff_ne.mpr c62
                    have H' := Aside0.mk H
                    clear H
                    have hnb74 := NB471_461.out
                    have hnc74 := NB461_471.out
                    have hnb75 := NB471_477.out
                    have hnc75 := NB477_471.out
                    have hnb76 := NB471_483.out
                    have hnc76 := NB483_471.out
                    obtain ⟨hcz77_0, hcz77_1, hfz77_0, hfz77_1⟩ := cf2 BK471.out
                    have hnb78 := NB461_477.out
                    have hnc78 := NB477_461.out
                    have hnb79 := NB461_483.out
                    have hnc79 := NB483_461.out
                    obtain ⟨hcz80_0, hcz80_1, hfz80_0, hfz80_1⟩ := cf2 BK461.out
                    go_wp2_with (first | ((with_reducible refine gate_callee (f := 38) rfl ?_); refine goesL_ (some 100) rfl rfl Try.func38 (by kernel_rfl) rfl #[.slice A0 l0.length c0, .int .i64 (wrap64 (60 + x4_1))] rfl ga ?_; (with_reducible refine (spec_MakeNum.calls kj13 _ _ l0 (wrap64 (60 + x4_1)) t484 _ ?side1 ?side2 A61.out).mono ?_); (case side1 => exact Kd.C_below HR0.out bel); (case side2 => exact HC0.out); rintro e w81 ⟨rfl, hb⟩; refine ⟨_, rfl, ?_⟩; replace HO_462001 := Aside0.mk (Kd.R_below (by exact rk (Kd.R_mono (Kd.R_far (p := ⟨gb461, 1, none⟩) (Kd.R_far (p := ⟨gb461, 0, none⟩) (Kd.R_types HO_462001.out BK461.out (by decide)) (fun _ hk => hk.2) (.int .i64 t466)) (fun _ hk => hk.2) (.slice Ao23 t467.length co23)) (fun _ h_ => h_.1))) hb); replace HO_472001 := Aside0.mk (Kd.R_below (by exact rk (Kd.R_mono (Kd.R_far (p := ⟨gb461, 1, none⟩) (Kd.R_far (p := ⟨gb461, 0, none⟩) (Kd.R_types HO_472001.out BK461.out (by decide)) (fun _ hk => hk.2) (.int .i64 t466)) (fun _ hk => hk.2) (.slice Ao23 t467.length co23)) (fun _ h_ => h_.1))) hb); replace HO_478001 := Aside0.mk (Kd.R_below (by exact rk (Kd.R_mono (Kd.R_far (p := ⟨gb461, 1, none⟩) (Kd.R_far (p := ⟨gb461, 0, none⟩) (Kd.R_types HO_478001.out BK461.out (by decide)) (fun _ hk => hk.2) (.int .i64 t466)) (fun _ hk => hk.2) (.slice Ao23 t467.length co23)) (fun _ h_ => h_.1))) hb); replace HO_484001 := Aside0.mk (Kd.R_below (by exact rk (Kd.R_mono (Kd.R_far (p := ⟨gb461, 1, none⟩) (Kd.R_far (p := ⟨gb461, 0, none⟩) (Kd.R_types HO_484001.out BK461.out (by decide)) (fun _ hk => hk.2) (.int .i64 t466)) (fun _ hk => hk.2) (.slice Ao23 t467.length co23)) (fun _ h_ => h_.1))) hb); replace BK461 := Aside0.mk (blk_below (g := gb461) (o := .cells #[.int .i64 t466, .slice Ao23 t467.length co23] 36 (0, 0)) (by (with_reducible repeat (first | refine blk_drewN ?_ _ | refine blk_drew ?_ | refine blk_alloc ?_ _)); refine blk_put (cs := #[.int .i64 t466, .slice Ao16 x462001_1.length co16]) ?_ 1 _ rfl; (with_reducible repeat (first | refine blk_drewN ?_ _ | refine blk_drew ?_ | refine blk_alloc ?_ _)); refine blk_put (cs := #[.int .i64 x462000_1, .slice Ao16 x462001_1.length co16]) ?_ 0 _ rfl; (with_reducible repeat (first | refine blk_drewN ?_ _ | refine blk_drew ?_ | refine blk_alloc ?_ _)); exact BK461.out) hb); replace BK471 := Aside0.mk (bb BK471.out hb); replace BK477 := Aside0.mk (bb BK477.out hb); replace BK483 := Aside0.mk (bb BK483.out hb); replace HB := Aside0.mk (below_step bel hb); (try clear hb)))
                    go_roundg kj13
                    case measure => have := HK1.out; have := HJ13.out; omega
                    case rel => exact ⟨(wrap64 (x4_1 + 1)), (t466), (t467), (.slice Ao23 t467.length co23), (es), H', ⟨by have := HK1.out; have := HJ13.out; omega⟩, ⟨by (with_reducible repeat (first | apply Kd.R_alloc | apply Kd.R_drewN | apply Kd.R_drew)); exact Kd.R_mono HO_472001.out (fun _ hk => trivial)⟩, ⟨bk BK461.out⟩, ⟨bel⟩⟩
          · replace c10 := Bool.eq_false_iff.mpr c10
            subst c10
            have H1 : (if (x462001_1.length : Int) = (wrap64 (x462000_1 - 1)) then ((impl_ChampionOf.f k1 x462000_1 x462001_1).bind fun t465 => (some (decide (t465 > 0)))) else (some false)) = some r := by rw [if_neg (show ¬ (false = true) by decide)] at H; exact H
            clear H
            have H := H1
            clear H1
            by_cases c82 : (x462001_1.length : Int) = (wrap64 (x462000_1 - 1))
            · rw [if_pos c82] at H
              have c82b0 : ((x462001_1.length : Int) == (wrap64 (x462000_1 - 1))) = true := beq_iff_eq.mpr c82
              have c82b1 : ((x462001_1.length : Int) != (wrap64 (x462000_1 - 1))) = false := bne_eq_false_iff_eq.mpr c82
              clear c82
              replace H := Option.bind_eq_some_iff.mp H
              obtain ⟨t465, A830, H⟩ := H
              replace H : (some (decide (t465 > 0))) = some r := H
              have A83 := Aside0.mk A830
              clear A830
              obtain rfl := Option.some.inj H
              obtain ⟨hcz84_0, hcz84_1, hfz84_0, hfz84_1⟩ := cf2 BK461.out
              obtain ⟨Ao85, co85, eo85⟩ := Kd.R_slice HO_462001.out
              subst eo85
              go_wp2_with (first | ((with_reducible refine gate_callee (f := 30) rfl ?_); refine goesL_ (some 28) rfl rfl Try.func30 (by kernel_rfl) rfl #[.agg #[.int .i64 x462000_1, .slice Ao85 x462001_1.length co85], .int .i64 (x462001_1.length : Int)] rfl ga ?_; (with_reducible refine (impl_OpponentsOf.calls k1 x462000_1 _ _ x462001_1 (x462001_1.length : Int) t462 t463 false _ ?side1 ?side2 A9.out).mono ?_); (case side1 => exact ck (Kd.R_reads' HO_462001.out).2.2); (case side2 => exact (Kd.R_reads' HO_462001.out).2.1); rintro e w86 ⟨rfl, hb⟩; refine ⟨_, rfl, ?_⟩; replace HO_462001 := Aside0.mk (Kd.R_below (rk HO_462001.out) hb); replace BK461 := Aside0.mk (bb BK461.out hb); replace HB := Aside0.mk (below_step bel hb); (try clear hb); obtain ⟨hcz87_0, hcz87_1, hfz87_0, hfz87_1⟩ := cf2 BK461.out) | (go_at_call 35; (with_reducible refine (impl_ChampionOf.calls k1 x462000_1 _ _ x462001_1 t465 _ ?side1 ?side2 A83.out).mono ?_); (case side1 => exact ck (Kd.R_reads' HO_462001.out).2.2); (case side2 => exact (Kd.R_reads' HO_462001.out).2.1); rintro e w88 ⟨rfl, hb⟩; replace HO_462001 := Aside0.mk (Kd.R_below (rk HO_462001.out) hb); replace BK461 := Aside0.mk (bb BK461.out hb); replace HB := Aside0.mk (below_step bel hb); (try clear hb); (try clear hb2); (try clear hk); (try clear hi)))
              go_ret
              exact ⟨er, bel⟩
            · rw [if_neg c82] at H
              have c82b0 : ((x462001_1.length : Int) == (wrap64 (x462000_1 - 1))) = false := beq_eq_false_iff_ne.mpr c82
              have c82b1 : ((x462001_1.length : Int) != (wrap64 (x462000_1 - 1))) = true := bne_iff_ne.mpr c82
              obtain rfl := Option.some.inj H
              obtain ⟨hcz89_0, hcz89_1, hfz89_0, hfz89_1⟩ := cf2 BK461.out
              obtain ⟨Ao90, co90, eo90⟩ := Kd.R_slice HO_462001.out
              subst eo90
              go_wp2_with (first | ((with_reducible refine gate_callee (f := 30) rfl ?_); refine goesL_ (some 28) rfl rfl Try.func30 (by kernel_rfl) rfl #[.agg #[.int .i64 x462000_1, .slice Ao90 x462001_1.length co90], .int .i64 (x462001_1.length : Int)] rfl ga ?_; (with_reducible refine (impl_OpponentsOf.calls k1 x462000_1 _ _ x462001_1 (x462001_1.length : Int) t462 t463 false _ ?side1 ?side2 A9.out).mono ?_); (case side1 => exact ck (Kd.R_reads' HO_462001.out).2.2); (case side2 => exact (Kd.R_reads' HO_462001.out).2.1); rintro e w91 ⟨rfl, hb⟩; refine ⟨_, rfl, ?_⟩; replace HO_462001 := Aside0.mk (Kd.R_below (rk HO_462001.out) hb); replace BK461 := Aside0.mk (bb BK461.out hb); replace HB := Aside0.mk (below_step bel hb); (try clear hb); obtain ⟨hcz92_0, hcz92_1, hfz92_0, hfz92_1⟩ := cf2 BK461.out))
              go_ret
              exact ⟨er, bel⟩
        · rw [if_neg c8] at H
          have c8b0 : decide (x4_1 < 8) = false := decide_eq_false c8
          clear c8
          obtain rfl := Option.some.inj H
          go_wp2
          go_ret
          exact ⟨er, bel⟩

end Go.Proofs.Ytpacmpppiphfjaa.X
