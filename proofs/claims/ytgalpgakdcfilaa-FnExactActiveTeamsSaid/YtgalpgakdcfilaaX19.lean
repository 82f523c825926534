-- Written by a program of this session (wip/xp.py, over the kit's print) out of the translation: functions, and the walks that show them.
import Derived.Test.YtgalpgakdcfilaaX0
import Derived.Test.YtgalpgakdcfilaaX18
namespace Go.Proofs.Ytgalpgakdcfilaa.X
open Go.RowKit Go.Proofs.YtgalpgakdcfilaaW.PrintWords Go.Proofs.YtgalpgakdcfilaaW.PrintLast Go.Proofs.YtgalpgakdcfilaaW.PrintMore
attribute [local go_sem] max2_int min2_int max_two min_two max_three min_three max_four min_four   -- for this text's walks alone
set_option linter.unusedVariables false
set_option linter.unusedSimpArgs false

/-! ### spec_IsOpen: function 61 -/
def spec_IsOpen.f (a0_0 : Int) (a0_1 : Int) (a0_2 : Int) (a0_3 : Int) (a0_4 : Int) : Option (Bool) := some (a0_4 == 0)
set_option maxHeartbeats 8000000 in
set_option maxRecDepth 100000 in
theorem spec_IsOpen.calls (a0_0 : Int) (a0_1 : Int) (a0_2 : Int) (a0_3 : Int) (a0_4 : Int) (r : Bool) (w : World) (h : spec_IsOpen.f a0_0 a0_1 a0_2 a0_3 a0_4 = some r) :
    Calls Try.prog 61 #[.agg #[.int .i64 a0_0, .int .i64 a0_1, .int .i64 a0_2, .int .i64 a0_3, .int .i64 a0_4]] w fun e w' => e = .returned (.bool r) ∧ Below w.heap.size w w' := by
  have hu71 := Try.underlying71
  have HB := Aside0.mk (Below.refl w.heap.size w)
  have H : (some (a0_4 == 0)) = some r := h
  clear h
  obtain rfl := Option.some.inj H
  go_enter Try.func61, Try.ntmps61
  go_wp2_with (first | ((with_reducible refine gate_dst (N := 1) rfl ?_); refine box_event ?hg (N := 1) ?hd (cs := #[.int .i64 a0_0, .int .i64 a0_1, .int .i64 a0_2, .int .i64 a0_3, .int .i64 a0_4]) (t := 71) ?hr ?_; (case hd => rfl); (case hg => rfl); (case hr => first | (go_simp; done) | (go_simp; rfl)); intro gb237 hg w2 hbox hb; have BK237 := Aside0.mk (hbox); have GW237 := Aside0.mk ((bsz hg : w.heap.size ≤ gb237)); have GE237 := Aside0.mk ((bsz hg : w.heap.size ≤ gb237)); replace HB := Aside0.mk (below_step bel hb); clear hb hbox hg; obtain ⟨hcz3_0, hcz3_1, hcz3_2, hcz3_3, hcz3_4, hfz3_0, hfz3_1, hfz3_2, hfz3_3, hfz3_4⟩ := cf5 BK237.out))
  go_ret
  exact ⟨er, bel⟩

/-! ### spec_OpenGames: function 74 -/
def spec_OpenGames.l0 : Nat → List Int → List (S71) → Int → Int → Option (List Int)
  | 0, _, _, _, _ => none
  | k + 1, x3, x7, x8, x9 => if x9 < x8 then (if 0 ≤ x9 then (if x9 < (x7.length : Int) then ((spec_IsOpen.f ((rd_T71 x7 x9).f0) ((rd_T71 x7 x9).f1) ((rd_T71 x7 x9).f2) ((rd_T71 x7 x9).f3) ((rd_T71 x7 x9).f4)).bind fun t243 => (if t243 = true then (if x3.length < 17592186044416 then (spec_OpenGames.l0 k (x3 ++ [x9]) x7 x8 (wrap64 (x9 + 1))) else (none)) else (spec_OpenGames.l0 k x3 x7 x8 (wrap64 (x9 + 1))))) else (none)) else (none)) else (some x3)
def spec_OpenGames.f (k : Nat) (l0 : List (S71)) : Option (List Int) := spec_OpenGames.l0 k (([] : List Int)) l0 (l0.length : Int) 0
theorem spec_OpenGames.mono_l : ∀ k, (∀ y0 y1 y2 y3, LeO (spec_OpenGames.l0 k y0 y1 y2 y3) (spec_OpenGames.l0 (k + 1) y0 y1 y2 y3))
  | 0 => fun _ _ _ _ r h => by simp [spec_OpenGames.l0] at h
  | k + 1 => by
    have ih0 := spec_OpenGames.mono_l k
    · intro y0 y1 y2 y3
      unfold spec_OpenGames.l0
      repeat' first
      | (with_reducible exact ih0 _ _ _ _)
      | (with_reducible exact LeO.refl _)
      | (with_reducible exact LeO.none _)
      | (with_reducible refine LeO.ite ?_ ?_)
      | (with_reducible refine LeO.bind ?_ (fun _ => ?_))
      | exact ih0 _ _ _ _
      | exact LeO.none _
      | refine LeO.ite ?_ ?_
      | refine LeO.bind ?_ (fun _ => ?_)
theorem spec_OpenGames.mono : ∀ a0 k, LeO (spec_OpenGames.f k a0) (spec_OpenGames.f (k + 1) a0) := by
  intro a0 k
  have ih0 := spec_OpenGames.mono_l k
  unfold spec_OpenGames.f
  repeat' first
      | (with_reducible exact ih0 _ _ _ _)
      | (with_reducible exact LeO.refl _)
      | (with_reducible exact LeO.none _)
      | (with_reducible refine LeO.ite ?_ ?_)
      | (with_reducible refine LeO.bind ?_ (fun _ => ?_))
      | exact ih0 _ _ _ _
      | exact LeO.none _
      | refine LeO.ite ?_ ?_
      | refine LeO.bind ?_ (fun _ => ?_)
set_option maxHeartbeats 8000000 in
set_option maxRecDepth 100000 in
theorem spec_OpenGames.calls (k : Nat) (A0 : Option Addr) (c0 : Nat) (l0 : List (S71)) (r : List Int) (w : World) (hr0 : Kd.C k71 w A0 l0.length l0) (hc0 : l0.length ≤ c0) (h : spec_OpenGames.f k l0 = some r) :
    Calls Try.prog 74 #[.slice A0 l0.length c0] w fun e w' => ∃ v0_ : Value, e = .returned (v0_) ∧ Kd.R (Kd.int .i64) 3 w' w.heap.size (fun _ => True) v0_ r ∧ Below w.heap.size w w' := by
  have hu71 := Try.underlying71
  have HR0 := Aside0.mk hr0
  have HC0 := Aside0.mk hc0
  clear hr0 hc0
  have HB := Aside0.mk (Below.refl w.heap.size w)
  have H : (spec_OpenGames.l0 k (([] : List Int)) l0 (l0.length : Int) 0) = some r := h
  clear h
  obtain ⟨y238, hy238⟩ : ∃ y_ : List Int, y_ = (([] : List Int)) := ⟨_, rfl⟩
  replace H : (spec_OpenGames.l0 k y238 l0 (l0.length : Int) 0) = some r := by first | (rw [hy238]; with_reducible exact H) | (have H2_ := (Option.bind_some _ _).symm.trans H; rw [hy238]; with_reducible exact H2_) | (have H2_ := (Option.bind_some _ _).symm.trans H; with_reducible exact H2_) | with_reducible exact H | (rw [hy238]; exact H) | exact H
  have Ny238 := Aside0.mk hy238
  clear hy238
  have H' := Aside0.mk H
  clear H
  go_enter Try.func74, Try.ntmps74
  go_wp2_with (first | ((with_reducible refine gate_dst (N := 6) rfl ?_); refine Kd.R_lit (Kd.int .i64) _ 3 ?hg (N := 6) ?hd (xs := ([] : List Int)) (inner := []) (ok := fun _ => True) (okp := fun _ => True) ?hr ?hp (fun _ hk => hk) trivial (Below.refl _ _) (Nat.le_refl _) (by simp) ?_; (case hd => rfl); (case hg => rfl); (case hr => first | (go_simp; done) | (go_simp; rfl)); (case hp => exact (Reps.none _ _)); intro v239 w2 ho3 hb hg_ hnew_; clear hg_ hnew_; (first | rw [← Ny238.out] at ho3 | (simp only [Int.reduceToNat] at ho3; rw [← Ny238.out] at ho3)); have HO240 := Aside0.mk (Kd.R_lower ho3 (below_size bel)); replace HB := Aside0.mk (below_step bel hb); clear hb ho3))
  go_loopg [3, 9] k (fun kq v3 v9 w' => ∃ (x3_1 : List Int) (x9_1 : Int), v9 = .int .i64 x9_1 ∧ Aside0 (spec_OpenGames.l0 kq x3_1 l0 (l0.length : Int) x9_1 = some r) ∧ Aside0 (kq ≤ k) ∧ Aside0 (Kd.R (Kd.int .i64) 3 w' w.heap.size (fun _ => True) v3 x3_1) ∧ Aside0 (Below w.heap.size w w'))
  case atStart => exact ⟨(y238), (0), (es), H', ⟨Nat.le_refl _⟩, ⟨rk HO240.out⟩, ⟨bel⟩⟩
  case round =>
    clear H'
    try clear p2
    obtain ⟨x3_1, x9_1, rfl, HA, HK1, HO_3, HB⟩ := hrel
    cases gk with
    | zero => exact absurd HA.out (by simp [spec_OpenGames.l0])
    | succ k1 =>
      have H := HA.out
      clear HA
      simp only [spec_OpenGames.l0] at H
      by_cases c4 : x9_1 < (l0.length : Int)
      · rw [if_pos c4] at H
        have c4b0 : decide (x9_1 < (l0.length : Int)) = true := decide_eq_true c4
        clear c4
        by_cases c5 : 0 ≤ x9_1
        · rw [if_pos c5] at H
          have c5b0 : decide (0 ≤ x9_1) = true := decide_eq_true c5
          clear c5
          by_cases c6 : x9_1 < (l0.length : Int)
          · rw [if_pos c6] at H
            have c6b0 : decide (x9_1 < (l0.length : Int)) = true := decide_eq_true c6
            clear c6
            replace H := Option.bind_eq_some_iff.mp H
            obtain ⟨t243, A70, H⟩ := H
            replace H : (if t243 = true then (if x3_1.length < 17592186044416 then (spec_OpenGames.l0 k1 (x3_1 ++ [x9_1]) l0 (l0.length : Int) (wrap64 (x9_1 + 1))) else (none)) else (spec_OpenGames.l0 k1 x3_1 l0 (l0.length : Int) (wrap64 (x9_1 + 1)))) = some r := H
            have A7 := Aside0.mk A70
            clear A70
            by_cases c8 : t243 = true
            · subst c8
              have H1 : (if x3_1.length < 17592186044416 then (spec_OpenGames.l0 k1 (x3_1 ++ [x9_1]) l0 (l0.length : Int) (wrap64 (x9_1 + 1))) else (none)) = some r := by rw [if_pos rfl] at H; exact H
              clear H
              have H := H1
              clear H1
              by_cases c9 : x3_1.length < 17592186044416
              · rw [if_pos c9] at H
                have LMc9 := Aside0.mk c9
                clear c9
                obtain ⟨y244, hy244⟩ : ∃ y_ : List Int, y_ = (x3_1 ++ [x9_1]) := ⟨_, rfl⟩
                replace H : (spec_OpenGames.l0 k1 y244 l0 (l0.length : Int) (wrap64 (x9_1 + 1))) = some r := by first | (rw [hy244]; with_reducible exact H) | (have H2_ := (Option.bind_some _ _).symm.trans H; rw [hy244]; with_reducible exact H2_) | (have H2_ := (Option.bind_some _ _).symm.trans H; with_reducible exact H2_) | with_reducible exact H | (rw [hy244]; exact H) | exact H
                have Ny244 := Aside0.mk hy244
                clear hy244
                have H' := Aside0.mk H
                clear H
                have p241 : 0 ≤ (x9_1 : Int) := asm
                have q241 : x9_1 < (l0.length : Int) := asm
                obtain ⟨ad241, e241, hx241_0, hx241_1, hx241_2, hx241_3, hx241_4⟩ := at_T71 HR0.out x9_1 p241 q241
                cases e241
                replace hx241_0 := hcl HB.out hx241_0
                replace hx241_1 := hcl HB.out hx241_1
                replace hx241_2 := hcl HB.out hx241_2
                replace hx241_3 := hcl HB.out hx241_3
                replace hx241_4 := hcl HB.out hx241_4
                replace p241 := eq_true p241
                replace q241 := eq_true q241
                go_wp2_with (first | ((with_reducible refine gate_dst (N := 5) rfl ?_); refine box_event ?hg (N := 5) ?hd (cs := #[.int .i64 0, .int .i64 0, .int .i64 0, .int .i64 0, .int .i64 0]) (t := 71) ?hr ?_; (case hd => rfl); (case hg => rfl); (case hr => first | (go_simp; done) | (go_simp; rfl)); intro gb242 hg w10 hbox hb; have BK242 := Aside0.mk (hbox); have GW242 := Aside0.mk ((bsz hg : w.heap.size ≤ gb242)); have GE242 := Aside0.mk ((bsz hg : w.heap.size ≤ gb242)); replace HO_3 := Aside0.mk (Kd.R_below (rk HO_3.out) hb); replace HB := Aside0.mk (below_step bel hb); clear hb hbox hg; obtain ⟨hcz11_0, hcz11_1, hcz11_2, hcz11_3, hcz11_4, hfz11_0, hfz11_1, hfz11_2, hfz11_3, hfz11_4⟩ := cf5 BK242.out) | ((with_reducible refine gate_callee (f := 61) rfl ?_); refine goesL_ (some 15) rfl rfl Try.func61 (by kernel_rfl) rfl #[.agg #[.int .i64 ((rd_T71 l0 x9_1).f0), .int .i64 ((rd_T71 l0 x9_1).f1), .int .i64 ((rd_T71 l0 x9_1).f2), .int .i64 ((rd_T71 l0 x9_1).f3), .int .i64 ((rd_T71 l0 x9_1).f4)]] rfl ga ?_; (with_reducible refine (spec_IsOpen.calls ((rd_T71 l0 x9_1).f0) ((rd_T71 l0 x9_1).f1) ((rd_T71 l0 x9_1).f2) ((rd_T71 l0 x9_1).f3) ((rd_T71 l0 x9_1).f4) true _ A7.out).mono ?_); rintro e w12 ⟨rfl, hb⟩; refine ⟨_, rfl, ?_⟩; replace HO_3 := Aside0.mk (Kd.R_below (by exact rk (Kd.R_mono (Kd.R_far (p := ⟨gb242, 4, none⟩) (Kd.R_far (p := ⟨gb242, 3, none⟩) (Kd.R_far (p := ⟨gb242, 2, none⟩) (Kd.R_far (p := ⟨gb242, 1, none⟩) (Kd.R_far (p := ⟨gb242, 0, none⟩) (Kd.R_types HO_3.out BK242.out (by decide)) (fun _ hk => hk.2) (.int .i64 ((rd_T71 l0 x9_1).f0))) (fun _ hk => hk.2) (.int .i64 ((rd_T71 l0 x9_1).f1))) (fun _ hk => hk.2) (.int .i64 ((rd_T71 l0 x9_1).f2))) (fun _ hk => hk.2) (.int .i64 ((rd_T71 l0 x9_1).f3))) (fun _ hk => hk.2) (.int .i64 ((rd_T71 l0 x9_1).f4))) (fun _ h_ => h_.1))) hb); replace BK242 := Aside0.mk (blk_below (g := gb242) (o := .cells #[.int .i64 ((rd_T71 l0 x9_1).f0), .int .i64 ((rd_T71 l0 x9_1).f1), .int .i64 ((rd_T71 l0 x9_1).f2), .int .i64 ((rd_T71 l0 x9_1).f3), .int .i64 ((rd_T71 l0 x9_1).f4)] 71 (0, 0)) (by (with_reducible repeat (first | refine blk_drewN ?_ _ | refine blk_drew ?_ | refine blk_alloc ?_ _)); refine blk_put (cs := #[.int .i64 ((rd_T71 l0 x9_1).f0), .int .i64 ((rd_T71 l0 x9_1).f1), .int .i64 ((rd_T71 l0 x9_1).f2), .int .i64 ((rd_T71 l0 x9_1).f3), .int .i64 0]) ?_ 4 _ rfl; (with_reducible repeat (first | refine blk_drewN ?_ _ | refine blk_drew ?_ | refine blk_alloc ?_ _)); refine blk_put (cs := #[.int .i64 ((rd_T71 l0 x9_1).f0), .int .i64 ((rd_T71 l0 x9_1).f1), .int .i64 ((rd_T71 l0 x9_1).f2), .int .i64 0, .int .i64 0]) ?_ 3 _ rfl; (with_reducible repeat (first | refine blk_drewN ?_ _ | refine blk_drew ?_ | refine blk_alloc ?_ _)); refine blk_put (cs := #[.int .i64 ((rd_T71 l0 x9_1).f0), .int .i64 ((rd_T71 l0 x9_1).f1), .int .i64 0, .int .i64 0, .int .i64 0]) ?_ 2 _ rfl; (with_reducible repeat (first | refine blk_drewN ?_ _ | refine blk_drew ?_ | refine blk_alloc ?_ _)); refine blk_put (cs := #[.int .i64 ((rd_T71 l0 x9_1).f0), .int .i64 0, .int .i64 0, .int .i64 0, .int .i64 0]) ?_ 1 _ rfl; (with_reducible repeat (first | refine blk_drewN ?_ _ | refine blk_drew ?_ | refine blk_alloc ?_ _)); refine blk_put (cs := #[.int .i64 0, .int .i64 0, .int .i64 0, .int .i64 0, .int .i64 0]) ?_ 0 _ rfl; (with_reducible repeat (first | refine blk_drewN ?_ _ | refine blk_drew ?_ | refine blk_alloc ?_ _)); exact BK242.out) hb); replace HB := Aside0.mk (below_step bel hb); (try clear hb)) | ((with_reducible refine gate_builtin (b := .append) (xs := #[.tmp 16, .tmp 18]) rfl ?_); at_builtin; refine Kd.R_append (Kd.int .i64) (w0 := w) w.heap.size rfl (.tmp 16) (.tmp 18) 23 3 (.int .i64 0) 8 rfl Try.underlying23 info3 rfl (by decide) (by omega) u3 x3_1 x9_1 [.int .i64 x9_1] (fun _ => True) (fun _ => False) rfl rfl ?aP (fun _ hk => hk.elim) ?aF ?aO ?aB ?aS ?aL ?_; (case aP => exact rfl); (case aB => exact bel); (case aF => exact (fun _ _ => trivial)); (case aO => exact (rk HO_3.out)); (case aS => exact (below_size bel)); (case aL => have := LMc9.out; omega); intro v245 w13 ho hb hg hat; rw [← Ny244.out] at ho; have n0_ := Aside0.mk (blk_grown (g := gb242) (o := .cells #[.int .i64 ((rd_T71 l0 x9_1).f0), .int .i64 ((rd_T71 l0 x9_1).f1), .int .i64 ((rd_T71 l0 x9_1).f2), .int .i64 ((rd_T71 l0 x9_1).f3), .int .i64 ((rd_T71 l0 x9_1).f4)] 71 (0, 0)) (bk BK242.out) hg (Kd.R_ne HO_3.out BK242.out (by decide))); have n1_ := Aside0.mk (hb); have n2_ := Aside0.mk (ho); clear BK242; clear HB; clear HO_3; have BK242 := n0_; have HB := n1_; have HO246 := n2_; clear n0_ n1_ n2_; clear ho hb hg hat))
                go_roundg k1
                case measure => have := HK1.out; omega
                case rel => exact ⟨(y244), (wrap64 (x9_1 + 1)), (es), H', ⟨by have := HK1.out; omega⟩, ⟨rk HO246.out⟩, ⟨bel⟩⟩
              · rw [if_neg c9] at H
                exact absurd H (by simp)
            · replace c8 := Bool.eq_false_iff.mpr c8
              subst c8
              have H1 : (spec_OpenGames.l0 k1 x3_1 l0 (l0.length : Int) (wrap64 (x9_1 + 1))) = some r := by rw [if_neg (show ¬ (false = true) by decide)] at H; exact H
              clear H
              have H := H1
              clear H1
              have H' := Aside0.mk H
              clear H
              have p241 : 0 ≤ (x9_1 : Int) := asm
              have q241 : x9_1 < (l0.length : Int) := asm
              obtain ⟨ad241, e241, hx241_0, hx241_1, hx241_2, hx241_3, hx241_4⟩ := at_T71 HR0.out x9_1 p241 q241
              cases e241
              replace hx241_0 := hcl HB.out hx241_0
              replace hx241_1 := hcl HB.out hx241_1
              replace hx241_2 := hcl HB.out hx241_2
              replace hx241_3 := hcl HB.out hx241_3
              replace hx241_4 := hcl HB.out hx241_4
              replace p241 := eq_true p241
              replace q241 := eq_true q241
              go_wp2_with (first | ((with_reducible refine gate_dst (N := 5) rfl ?_); refine box_event ?hg (N := 5) ?hd (cs := #[.int .i64 0, .int .i64 0, .int .i64 0, .int .i64 0, .int .i64 0]) (t := 71) ?hr ?_; (case hd => rfl); (case hg => rfl); (case hr => first | (go_simp; done) | (go_simp; rfl)); intro gb242 hg w14 hbox hb; have BK242 := Aside0.mk (hbox); have GW242 := Aside0.mk ((bsz hg : w.heap.size ≤ gb242)); have GE242 := Aside0.mk ((bsz hg : w.heap.size ≤ gb242)); replace HO_3 := Aside0.mk (Kd.R_below (rk HO_3.out) hb); replace HB := Aside0.mk (below_step bel hb); clear hb hbox hg; obtain ⟨hcz15_0, hcz15_1, hcz15_2, hcz15_3, hcz15_4, hfz15_0, hfz15_1, hfz15_2, hfz15_3, hfz15_4⟩ := cf5 BK242.out) | ((with_reducible refine gate_callee (f := 61) rfl ?_); refine goesL_ (some 15) rfl rfl Try.func61 (by kernel_rfl) rfl #[.agg #[.int .i64 ((rd_T71 l0 x9_1).f0), .int .i64 ((rd_T71 l0 x9_1).f1), .int .i64 ((rd_T71 l0 x9_1).f2), .int .i64 ((rd_T71 l0 x9_1).f3), .int .i64 ((rd_T71 l0 x9_1).f4)]] rfl ga ?_; (with_reducible refine (spec_IsOpen.calls ((rd_T71 l0 x9_1).f0) ((rd_T71 l0 x9_1).f1) ((rd_T71 l0 x9_1).f2) ((rd_T71 l0 x9_1).f3) ((rd_T71 l0 x9_1).f4) false _ A7.out).mono ?_); rintro e w16 ⟨rfl, hb⟩; refine ⟨_, rfl, ?_⟩; replace HO_3 := Aside0.mk (Kd.R_below (by exact rk (Kd.R_mono (Kd.R_far (p := ⟨gb242, 4, none⟩) (Kd.R_far (p := ⟨gb242, 3, none⟩) (Kd.R_far (p := ⟨gb242, 2, none⟩) (Kd.R_far (p := ⟨gb242, 1, none⟩) (Kd.R_far (p := ⟨gb242, 0, none⟩) (Kd.R_types HO_3.out BK242.out (by decide)) (fun _ hk => hk.2) (.int .i64 ((rd_T71 l0 x9_1).f0))) (fun _ hk => hk.2) (.int .i64 ((rd_T71 l0 x9_1).f1))) (fun _ hk => hk.2) (.int .i64 ((rd_T71 l0 x9_1).f2))) (fun _ hk => hk.2) (.int .i64 ((rd_T71 l0 x9_1).f3))) (fun _ hk => hk.2) (.int .i64 ((rd_T71 l0 x9_1).f4))) (fun _ h_ => h_.1))) hb); replace BK242 := Aside0.mk (blk_below (g := gb242) (o := .cells #[.int .i64 ((rd_T71 l0 x9_1).f0), .int .i64 ((rd_T71 l0 x9_1).f1), .int .i64 ((rd_T71 l0 x9_1).f2), .int .i64 ((rd_T71 l0 x9_1).f3), .int .i64 ((rd_T71 l0 x9_1).f4)] 71 (0, 0)) (by (with_reducible repeat (first | refine blk_drewN ?_ _ | refine blk_drew ?_ | refine blk_alloc ?_ _)); refine blk_put (cs := #[.int .i64 ((rd_T71 l0 x9_1).f0), .int .i64 ((rd_T71 l0 x9_1).f1), .int .i64 ((rd_T71 l0 x9_1).f2), .int .i64 ((rd_T71 l0 x9_1).f3), .int .i64 0]) ?_ 4 _ rfl; (with_reducible repeat (first | refine blk_drewN ?_ _ | refine blk_drew ?_ | refine blk_alloc ?_ _)); refine blk_put (cs := #[.int .i64 ((rd_T71 l0 x9_1).f0), .int .i64 ((rd_T71 l0 x9_1).f1), .int .i64 ((rd_T71 l0 x9_1).f2), .int .i64 0, .int .i64 0]) ?_ 3 _ rfl; (with_reducible repeat (first | refine blk_drewN ?_ _ | refine blk_drew ?_ | refine blk_alloc ?_ _)); refine blk_put (cs := #[.int .i64 ((rd_T71 l0 x9_1).f0), .int .i64 ((rd_T71 l0 x9_1).f1), .int .i64 0, .int .i64 0, .int .i64 0]) ?_ 2 _ rfl; (with_reducible repeat (first | refine blk_drewN ?_ _ | refine blk_drew ?_ | refine blk_alloc ?_ _)); refine blk_put (cs := #[.int .i64 ((rd_T71 l0 x9_1).f0), .int .i64 0, .int .i64 0, .int .i64 0, .int .i64 0]) ?_ 1 _ rfl; (with_reducible repeat (first | refine blk_drewN ?_ _ | refine blk_drew ?_ | refine blk_alloc ?_ _)); refine blk_put (cs := #[.int .i64 0, .int .i64 0, .int .i64 0, .int .i64 0, .int .i64 0]) ?_ 0 _ rfl; (with_reducible repeat (first | refine blk_drewN ?_ _ | refine blk_drew ?_ | refine blk_alloc ?_ _)); exact BK242.out) hb); replace HB := Aside0.mk (below_step bel hb); (try clear hb)))
              go_roundg k1
              case measure => have := HK1.out; omega
              case rel => exact ⟨(x3_1), (wrap64 (x9_1 + 1)), (es), H', ⟨by have := HK1.out; omega⟩, ⟨rk HO_3.out⟩, ⟨bel⟩⟩
          · rw [if_neg c6] at H
            exact absurd H (by simp)
        · rw [if_neg c5] at H
          exact absurd H (by simp)
      · rw [if_neg c4] at H
        have c4b0 : decide (x9_1 < (l0.length : Int)) = false := decide_eq_false c4
        clear c4
        obtain rfl := Option.some.inj H
        go_wp2
        go_ret
        exact ⟨_, er, rk HO_3.out, bel⟩

/-! ### spec_l16Open: function 63 -/
def spec_l16Open.f (k : Nat) (l0_0 : List (S101)) (a0_1 : Int) (a0_2 : Int) (a0_3 : Int) (l0_4 : List Int) (a0_5 : Bool) (l0_6 : List (S71)) (l0_7 : List Int) (l0_8 : List Int) : Option (List Int × Bool) := (spec_OpenGames.f k l0_6).bind fun t248 => ((spec_BookOk.f k l0_0 a0_1 a0_2 a0_3 l0_4 a0_5 l0_6 l0_7 l0_8).bind fun t251 => (if t251 = true then (some (t248, decide ((t248.length : Int) ≤ 5))) else (some (t248, false))))
theorem spec_l16Open.mono : ∀ a0 a1 a2 a3 a4 a5 a6 a7 a8 k, LeO (spec_l16Open.f k a0 a1 a2 a3 a4 a5 a6 a7 a8) (spec_l16Open.f (k + 1) a0 a1 a2 a3 a4 a5 a6 a7 a8) := by
  intro a0 a1 a2 a3 a4 a5 a6 a7 a8 k
  unfold spec_l16Open.f
  repeat' first
      | (with_reducible exact spec_BookOk.mono _ _ _ _ _ _ _ _ _ _)
      | (with_reducible exact spec_OpenGames.mono _ _)
      | (with_reducible exact LeO.refl _)
      | (with_reducible exact LeO.none _)
      | (with_reducible refine LeO.ite ?_ ?_)
      | (with_reducible refine LeO.bind ?_ (fun _ => ?_))
      | exact spec_BookOk.mono _ _ _ _ _ _ _ _ _ _
      | exact spec_OpenGames.mono _ _
      | exact LeO.none _
      | refine LeO.ite ?_ ?_
      | refine LeO.bind ?_ (fun _ => ?_)
set_option maxHeartbeats 8000000 in
set_option maxRecDepth 100000 in
theorem spec_l16Open.calls (k : Nat) (A0_0 : Option Addr) (c0_0 : Nat) (l0_0 : List (S101)) (a0_1 : Int) (a0_2 : Int) (a0_3 : Int) (A0_4 : Option Addr) (c0_4 : Nat) (l0_4 : List Int) (a0_5 : Bool) (A0_6 : Option Addr) (c0_6 : Nat) (l0_6 : List (S71)) (A0_7 : Option Addr) (c0_7 : Nat) (l0_7 : List Int) (A0_8 : Option Addr) (c0_8 : Nat) (l0_8 : List Int) (r1 : List Int) (r2 : Bool) (w : World) (hr0_0 : Kd.C k101 w A0_0 l0_0.length l0_0) (hc0_0 : l0_0.length ≤ c0_0) (hr0_4 : Kd.C (Kd.int .i64) w A0_4 l0_4.length l0_4) (hc0_4 : l0_4.length ≤ c0_4) (hr0_6 : Kd.C k71 w A0_6 l0_6.length l0_6) (hc0_6 : l0_6.length ≤ c0_6) (hr0_7 : Kd.C (Kd.int .i64) w A0_7 l0_7.length l0_7) (hc0_7 : l0_7.length ≤ c0_7) (hr0_8 : Kd.C (Kd.int .i64) w A0_8 l0_8.length l0_8) (hc0_8 : l0_8.length ≤ c0_8) (h : spec_l16Open.f k l0_0 a0_1 a0_2 a0_3 l0_4 a0_5 l0_6 l0_7 l0_8 = some (r1, r2)) :
    Calls Try.prog 63 #[.agg #[.slice A0_0 l0_0.length c0_0, .int .i64 a0_1, .int .i64 a0_2, .int .i64 a0_3, .slice A0_4 l0_4.length c0_4, .bool a0_5, .slice A0_6 l0_6.length c0_6, .slice A0_7 l0_7.length c0_7, .slice A0_8 l0_8.length c0_8]] w fun e w' => ∃ v0_ : Value, e = .returned (.tuple #[v0_, .bool r2]) ∧ Kd.R (Kd.int .i64) 3 w' w.heap.size (fun _ => True) v0_ r1 ∧ Below w.heap.size w w' := by
  have hu37 := Try.underlying37
  have HR0_0 := Aside0.mk hr0_0
  have HC0_0 := Aside0.mk hc0_0
  clear hr0_0 hc0_0
  have HR0_4 := Aside0.mk hr0_4
  have HC0_4 := Aside0.mk hc0_4
  clear hr0_4 hc0_4
  have HR0_6 := Aside0.mk hr0_6
  have HC0_6 := Aside0.mk hc0_6
  clear hr0_6 hc0_6
  have HR0_7 := Aside0.mk hr0_7
  have HC0_7 := Aside0.mk hc0_7
  clear hr0_7 hc0_7
  have HR0_8 := Aside0.mk hr0_8
  have HC0_8 := Aside0.mk hc0_8
  clear hr0_8 hc0_8
  have HB := Aside0.mk (Below.refl w.heap.size w)
  have H : ((spec_OpenGames.f k l0_6).bind fun t248 => ((spec_BookOk.f k l0_0 a0_1 a0_2 a0_3 l0_4 a0_5 l0_6 l0_7 l0_8).bind fun t251 => (if t251 = true then (some (t248, decide ((t248.length : Int) ≤ 5))) else (some (t248, false))))) = some (r1, r2) := h
  clear h
  replace H := Option.bind_eq_some_iff.mp H
  obtain ⟨t248, A20, H⟩ := H
  replace H : ((spec_BookOk.f k l0_0 a0_1 a0_2 a0_3 l0_4 a0_5 l0_6 l0_7 l0_8).bind fun t251 => (if t251 = true then (some (t248, decide ((t248.length : Int) ≤ 5))) else (some (t248, false)))) = some (r1, r2) := H
  have A2 := Aside0.mk A20
  clear A20
  replace H := Option.bind_eq_some_iff.mp H
  obtain ⟨t251, A30, H⟩ := H
  replace H : (if t251 = true then (some (t248, decide ((t248.length : Int) ≤ 5))) else (some (t248, false))) = some (r1, r2) := H
  have A3 := Aside0.mk A30
  clear A30
  by_cases c4 : t251 = true
  · subst c4
    have H1 : (some (t248, decide ((t248.length : Int) ≤ 5))) = some (r1, r2) := by rw [if_pos rfl] at H; exact H
    clear H
    have H := H1
    clear H1
    simp only [Option.some.injEq, Prod.mk.injEq] at H
    obtain ⟨rfl, rfl⟩ := H
    go_enter Try.func63, Try.ntmps63
    go_wp2_with (first | ((with_reducible refine gate_dst (N := 1) rfl ?_); refine box_event ?hg (N := 1) ?hd (cs := #[.slice A0_0 l0_0.length c0_0, .int .i64 a0_1, .int .i64 a0_2, .int .i64 a0_3, .slice A0_4 l0_4.length c0_4, .bool a0_5, .slice A0_6 l0_6.length c0_6, .slice A0_7 l0_7.length c0_7, .slice A0_8 l0_8.length c0_8]) (t := 37) ?hr ?_; (case hd => rfl); (case hg => rfl); (case hr => first | (go_simp; done) | (go_simp; rfl)); intro gb247 hg w5 hbox hb; have BK247 := Aside0.mk (hbox); have GW247 := Aside0.mk ((bsz hg : w.heap.size ≤ gb247)); have GE247 := Aside0.mk ((bsz hg : w.heap.size ≤ gb247)); replace HB := Aside0.mk (below_step bel hb); clear hb hbox hg; obtain ⟨hcz6_0, hcz6_1, hcz6_2, hcz6_3, hcz6_4, hcz6_5, hcz6_6, hcz6_7, hcz6_8, hfz6_0, hfz6_1, hfz6_2, hfz6_3, hfz6_4, hfz6_5, hfz6_6, hfz6_7, hfz6_8⟩ := cf9 BK247.out) | ((with_reducible refine gate_callee (f := 74) rfl ?_); refine goesL_ (some 7) rfl rfl Try.func74 (by kernel_rfl) rfl #[.slice A0_6 l0_6.length c0_6] rfl ga ?_; (with_reducible refine (spec_OpenGames.calls k _ _ l0_6 t248 _ ?side1 ?side2 A2.out).mono ?_); (case side1 => exact ck (Kd.C_below HR0_6.out HB.out)); (case side2 => exact HC0_6.out); rintro e w7 ⟨v249, rfl, ho0, hb⟩; refine ⟨_, rfl, ?_⟩; have HO250 := Aside0.mk (Kd.R_lower ho0 (below_size bel)); replace BK247 := Aside0.mk (bb BK247.out hb); replace HB := Aside0.mk (below_step bel hb); (try clear hb); (try clear ho0); obtain ⟨hcz8_0, hcz8_1, hcz8_2, hcz8_3, hcz8_4, hcz8_5, hcz8_6, hcz8_7, hcz8_8, hfz8_0, hfz8_1, hfz8_2, hfz8_3, hfz8_4, hfz8_5, hfz8_6, hfz8_7, hfz8_8⟩ := cf9 BK247.out) | ((with_reducible refine gate_callee (f := 49) rfl ?_); refine goesL_ (some 10) rfl rfl Try.func49 (by kernel_rfl) rfl #[.agg #[.slice A0_0 l0_0.length c0_0, .int .i64 a0_1, .int .i64 a0_2, .int .i64 a0_3, .slice A0_4 l0_4.length c0_4, .bool a0_5, .slice A0_6 l0_6.length c0_6, .slice A0_7 l0_7.length c0_7, .slice A0_8 l0_8.length c0_8]] rfl ga ?_; (with_reducible refine (spec_BookOk.calls k _ _ l0_0 a0_1 a0_2 a0_3 _ _ l0_4 a0_5 _ _ l0_6 _ _ l0_7 _ _ l0_8 true _ ?side1 ?side2 ?side3 ?side4 ?side5 ?side6 ?side7 ?side8 ?side9 ?side10 A3.out).mono ?_); (case side1 => exact ck (Kd.C_below HR0_0.out HB.out)); (case side2 => exact HC0_0.out); (case side3 => exact ck (Kd.C_below HR0_4.out HB.out)); (case side4 => exact HC0_4.out); (case side5 => exact ck (Kd.C_below HR0_6.out HB.out)); (case side6 => exact HC0_6.out); (case side7 => exact ck (Kd.C_below HR0_7.out HB.out)); (case side8 => exact HC0_7.out); (case side9 => exact ck (Kd.C_below HR0_8.out HB.out)); (case side10 => exact HC0_8.out); rintro e w9 ⟨rfl, hb⟩; refine ⟨_, rfl, ?_⟩; replace HO250 := Aside0.mk (Kd.R_below (rk HO250.out) hb); replace BK247 := Aside0.mk (bb BK247.out hb); replace HB := Aside0.mk (below_step bel hb); (try clear hb); obtain ⟨Ao10, co10, eo10⟩ := Kd.R_slice HO250.out; subst eo10))
    go_ret2
    exact ⟨_, er, rk HO250.out, bel⟩
  · replace c4 := Bool.eq_false_iff.mpr c4
    subst c4
    have H1 : (some (t248, false)) = some (r1, r2) := by rw [if_neg (show ¬ (false = true) by decide)] at H; exact H
    clear H
    have H := H1
    clear H1
    simp only [Option.some.injEq, Prod.mk.injEq] at H
    obtain ⟨rfl, rfl⟩ := H
    go_enter Try.func63, Try.ntmps63
    go_wp2_with (first | ((with_reducible refine gate_dst (N := 1) rfl ?_); refine box_event ?hg (N := 1) ?hd (cs := #[.slice A0_0 l0_0.length c0_0, .int .i64 a0_1, .int .i64 a0_2, .int .i64 a0_3, .slice A0_4 l0_4.length c0_4, .bool a0_5, .slice A0_6 l0_6.length c0_6, .slice A0_7 l0_7.length c0_7, .slice A0_8 l0_8.length c0_8]) (t := 37) ?hr ?_; (case hd => rfl); (case hg => rfl); (case hr => first | (go_simp; done) | (go_simp; rfl)); intro gb247 hg w11 hbox hb; have BK247 := Aside0.mk (hbox); have GW247 := Aside0.mk ((bsz hg : w.heap.size ≤ gb247)); have GE247 := Aside0.mk ((bsz hg : w.heap.size ≤ gb247)); replace HB := Aside0.mk (below_step bel hb); clear hb hbox hg; obtain ⟨hcz12_0, hcz12_1, hcz12_2, hcz12_3, hcz12_4, hcz12_5, hcz12_6, hcz12_7, hcz12_8, hfz12_0, hfz12_1, hfz12_2, hfz12_3, hfz12_4, hfz12_5, hfz12_6, hfz12_7, hfz12_8⟩ := cf9 BK247.out) | ((with_reducible refine gate_callee (f := 74) rfl ?_); refine goesL_ (some 7) rfl rfl Try.func74 (by kernel_rfl) rfl #[.slice A0_6 l0_6.length c0_6] rfl ga ?_; (with_reducible refine (spec_OpenGames.calls k _ _ l0_6 t248 _ ?side1 ?side2 A2.out).mono ?_); (case side1 => exact ck (Kd.C_below HR0_6.out HB.out)); (case side2 => exact HC0_6.out); rintro e w13 ⟨v249, rfl, ho0, hb⟩; refine ⟨_, rfl, ?_⟩; have HO250 := Aside0.mk (Kd.R_lower ho0 (below_size bel)); replace BK247 := Aside0.mk (bb BK247.out hb); replace HB := Aside0.mk (below_step bel hb); (try clear hb); (try clear ho0); obtain ⟨hcz14_0, hcz14_1, hcz14_2, hcz14_3, hcz14_4, hcz14_5, hcz14_6, hcz14_7, hcz14_8, hfz14_0, hfz14_1, hfz14_2, hfz14_3, hfz14_4, hfz14_5, hfz14_6, hfz14_7, hfz14_8⟩ := cf9 BK247.out) | ((with_reducible refine gate_callee (f := 49) rfl ?_); refine goesL_ (some 10) rfl rfl Try.func49 (by kernel_rfl) rfl #[.agg #[.slice A0_0 l0_0.length c0_0, .int .i64 a0_1, .int .i64 a0_2, .int .i64 a0_3, .slice A0_4 l0_4.length c0_4, .bool a0_5, .slice A0_6 l0_6.length c0_6, .slice A0_7 l0_7.length c0_7, .slice A0_8 l0_8.length c0_8]] rfl ga ?_; (with_reducible refine (spec_BookOk.calls k _ _ l0_0 a0_1 a0_2 a0_3 _ _ l0_4 a0_5 _ _ l0_6 _ _ l0_7 _ _ l0_8 false _ ?side1 ?side2 ?side3 ?side4 ?side5 ?side6 ?side7 ?side8 ?side9 ?side10 A3.out).mono ?_); (case side1 => exact ck (Kd.C_below HR0_0.out HB.out)); (case side2 => exact HC0_0.out); (case side3 => exact ck (Kd.C_below HR0_4.out HB.out)); (case side4 => exact HC0_4.out); (case side5 => exact ck (Kd.C_below HR0_6.out HB.out)); (case side6 => exact HC0_6.out); (case side7 => exact ck (Kd.C_below HR0_7.out HB.out)); (case side8 => exact HC0_7.out); (case side9 => exact ck (Kd.C_below HR0_8.out HB.out)); (case side10 => exact HC0_8.out); rintro e w15 ⟨rfl, hb⟩; refine ⟨_, rfl, ?_⟩; replace HO250 := Aside0.mk (Kd.R_below (rk HO250.out) hb); replace BK247 := Aside0.mk (bb BK247.out hb); replace HB := Aside0.mk (below_step bel hb); (try clear hb)))
    go_ret2
    exact ⟨_, er, rk HO250.out, bel⟩

end Go.Proofs.Ytgalpgakdcfilaa.X
