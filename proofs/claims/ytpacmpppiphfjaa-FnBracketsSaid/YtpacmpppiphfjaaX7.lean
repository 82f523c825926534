-- Written by a program of this session (wip/xp.py, over the kit's print) out of the translation: functions, and the walks that show them.
import Derived.Test.YtpacmpppiphfjaaX0
import Derived.Test.YtpacmpppiphfjaaX4
import Derived.Test.YtpacmpppiphfjaaX6
namespace Go.Proofs.Ytpacmpppiphfjaa.X
open Go.RowKit Go.Proofs.YtpacmpppiphfjaaW.PrintWords Go.Proofs.YtpacmpppiphfjaaW.PrintLast Go.Proofs.YtpacmpppiphfjaaW.PrintMore
attribute [local go_sem] max2_int min2_int max_two min_two max_three min_three max_four min_four   -- for this text's walks alone
set_option linter.unusedVariables false
set_option linter.unusedSimpArgs false

/-! ### spec_l14Ways: function 57 -/
def spec_l14Ways.f : Nat → Int → List Int → Int → Option (Int)
  | 0, _, _, _ => none
  | k + 1, a0_0, l0_1, a1 => if (l0_1.length : Int) = (wrap64 (a0_0 - 1)) then ((spec_ChampionOf.f k a0_0 l0_1).bind fun t170 => (if t170 = a1 then (some 1) else (some 0))) else ((spec_l14Teams.f k a0_0 l0_1 (l0_1.length : Int)).bind fun bt171 => ((spec_l14Copy.f a0_0 l0_1).bind fun bt174 => (if bt174.2.length < 17592186044416 then ((spec_l14Copy.f a0_0 l0_1).bind fun bt182 => (if bt182.2.length < 17592186044416 then ((spec_l14Ways.f k bt174.1 (bt174.2 ++ [bt171.1]) a1).bind fun t190 => ((spec_l14Ways.f k bt182.1 (bt182.2 ++ [bt171.2.1]) a1).bind fun t191 => (some (wrap64 (t190 + t191))))) else (none))) else (none))))
theorem spec_l14Ways.mono_l : ∀ k, (∀ y0 y1 y2, LeO (spec_l14Ways.f k y0 y1 y2) (spec_l14Ways.f (k + 1) y0 y1 y2))
  | 0 => fun _ _ _ r h => by simp [spec_l14Ways.f] at h
  | k + 1 => by
    have ih0 := spec_l14Ways.mono_l k
    · intro y0 y1 y2
      unfold spec_l14Ways.f
      repeat' first
      | (with_reducible exact ih0 _ _ _)
      | (with_reducible exact spec_ChampionOf.mono _ _ _)
      | (with_reducible exact spec_l14Teams.mono _ _ _ _)
      | (with_reducible exact LeO.refl _)
      | (with_reducible exact LeO.none _)
      | (with_reducible refine LeO.ite ?_ ?_)
      | (with_reducible refine LeO.bind ?_ (fun _ => ?_))
      | exact ih0 _ _ _
      | exact spec_ChampionOf.mono _ _ _
      | exact spec_l14Teams.mono _ _ _ _
      | exact LeO.none _
      | refine LeO.ite ?_ ?_
      | refine LeO.bind ?_ (fun _ => ?_)
theorem spec_l14Ways.mono : ∀ a0 a1 a2 k, LeO (spec_l14Ways.f k a0 a1 a2) (spec_l14Ways.f (k + 1) a0 a1 a2) := by
  intro a0 a1 a2 k
  have ih0 := spec_l14Ways.mono_l k
  exact ih0 a0 a1 a2
def spec_l14Ways.T10 : Bool × List (List Nat × List Nat) := (true, [([], []), ([], []), ([0, 1], [0, 1]), ([], []), ([], []), ([3, 4, 2], [3, 4]), ([2, 5], [2, 5]), ([6, 5, 0, 1, 2, 3, 4, 5, 6], [6])])
def spec_l14Ways.B10 : List Nat := [0, 0, 3, 0, 0, 31, 63, 127]
theorem spec_l14Ways.tab10 : rtab .any (opsOf Try.f57 10) = spec_l14Ways.T10 := by kernel_rfl
theorem spec_l14Ways.bits10 : waitsOk spec_l14Ways.T10.2 spec_l14Ways.B10 = true := by kernel_rfl
set_option maxHeartbeats 8000000 in
set_option maxRecDepth 100000 in
theorem spec_l14Ways.calls (k : Nat) : ∀ (a0_0 : Int) (A0_1 : Option Addr) (c0_1 : Nat) (l0_1 : List Int) (a1 : Int) (r : Int) (w : World) (hr0_1 : Kd.C (Kd.int .i64) w A0_1 l0_1.length l0_1) (hc0_1 : l0_1.length ≤ c0_1) (h : spec_l14Ways.f k a0_0 l0_1 a1 = some r),
    Calls Try.prog 57 #[.agg #[.int .i64 a0_0, .slice A0_1 l0_1.length c0_1], .int .i64 a1] w fun e w' => e = .returned (.int .i64 r) ∧ Below w.heap.size w w' := by
  induction k using Nat.strongRecOn with
  | _ k ih =>
  intro a0_0 A0_1 c0_1 l0_1 a1 r w hr0_1 hc0_1 h
  cases k with
  | zero => exact absurd h (by simp [spec_l14Ways.f])
  | succ k =>
  simp only [spec_l14Ways.f] at h
  have hu36 := Try.underlying36
  have HR0_1 := Aside0.mk hr0_1
  have HC0_1 := Aside0.mk hc0_1
  clear hr0_1 hc0_1
  have HB := Aside0.mk (Below.refl w.heap.size w)
  have H : (if (l0_1.length : Int) = (wrap64 (a0_0 - 1)) then ((spec_ChampionOf.f k a0_0 l0_1).bind fun t170 => (if t170 = a1 then (some 1) else (some 0))) else ((spec_l14Teams.f k a0_0 l0_1 (l0_1.length : Int)).bind fun bt171 => ((spec_l14Copy.f a0_0 l0_1).bind fun bt174 => (if bt174.2.length < 17592186044416 then ((spec_l14Copy.f a0_0 l0_1).bind fun bt182 => (if bt182.2.length < 17592186044416 then ((spec_l14Ways.f k bt174.1 (bt174.2 ++ [bt171.1]) a1).bind fun t190 => ((spec_l14Ways.f k bt182.1 (bt182.2 ++ [bt171.2.1]) a1).bind fun t191 => (some (wrap64 (t190 + t191))))) else (none))) else (none))))) = some r := h
  clear h
  by_cases c3 : (l0_1.length : Int) = (wrap64 (a0_0 - 1))
  · rw [if_pos c3] at H
    have c3b0 : ((l0_1.length : Int) == (wrap64 (a0_0 - 1))) = true := beq_iff_eq.mpr c3
    have c3b1 : ((l0_1.length : Int) != (wrap64 (a0_0 - 1))) = false := bne_eq_false_iff_eq.mpr c3
    clear c3
    replace H := Option.bind_eq_some_iff.mp H
    obtain ⟨t170, A40, H⟩ := H
    replace H : (if t170 = a1 then (some 1) else (some 0)) = some r := H
    have A4 := Aside0.mk A40
    clear A40
    by_cases c5 : t170 = a1
    · rw [if_pos c5] at H
      have c5b0 : (t170 == a1) = true := beq_iff_eq.mpr c5
      have c5b1 : (t170 != a1) = false := bne_eq_false_iff_eq.mpr c5
      clear c5
      obtain rfl := Option.some.inj H
      go_enter Try.func57, Try.ntmps57
      go_wp2_with (first | ((with_reducible refine gate_dst (N := 2) rfl ?_); refine box_event ?hg (N := 2) ?hd (cs := #[.int .i64 a0_0, .slice A0_1 l0_1.length c0_1]) (t := 36) ?hr ?_; (case hd => rfl); (case hg => rfl); (case hr => first | (go_simp; done) | (go_simp; rfl)); intro gb169 hg w6 hbox hb; have BK169 := Aside0.mk (hbox); have GW169 := Aside0.mk ((bsz hg : w.heap.size ≤ gb169)); have GE169 := Aside0.mk ((bsz hg : w.heap.size ≤ gb169)); replace HB := Aside0.mk (below_step bel hb); clear hb hbox hg; obtain ⟨hcz7_0, hcz7_1, hfz7_0, hfz7_1⟩ := cf2 BK169.out) | ((with_reducible refine gate_callee (f := 34) rfl ?_); refine goesL_ (some 18) rfl rfl Try.func34 (by kernel_rfl) rfl #[.agg #[.int .i64 a0_0, .slice A0_1 l0_1.length c0_1]] rfl ga ?_; (with_reducible refine (spec_ChampionOf.calls k a0_0 _ _ l0_1 t170 _ ?side1 ?side2 A4.out).mono ?_); (case side1 => exact ck (Kd.C_below HR0_1.out HB.out)); (case side2 => exact HC0_1.out); rintro e w8 ⟨rfl, hb⟩; refine ⟨_, rfl, ?_⟩; replace BK169 := Aside0.mk (bb BK169.out hb); replace HB := Aside0.mk (below_step bel hb); (try clear hb)))
      go_ret
      exact ⟨er, bel⟩
    · rw [if_neg c5] at H
      have c5b0 : (t170 == a1) = false := beq_eq_false_iff_ne.mpr c5
      have c5b1 : (t170 != a1) = true := bne_iff_ne.mpr c5
      obtain rfl := Option.some.inj H
      go_enter Try.func57, Try.ntmps57
      go_wp2_with (first | ((with_reducible refine gate_dst (N := 2) rfl ?_); refine box_event ?hg (N := 2) ?hd (cs := #[.int .i64 a0_0, .slice A0_1 l0_1.length c0_1]) (t := 36) ?hr ?_; (case hd => rfl); (case hg => rfl); (case hr => first | (go_simp; done) | (go_simp; rfl)); intro gb169 hg w9 hbox hb; have BK169 := Aside0.mk (hbox); have GW169 := Aside0.mk ((bsz hg : w.heap.size ≤ gb169)); have GE169 := Aside0.mk ((bsz hg : w.heap.size ≤ gb169)); replace HB := Aside0.mk (below_step bel hb); clear hb hbox hg; obtain ⟨hcz10_0, hcz10_1, hfz10_0, hfz10_1⟩ := cf2 BK169.out) | ((with_reducible refine gate_callee (f := 34) rfl ?_); refine goesL_ (some 18) rfl rfl Try.func34 (by kernel_rfl) rfl #[.agg #[.int .i64 a0_0, .slice A0_1 l0_1.length c0_1]] rfl ga ?_; (with_reducible refine (spec_ChampionOf.calls k a0_0 _ _ l0_1 t170 _ ?side1 ?side2 A4.out).mono ?_); (case side1 => exact ck (Kd.C_below HR0_1.out HB.out)); (case side2 => exact HC0_1.out); rintro e w11 ⟨rfl, hb⟩; refine ⟨_, rfl, ?_⟩; replace BK169 := Aside0.mk (bb BK169.out hb); replace HB := Aside0.mk (below_step bel hb); (try clear hb)))
      go_ret
      exact ⟨er, bel⟩
  · rw [if_neg c3] at H
    have c3b0 : ((l0_1.length : Int) == (wrap64 (a0_0 - 1))) = false := beq_eq_false_iff_ne.mpr c3
    have c3b1 : ((l0_1.length : Int) != (wrap64 (a0_0 - 1))) = true := bne_iff_ne.mpr c3
    replace H := Option.bind_eq_some_iff.mp H
    obtain ⟨⟨t171, t172, t173⟩, A120, H⟩ := H
    replace H : ((spec_l14Copy.f a0_0 l0_1).bind fun bt174 => (if bt174.2.length < 17592186044416 then ((spec_l14Copy.f a0_0 l0_1).bind fun bt182 => (if bt182.2.length < 17592186044416 then ((spec_l14Ways.f k bt174.1 (bt174.2 ++ [t171]) a1).bind fun t190 => ((spec_l14Ways.f k bt182.1 (bt182.2 ++ [t172]) a1).bind fun t191 => (some (wrap64 (t190 + t191))))) else (none))) else (none))) = some r := H
    have A12 := Aside0.mk A120
    clear A120
    replace H := Option.bind_eq_some_iff.mp H
    obtain ⟨⟨t174, t175⟩, A130, H⟩ := H
    replace H : (if t175.length < 17592186044416 then ((spec_l14Copy.f a0_0 l0_1).bind fun bt182 => (if bt182.2.length < 17592186044416 then ((spec_l14Ways.f k t174 (t175 ++ [t171]) a1).bind fun t190 => ((spec_l14Ways.f k bt182.1 (bt182.2 ++ [t172]) a1).bind fun t191 => (some (wrap64 (t190 + t191))))) else (none))) else (none)) = some r := H
    have A13 := Aside0.mk A130
    clear A130
    by_cases c14 : t175.length < 17592186044416
    · rw [if_pos c14] at H
      have LMc14 := Aside0.mk c14
      clear c14
      obtain ⟨y179, hy179⟩ : ∃ y_ : List Int, y_ = (t175 ++ [t171]) := ⟨_, rfl⟩
      replace H : ((spec_l14Copy.f a0_0 l0_1).bind fun bt182 => (if bt182.2.length < 17592186044416 then ((spec_l14Ways.f k t174 y179 a1).bind fun t190 => ((spec_l14Ways.f k bt182.1 (bt182.2 ++ [t172]) a1).bind fun t191 => (some (wrap64 (t190 + t191))))) else (none))) = some r := by first | (rw [hy179]; with_reducible exact H) | (have H2_ := (Option.bind_some _ _).symm.trans H; rw [hy179]; with_reducible exact H2_) | (have H2_ := (Option.bind_some _ _).symm.trans H; with_reducible exact H2_) | with_reducible exact H | (rw [hy179]; exact H) | exact H
      have Ny179 := Aside0.mk hy179
      clear hy179
      replace H := Option.bind_eq_some_iff.mp H
      obtain ⟨⟨t182, t183⟩, A150, H⟩ := H
      replace H : (if t183.length < 17592186044416 then ((spec_l14Ways.f k t174 y179 a1).bind fun t190 => ((spec_l14Ways.f k t182 (t183 ++ [t172]) a1).bind fun t191 => (some (wrap64 (t190 + t191))))) else (none)) = some r := H
      have A15 := Aside0.mk A150
      clear A150
      by_cases c16 : t183.length < 17592186044416
      · rw [if_pos c16] at H
        have LMc16 := Aside0.mk c16
        clear c16
        obtain ⟨y187, hy187⟩ : ∃ y_ : List Int, y_ = (t183 ++ [t172]) := ⟨_, rfl⟩
        replace H : ((spec_l14Ways.f k t174 y179 a1).bind fun t190 => ((spec_l14Ways.f k t182 y187 a1).bind fun t191 => (some (wrap64 (t190 + t191))))) = some r := by first | (rw [hy187]; with_reducible exact H) | (have H2_ := (Option.bind_some _ _).symm.trans H; rw [hy187]; with_reducible exact H2_) | (have H2_ := (Option.bind_some _ _).symm.trans H; with_reducible exact H2_) | with_reducible exact H | (rw [hy187]; exact H) | exact H
        have Ny187 := Aside0.mk hy187
        clear hy187
        replace H := Option.bind_eq_some_iff.mp H
        obtain ⟨t190, A170, H⟩ := H
        replace H : ((spec_l14Ways.f k t182 y187 a1).bind fun t191 => (some (wrap64 (t190 + t191)))) = some r := H
        have A17 := Aside0.mk A170
        clear A170
        replace H := Option.bind_eq_some_iff.mp H
        obtain ⟨t191, A180, H⟩ := H
        replace H : (some (wrap64 (t190 + t191))) = some r := H
        have A18 := Aside0.mk A180
        clear A180
        obtain rfl := Option.some.inj H
        go_enter Try.func57, Try.ntmps57
        try go_wp2_with (first | ((with_reducible refine gate_dst (N := 2) rfl ?_); refine box_event ?hg (N := 2) ?hd (cs := #[.int .i64 a0_0, .slice A0_1 l0_1.length c0_1]) (t := 36) ?hr ?_; (case hd => rfl); (case hg => rfl); (case hr => first | (go_simp; done) | (go_simp; rfl)); intro gb169 hg w19 hbox hb; have BK169 := Aside0.mk (hbox); have GW169 := Aside0.mk ((bsz hg : w.heap.size ≤ gb169)); have GE169 := Aside0.mk ((bsz hg : w.heap.size ≤ gb169)); replace HB := Aside0.mk (below_step bel hb); clear hb hbox hg; obtain ⟨hcz20_0, hcz20_1, hfz20_0, hfz20_1⟩ := cf2 BK169.out) | ((with_reducible refine gate_callee (f := 49) rfl ?_); refine goesL_ (some 29) rfl rfl Try.func49 (by kernel_rfl) rfl #[.int .i64 a0_0, .slice A0_1 l0_1.length c0_1, .int .i64 (l0_1.length : Int)] rfl ga ?_; (with_reducible refine (spec_l14Teams.calls k a0_0 _ _ l0_1 (l0_1.length : Int) t171 t172 t173 _ ?side1 ?side2 A12.out).mono ?_); (case side1 => exact ck (Kd.C_below HR0_1.out HB.out)); (case side2 => exact HC0_1.out); rintro e w21 ⟨rfl, hb⟩; refine ⟨_, rfl, ?_⟩; replace BK169 := Aside0.mk (bb BK169.out hb); replace HB := Aside0.mk (below_step bel hb); (try clear hb); obtain ⟨hcz22_0, hcz22_1, hfz22_0, hfz22_1⟩ := cf2 BK169.out) | ((with_reducible refine gate_callee (f := 56) rfl ?_); refine goesL_ (some 34) rfl rfl Try.func56 (by kernel_rfl) rfl #[.agg #[.int .i64 a0_0, .slice A0_1 l0_1.length c0_1]] rfl ga ?_; (with_reducible refine (spec_l14Copy.calls a0_0 _ _ l0_1 t174 t175 _ ?side1 ?side2 A13.out).mono ?_); (case side1 => exact ck (Kd.C_below HR0_1.out HB.out)); (case side2 => exact HC0_1.out); rintro e w23 ⟨v176, rfl, ho0, hb⟩; refine ⟨_, rfl, ?_⟩; have HO177 := Aside0.mk (Kd.R_lower ho0 (below_size bel)); replace BK169 := Aside0.mk (bb BK169.out hb); replace HB := Aside0.mk (below_step bel hb); (try clear hb); (try clear ho0)) | ((with_reducible refine gate_dst (N := 8) rfl ?_); refine box_event ?hg (N := 8) ?hd (cs := #[.int .i64 0, .slice none 0 0]) (t := 36) ?hr ?_; (case hd => rfl); (case hg => rfl); (case hr => first | (go_simp; done) | (go_simp; rfl)); intro gb178 hg w24 hbox hb; have BK178 := Aside0.mk (hbox); have GW178 := Aside0.mk ((bsz hg : w.heap.size ≤ gb178)); have GE178 := Aside0.mk ((bsz hg : w.heap.size ≤ gb178)); have NB169_178 := Aside0.mk ((nlt hg BK169.out : gb169 ≠ gb178)); have NB178_169 := Aside0.mk ((ngt hg BK169.out : gb178 ≠ gb169)); replace HO177 := Aside0.mk (Kd.R_below (rk HO177.out) hb); replace BK169 := Aside0.mk (bb BK169.out hb); replace HB := Aside0.mk (below_step bel hb); clear hb hbox hg; have hnb25 := NB178_169.out; have hnc25 := NB169_178.out; obtain ⟨hcz26_0, hcz26_1, hfz26_0, hfz26_1⟩ := cf2 BK178.out; obtain ⟨Ao27, co27, eo27⟩ := Kd.R_slice HO177.out; subst eo27) | ((with_reducible refine gate_builtin (b := .append) (xs := #[.tmp 36, .tmp 38]) rfl ?_); at_builtin; refine Kd.R_append (Kd.int .i64) (w0 := w) w.heap.size rfl (.tmp 36) (.tmp 38) 25 3 (.int .i64 0) 8 rfl Try.underlying25 info3 rfl (by decide) (by omega) (.slice Ao27 t175.length co27) t175 t171 [.int .i64 t171] (fun _ => True) (fun _ => False) rfl (by first | (go_simp; done) | (go_simp; rfl)) ?aP (fun _ hk => hk.elim) ?aF ?aO ?aB ?aS ?aL ?_; (case aP => exact rfl); (case aB => exact bel); (case aF => exact (fun _ _ => trivial)); (case aO => exact (by (with_reducible repeat (first | apply Kd.R_alloc | apply Kd.R_drewN | apply Kd.R_drew)); exact Kd.R_mono (Kd.R_far (p := ⟨gb178, 1, none⟩) (Kd.R_far (p := ⟨gb178, 0, none⟩) (Kd.R_types HO177.out BK178.out (by decide)) (fun _ hk => hk.2) (.int .i64 t174)) (fun _ hk => hk.2) (.slice Ao27 t175.length co27)) (fun _ hk => trivial))); (case aS => exact (below_size bel)); (case aL => have := LMc14.out; omega); intro v180 w28 ho hb hg hat; rw [← Ny179.out] at ho; have n0_ := Aside0.mk (blk_grown (g := gb169) (o := .cells #[.int .i64 a0_0, .slice A0_1 l0_1.length c0_1] 36 (0, 0)) (bk BK169.out) hg (Kd.R_ne HO177.out BK169.out (by decide))); have n1_ := Aside0.mk (blk_grown (g := gb178) (o := .cells #[.int .i64 t174, .slice Ao27 t175.length co27] 36 (0, 0)) (by (with_reducible repeat (first | refine blk_drewN ?_ _ | refine blk_drew ?_ | refine blk_alloc ?_ _)); refine blk_put (cs := #[.int .i64 t174, .slice none 0 0]) ?_ 1 _ rfl; (with_reducible repeat (first | refine blk_drewN ?_ _ | refine blk_drew ?_ | refine blk_alloc ?_ _)); refine blk_put (cs := #[.int .i64 0, .slice none 0 0]) ?_ 0 _ rfl; (with_reducible repeat (first | refine blk_drewN ?_ _ | refine blk_drew ?_ | refine blk_alloc ?_ _)); exact BK178.out) hg (Kd.R_ne HO177.out BK178.out (by decide))); have n2_ := Aside0.mk (hb); have n3_ := Aside0.mk (ho); clear BK169; clear BK178; clear HB; clear HO177; have BK169 := n0_; have BK178 := n1_; have HB := n2_; have HO181 := n3_; clear n0_ n1_ n2_ n3_; clear ho hb hg hat; obtain ⟨Ao29, co29, eo29⟩ := Kd.R_slice HO181.out; subst eo29; obtain ⟨hcz30_0, hcz30_1, hfz30_0, hfz30_1⟩ := cf2 BK178.out; obtain ⟨hcz31_0, hcz31_1, hfz31_0, hfz31_1⟩ := cf2 BK169.out) | ((with_reducible refine gate_callee (f := 56) rfl ?_); refine goesL_ (some 42) rfl rfl Try.func56 (by kernel_rfl) rfl #[.agg #[.int .i64 a0_0, .slice A0_1 l0_1.length c0_1]] rfl ga ?_; (with_reducible refine (spec_l14Copy.calls a0_0 _ _ l0_1 t182 t183 _ ?side1 ?side2 A15.out).mono ?_); (case side1 => exact Kd.C_below HR0_1.out bel); (case side2 => exact HC0_1.out); rintro e w32 ⟨v184, rfl, ho0, hb⟩; refine ⟨_, rfl, ?_⟩; have HO185 := Aside0.mk (Kd.R_lower (Kd.R_new' ho0 (Kd.R_lt (by exact rk (Kd.R_mono (Kd.R_far (p := ⟨gb178, 1, none⟩) (Kd.R_types HO181.out BK178.out (by decide)) (fun _ hk => hk.2) (.slice Ao29 y179.length co29)) (fun _ h_ => h_.1))))) (below_size bel)); replace HO181 := Aside0.mk (Kd.R_elder' (by exact rk (Kd.R_mono (Kd.R_far (p := ⟨gb178, 1, none⟩) (Kd.R_types HO181.out BK178.out (by decide)) (fun _ hk => hk.2) (.slice Ao29 y179.length co29)) (fun _ h_ => h_.1))) (Kd.R_base ho0) hb); replace BK169 := Aside0.mk (bb BK169.out hb); replace BK178 := Aside0.mk (blk_below (g := gb178) (o := .cells #[.int .i64 t174, .slice Ao29 y179.length co29] 36 (0, 0)) (by (with_reducible repeat (first | refine blk_drewN ?_ _ | refine blk_drew ?_ | refine blk_alloc ?_ _)); refine blk_put (cs := #[.int .i64 t174, .slice Ao27 t175.length co27]) ?_ 1 _ rfl; (with_reducible repeat (first | refine blk_drewN ?_ _ | refine blk_drew ?_ | refine blk_alloc ?_ _)); exact BK178.out) hb); replace HB := Aside0.mk (below_step bel hb); (try clear hb); (try clear ho0)) | ((with_reducible refine gate_dst (N := 9) rfl ?_); refine box_event ?hg (N := 9) ?hd (cs := #[.int .i64 0, .slice none 0 0]) (t := 36) ?hr ?_; (case hd => rfl); (case hg => rfl); (case hr => first | (go_simp; done) | (go_simp; rfl)); intro gb186 hg w33 hbox hb; have BK186 := Aside0.mk (hbox); have GW186 := Aside0.mk ((bsz hg : w.heap.size ≤ gb186)); have GE186 := Aside0.mk ((bsz hg : w.heap.size ≤ gb186)); have NB169_186 := Aside0.mk ((nlt hg BK169.out : gb169 ≠ gb186)); have NB186_169 := Aside0.mk ((ngt hg BK169.out : gb186 ≠ gb169)); have NB178_186 := Aside0.mk ((nlt hg BK178.out : gb178 ≠ gb186)); have NB186_178 := Aside0.mk ((ngt hg BK178.out : gb186 ≠ gb178)); replace HO181 := Aside0.mk (Kd.R_below (rk HO181.out) hb); replace HO185 := Aside0.mk (Kd.R_below (rk HO185.out) hb); replace BK169 := Aside0.mk (bb BK169.out hb); replace BK178 := Aside0.mk (bb BK178.out hb); replace HB := Aside0.mk (below_step bel hb); clear hb hbox hg; have hnb34 := NB186_169.out; have hnc34 := NB169_186.out; have hnb35 := NB186_178.out; have hnc35 := NB178_186.out; obtain ⟨hcz36_0, hcz36_1, hfz36_0, hfz36_1⟩ := cf2 BK186.out; obtain ⟨Ao37, co37, eo37⟩ := Kd.R_slice HO185.out; subst eo37) | ((with_reducible refine gate_builtin (b := .append) (xs := #[.tmp 44, .tmp 46]) rfl ?_); at_builtin; refine Kd.R_append (Kd.int .i64) (w0 := w) w.heap.size rfl (.tmp 44) (.tmp 46) 25 3 (.int .i64 0) 8 rfl Try.underlying25 info3 rfl (by decide) (by omega) (.slice Ao37 t183.length co37) t183 t172 [.int .i64 t172] (fun k_ => some k_ ≠ (.slice Ao29 y179.length co29 : Value).ownBlock) (fun _ => False) rfl (by first | (go_simp; done) | (go_simp; rfl)) ?aP (fun _ hk => hk.elim) ?aF ?aO ?aB ?aS ?aL ?_; (case aP => exact rfl); (case aB => exact bel); (case aF => exact (fun k_ hk => Kd.fresh' (Kd.R_lt (by exact rk (Kd.R_mono (Kd.R_far (p := ⟨gb186, 1, none⟩) (Kd.R_far (p := ⟨gb186, 0, none⟩) (Kd.R_types HO181.out BK186.out (by decide)) (fun _ hk => hk.2) (.int .i64 t182)) (fun _ hk => hk.2) (.slice Ao37 t183.length co37)) (fun _ h_ => h_.1)))) k_ hk)); (case aO => exact (by (with_reducible repeat (first | apply Kd.R_alloc | apply Kd.R_drewN | apply Kd.R_drew)); exact Kd.R_mono (Kd.R_far (p := ⟨gb186, 1, none⟩) (Kd.R_far (p := ⟨gb186, 0, none⟩) (Kd.R_types HO185.out BK186.out (by decide)) (fun _ hk => hk.2) (.int .i64 t182)) (fun _ hk => hk.2) (.slice Ao37 t183.length co37)) (fun _ hk => hk.1.2))); (case aS => exact (below_size bel)); (case aL => have := LMc16.out; omega); intro v188 w38 ho hb hg hat; rw [← Ny187.out] at ho; have n0_ := Aside0.mk (blk_grown (g := gb169) (o := .cells #[.int .i64 a0_0, .slice A0_1 l0_1.length c0_1] 36 (0, 0)) (bk BK169.out) hg (Kd.R_ne HO185.out BK169.out (by decide))); have n1_ := Aside0.mk (blk_grown (g := gb178) (o := .cells #[.int .i64 t174, .slice Ao29 y179.length co29] 36 (0, 0)) (bk BK178.out) hg (Kd.R_ne HO185.out BK178.out (by decide))); have n2_ := Aside0.mk (Kd.R_after (ok := (fun _ => True)) (by (with_reducible repeat (first | apply Kd.R_alloc | apply Kd.R_drewN | apply Kd.R_drew)); exact Kd.R_mono (Kd.R_far (p := ⟨gb186, 1, none⟩) (Kd.R_far (p := ⟨gb186, 0, none⟩) (Kd.R_types HO181.out BK186.out (by decide)) (fun _ hk => hk.2) (.int .i64 t182)) (fun _ hk => hk.2) (.slice Ao37 t183.length co37)) (fun _ hk => ⟨trivial, hk.1.2⟩)) hg hat); have n3_ := Aside0.mk (blk_grown (g := gb186) (o := .cells #[.int .i64 t182, .slice Ao37 t183.length co37] 36 (0, 0)) (by (with_reducible repeat (first | refine blk_drewN ?_ _ | refine blk_drew ?_ | refine blk_alloc ?_ _)); refine blk_put (cs := #[.int .i64 t182, .slice none 0 0]) ?_ 1 _ rfl; (with_reducible repeat (first | refine blk_drewN ?_ _ | refine blk_drew ?_ | refine blk_alloc ?_ _)); refine blk_put (cs := #[.int .i64 0, .slice none 0 0]) ?_ 0 _ rfl; (with_reducible repeat (first | refine blk_drewN ?_ _ | refine blk_drew ?_ | refine blk_alloc ?_ _)); exact BK186.out) hg (Kd.R_ne HO185.out BK186.out (by decide))); have n4_ := Aside0.mk (hb); have n5_ := Aside0.mk (ho); clear BK169; clear BK178; clear HO181; clear BK186; clear HB; clear HO185; have BK169 := n0_; have BK178 := n1_; have HO181 := n2_; have BK186 := n3_; have HB := n4_; have HO189 := n5_; clear n0_ n1_ n2_ n3_ n4_ n5_; clear ho hb hg hat; obtain ⟨Ao39, co39, eo39⟩ := Kd.R_slice HO189.out; subst eo39; obtain ⟨hcz40_0, hcz40_1, hfz40_0, hfz40_1⟩ := cf2 BK186.out))
        have n0_ : Aside0 (Kd.R (Kd.int .i64) 3 (w38.setCell ⟨gb186, 1, none⟩ (.slice Ao39 y187.length co39)) w.heap.size (fun k_ => some k_ ≠ (.slice Ao39 y187.length co39 : Value).ownBlock) (.slice Ao29 y179.length co29) y179) := ⟨by (with_reducible repeat (first | apply Kd.R_alloc | apply Kd.R_drewN | apply Kd.R_drew)); exact Kd.R_mono (Kd.R_far (p := ⟨gb186, 1, none⟩) (Kd.R_types HO181.out BK186.out (by decide)) (fun _ hk => hk.2) (.slice Ao39 y187.length co39)) (fun _ hk => hk.1.2)⟩
        have n1_ : Aside0 (Kd.R (Kd.int .i64) 3 (w38.setCell ⟨gb186, 1, none⟩ (.slice Ao39 y187.length co39)) w.heap.size (fun k_ => some k_ ≠ (.slice Ao29 y179.length co29 : Value).ownBlock) (.slice Ao39 y187.length co39) y187) := ⟨by (with_reducible repeat (first | apply Kd.R_alloc | apply Kd.R_drewN | apply Kd.R_drew)); exact Kd.R_mono (Kd.R_far (p := ⟨gb186, 1, none⟩) (Kd.R_types HO189.out BK186.out (by decide)) (fun _ hk => hk.2) (.slice Ao39 y187.length co39)) (fun _ hk => hk.1)⟩
        have n2_ : Aside0 ((w38.setCell ⟨gb186, 1, none⟩ (.slice Ao39 y187.length co39)).heap[gb169]? = some (.cells #[.int .i64 a0_0, .slice A0_1 l0_1.length c0_1] 36 (0, 0))) := ⟨bk BK169.out⟩
        have n3_ : Aside0 ((w38.setCell ⟨gb186, 1, none⟩ (.slice Ao39 y187.length co39)).heap[gb178]? = some (.cells #[.int .i64 t174, .slice Ao29 y179.length co29] 36 (0, 0))) := ⟨bk BK178.out⟩
        have n4_ : Aside0 ((w38.setCell ⟨gb186, 1, none⟩ (.slice Ao39 y187.length co39)).heap[gb186]? = some (.cells #[.int .i64 t182, .slice Ao39 y187.length co39] 36 (0, 0))) := ⟨by (with_reducible repeat (first | refine blk_drewN ?_ _ | refine blk_drew ?_ | refine blk_alloc ?_ _)); refine blk_put (cs := #[.int .i64 t182, .slice Ao37 t183.length co37]) ?_ 1 _ rfl; (with_reducible repeat (first | refine blk_drewN ?_ _ | refine blk_drew ?_ | refine blk_alloc ?_ _)); exact BK186.out⟩
        have n5_ : Aside0 (Below w.heap.size w (w38.setCell ⟨gb186, 1, none⟩ (.slice Ao39 y187.length co39))) := ⟨bel⟩
        (try clear HO181)
        (try clear HO189)
        (try clear BK169)
        (try clear BK178)
        (try clear BK186)
        (try clear HB)
        generalize (w38.setCell ⟨gb186, 1, none⟩ (.slice Ao39 y187.length co39)) = w41 at n0_ n1_ n2_ n3_ n4_ n5_ ⊢
        have HO181 := n0_
        have HO189 := n1_
        have BK169 := n2_
        have BK178 := n3_
        have BK186 := n4_
        have HB := n5_
        clear n0_ n1_ n2_ n3_ n4_ n5_
        replace HO181 := Aside0.mk (Kd.R_drew HO181.out)
        replace HO189 := Aside0.mk (Kd.R_drew HO189.out)
        replace BK169 := Aside0.mk (blk_drew BK169.out)
        replace BK178 := Aside0.mk (blk_drew BK178.out)
        replace BK186 := Aside0.mk (blk_drew BK186.out)
        replace HB := Aside0.mk (below_drew1 HB.out)
        refine start_ (n := 8) (S := fun w' => w'.cell? ⟨gb178, 0, none⟩ = some (.int .i64 t174) ∧ w'.cell? ⟨gb178, 1, none⟩ = some (.slice Ao29 y179.length co29) ∧ w'.cell? ⟨gb186, 0, none⟩ = some (.int .i64 t182) ∧ w'.cell? ⟨gb186, 1, none⟩ = some (.slice Ao39 y187.length co39)) (ds := []) #[false, false, false, false, false, false, false, false] (by kernel_rfl) rfl rfl ⟨(blk_cell BK178.out 0).trans rfl, (blk_cell BK178.out 1).trans rfl, (blk_cell BK186.out 0).trans rfl, (blk_cell BK186.out 1).trans rfl⟩ (fun hHeld => ?_); refine with_tabW spec_l14Ways.tab10 spec_l14Ways.bits10 (fun HT_ HW_ => ?_)
        generalize w41.drew = w42 at HO181 HO189 BK169 BK178 BK186 HB hHeld ⊢
        refine pure_ (i := 1) (N := some 50) (v := ?_) (a' := ?_) #[false, true, false, false, false, false, false, false] rfl rfl (any_of HT_.out (by kernel_rfl)) (fun _ _ _ h => h) (Or.inl ⟨by rfl, ?_⟩) ?_ ?_
        rotate_left
        · intro w'
          go_simp
          with_reducible rfl
        rotate_left
        · simp only [Act.put, List.setIfInBounds_toArray, List.set_cons_zero, List.set_cons_succ, i64_w, i32_w]
          rfl
        refine pure_ (i := 4) (N := some 53) (v := ?_) (a' := ?_) #[false, true, false, false, true, false, false, false] rfl rfl (any_of HT_.out (by kernel_rfl)) (fun _ _ _ h => h) (Or.inl ⟨by rfl, ?_⟩) ?_ ?_
        rotate_left
        · intro w'
          go_simp
          with_reducible rfl
        rotate_left
        · simp only [Act.put, List.setIfInBounds_toArray, List.set_cons_zero, List.set_cons_succ, i64_w, i32_w]
          rfl
        refine take_ (i := 0) (N := some 49) (v := ?_) (a' := ?_) #[true, true, false, false, true, false, false, false] rfl rfl (take_ofW HT_.out HW_.out (by kernel_rfl)) (fun _ _ _ h => h) (Or.inl ⟨by rfl, ?_⟩) hHeld ?_ ?_
        rotate_left
        · rintro w' ⟨s0, s1, s2, s3⟩
          go_simp
          with_reducible rfl
        rotate_left
        · simp only [Act.put, List.setIfInBounds_toArray, List.set_cons_zero, List.set_cons_succ, i64_w, i32_w]
          rfl
        refine take_ (i := 3) (N := some 52) (v := ?_) (a' := ?_) #[true, true, false, true, true, false, false, false] rfl rfl (take_ofW HT_.out HW_.out (by kernel_rfl)) (fun _ _ _ h => h) (Or.inl ⟨by rfl, ?_⟩) hHeld ?_ ?_
        rotate_left
        · rintro w' ⟨s0, s1, s2, s3⟩
          go_simp
          with_reducible rfl
        rotate_left
        · simp only [Act.put, List.setIfInBounds_toArray, List.set_cons_zero, List.set_cons_succ, i64_w, i32_w]
          rfl
        refine one_ (i := 2) (N := some 51) #[true, true, true, true, true, false, false, false] rfl rfl (one_of HT_.out (by kernel_rfl)) (by decide) (fun K hK => ?_)
        refine goes_ Try.func57 (by kernel_rfl) rfl #[.agg #[.int .i64 t174, .slice Ao29 y179.length co29], .int .i64 a1] (by rfl) rfl rfl ga ?_
        with_reducible refine (ih k (by omega) t174 _ _ y179 a1 t190 _ ?side1 ?side2 A17.out).mono ?_
        (case side1 => exact ck (Kd.R_reads' HO181.out).2.2)
        (case side2 => exact (Kd.R_reads' HO181.out).2.1)
        rintro e w43 ⟨rfl, hb⟩
        refine ⟨_, rfl, ?_⟩
        replace HO181 := Aside0.mk (Kd.R_below (rk HO181.out) hb)
        replace HO189 := Aside0.mk (Kd.R_below (rk HO189.out) hb)
        replace BK169 := Aside0.mk (bb BK169.out hb)
        replace BK178 := Aside0.mk (bb BK178.out hb)
        replace BK186 := Aside0.mk (bb BK186.out hb)
        replace HB := Aside0.mk (below_step bel hb)
        (try clear hb)
        (try clear hb2)
        (try clear hk)
        (try clear hi)
        refine hK.out _ _ ⟨(blk_cell BK178.out 0).trans rfl, (blk_cell BK178.out 1).trans rfl, (blk_cell BK186.out 0).trans rfl, (blk_cell BK186.out 1).trans rfl⟩ (fun hHeld => ?_)
        clear hK K
        refine norm_ (a' := ?_) ?_ ?_
        rotate_left
        · show Act.put _ (some 51) _ = _
          simp only [Act.put, List.setIfInBounds_toArray, List.set_cons_zero, List.set_cons_succ, i64_w, i32_w]
          rfl
        refine one_ (i := 5) (N := some 54) #[true, true, true, true, true, true, false, false] rfl rfl (one_of HT_.out (by kernel_rfl)) (by decide) (fun K hK => ?_)
        refine goes_ Try.func57 (by kernel_rfl) rfl #[.agg #[.int .i64 t182, .slice Ao39 y187.length co39], .int .i64 a1] (by rfl) rfl rfl ga ?_
        with_reducible refine (ih k (by omega) t182 _ _ y187 a1 t191 _ ?side1 ?side2 A18.out).mono ?_
        (case side1 => exact ck (Kd.R_reads' HO189.out).2.2)
        (case side2 => exact (Kd.R_reads' HO189.out).2.1)
        rintro e w44 ⟨rfl, hb⟩
        refine ⟨_, rfl, ?_⟩
        replace HO181 := Aside0.mk (Kd.R_below (rk HO181.out) hb)
        replace HO189 := Aside0.mk (Kd.R_below (rk HO189.out) hb)
        replace BK169 := Aside0.mk (bb BK169.out hb)
        replace BK178 := Aside0.mk (bb BK178.out hb)
        replace BK186 := Aside0.mk (bb BK186.out hb)
        replace HB := Aside0.mk (below_step bel hb)
        (try clear hb)
        (try clear hb2)
        (try clear hk)
        (try clear hi)
        refine hK.out _ _ ⟨(blk_cell BK178.out 0).trans rfl, (blk_cell BK178.out 1).trans rfl, (blk_cell BK186.out 0).trans rfl, (blk_cell BK186.out 1).trans rfl⟩ (fun hHeld => ?_)
        clear hK K
        refine norm_ (a' := ?_) ?_ ?_
        rotate_left
        · show Act.put _ (some 54) _ = _
          simp only [Act.put, List.setIfInBounds_toArray, List.set_cons_zero, List.set_cons_succ, i64_w, i32_w]
          rfl
        refine pure_ (i := 6) (N := some 55) (v := ?_) (a' := ?_) #[true, true, true, true, true, true, true, false] rfl rfl (any_of HT_.out (by kernel_rfl)) (fun _ _ _ h => h) (Or.inl ⟨by rfl, ?_⟩) ?_ ?_
        rotate_left
        · intro w'
          go_simp
          with_reducible rfl
        rotate_left
        · simp only [Act.put, List.setIfInBounds_toArray, List.set_cons_zero, List.set_cons_succ, i64_w, i32_w]
          rfl
        refine pure_ (i := 7) (N := some 4) (v := ?_) (a' := ?_) #[true, true, true, true, true, true, true, true] rfl rfl (any_of HT_.out (by kernel_rfl)) (fun _ _ _ h => h) (Or.inl ⟨by rfl, ?_⟩) ?_ ?_
        rotate_left
        · intro w'
          go_simp
          with_reducible rfl
        rotate_left
        · simp only [Act.put, List.setIfInBounds_toArray, List.set_cons_zero, List.set_cons_succ, i64_w, i32_w]
          rfl
        refine done_ (done_of HT_.out (by kernel_rfl)) ?_
        try go_wp2
        go_ret
        exact ⟨er, bel⟩
      · rw [if_neg c16] at H
        exact absurd H (by simp)
    · rw [if_neg c14] at H
      exact absurd H (by simp)

end Go.Proofs.Ytpacmpppiphfjaa.X
