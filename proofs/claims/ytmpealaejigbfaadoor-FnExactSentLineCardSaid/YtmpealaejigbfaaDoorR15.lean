-- Written by a program of this session (wip/xp.py, over the kit's print) out of the translation: functions, and the walks that show them.
import Derived.Test.YtmpealaejigbfaaDoorR0
import Derived.Test.YtmpealaejigbfaaDoorR3
import Derived.Test.YtmpealaejigbfaaDoorR11
import Derived.Test.YtmpealaejigbfaaDoorR14
namespace Go.Proofs.YtmpealaejigbfaaDoor.R
open Go.RowKit Go.Proofs.YtmpealaejigbfaaDoorW.PrintWords Go.Proofs.YtmpealaejigbfaaDoorW.PrintLast Go.Proofs.YtmpealaejigbfaaDoorW.PrintMore
attribute [local go_sem] max2_int min2_int max_two min_two max_three min_three max_four min_four   -- for this text's walks alone
set_option linter.unusedVariables false
set_option linter.unusedSimpArgs false

/-! ### impl_SentLine: function 13 -/
def impl_SentLine.l0 : Nat → List (S52) → List ByteArray → List Int → Int → Int → Int → List Int → Option (ByteArray)
  | 0, _, _, _, _, _, _, _ => none
  | k + 1, x0, x5, x13, x14, x15, x247000, x247001 => if x15 < x14 then (if 0 ≤ x15 then (if x15 < (x13.length : Int) then ((impl_within.f (rd x13 x15) 0 (wrap64 ((x0.length : Int) - 1))).bind fun t254 => (if t254 = true then (if 0 ≤ (rd x13 x15) then (if (rd x13 x15) < (x0.length : Int) then (if x5.length < 8796093022208 then (impl_SentLine.l0 k x0 (x5 ++ [(rd_T52 x0 (rd x13 x15)).f0]) x13 x14 (wrap64 (x15 + 1)) x247000 x247001) else (none)) else (none)) else (none)) else ((impl_FormatInt.f (rd x13 x15)).bind fun t259 => (if 1 + t259.size ≤ 9223372036854775807 then (if x5.length < 8796093022208 then (impl_SentLine.l0 k x0 (x5 ++ [(⟨#[35]⟩ : ByteArray) ++ t259]) x13 x14 (wrap64 (x15 + 1)) x247000 x247001) else (none)) else (none))))) else (none)) else (none)) else ((impl_FormatInt.f x247000).bind fun t251 => (if t251.size + 2 ≤ 9223372036854775807 then ((impl_Join.f x5 (⟨#[32]⟩ : ByteArray)).bind fun t252 => (if (t251 ++ (⟨#[58, 32]⟩ : ByteArray)).size + t252.size ≤ 9223372036854775807 then (some ((t251 ++ (⟨#[58, 32]⟩ : ByteArray)) ++ t252)) else (none))) else (none)))
def impl_SentLine.f (k : Nat) (l0 : List (S52)) (a1_0 : Int) (l1_1 : List Int) : Option (ByteArray) := (impl_FieldOk.f k l0).bind fun t247 => (if t247 = true then (impl_SentLine.l0 k l0 (([] : List ByteArray)) l1_1 (l1_1.length : Int) 0 a1_0 l1_1) else (some (⟨#[]⟩ : ByteArray)))
theorem impl_SentLine.mono_l : ∀ k, (∀ y0 y1 y2 y3 y4 y5 y6, LeO (impl_SentLine.l0 k y0 y1 y2 y3 y4 y5 y6) (impl_SentLine.l0 (k + 1) y0 y1 y2 y3 y4 y5 y6))
  | 0 => fun _ _ _ _ _ _ _ r h => by simp [impl_SentLine.l0] at h
  | k + 1 => by
    have ih0 := impl_SentLine.mono_l k
    · intro y0 y1 y2 y3 y4 y5 y6
      unfold impl_SentLine.l0
      repeat' first
      | (with_reducible exact ih0 _ _ _ _ _ _ _)
      | (with_reducible exact impl_FieldOk.mono _ _)
      | (with_reducible exact LeO.refl _)
      | (with_reducible exact LeO.none _)
      | (with_reducible refine LeO.ite ?_ ?_)
      | (with_reducible refine LeO.bind ?_ (fun _ => ?_))
      | exact ih0 _ _ _ _ _ _ _
      | exact impl_FieldOk.mono _ _
      | exact LeO.none _
      | refine LeO.ite ?_ ?_
      | refine LeO.bind ?_ (fun _ => ?_)
theorem impl_SentLine.mono : ∀ a0 a1 a2 k, LeO (impl_SentLine.f k a0 a1 a2) (impl_SentLine.f (k + 1) a0 a1 a2) := by
  intro a0 a1 a2 k
  have ih0 := impl_SentLine.mono_l k
  unfold impl_SentLine.f
  repeat' first
      | (with_reducible exact ih0 _ _ _ _ _ _ _)
      | (with_reducible exact impl_FieldOk.mono _ _)
      | (with_reducible exact LeO.refl _)
      | (with_reducible exact LeO.none _)
      | (with_reducible refine LeO.ite ?_ ?_)
      | (with_reducible refine LeO.bind ?_ (fun _ => ?_))
      | exact ih0 _ _ _ _ _ _ _
      | exact impl_FieldOk.mono _ _
      | exact LeO.none _
      | refine LeO.ite ?_ ?_
      | refine LeO.bind ?_ (fun _ => ?_)
set_option maxHeartbeats 8000000 in
set_option maxRecDepth 100000 in
theorem impl_SentLine.calls (k : Nat) (A0 : Option Addr) (c0 : Nat) (l0 : List (S52)) (a1_0 : Int) (A1_1 : Option Addr) (c1_1 : Nat) (l1_1 : List Int) (r : ByteArray) (w : World) (hT : TabW w) (hr0 : Kd.C k52 w A0 l0.length l0) (hc0 : l0.length ≤ c0) (hr1_1 : Kd.C (Kd.int .i64) w A1_1 l1_1.length l1_1) (hc1_1 : l1_1.length ≤ c1_1) (h : impl_SentLine.f k l0 a1_0 l1_1 = some r) :
    Calls Tryd.prog 13 #[.slice A0 l0.length c0, .agg #[.int .i64 a1_0, .slice A1_1 l1_1.length c1_1]] w fun e w' => e = .returned (.string r) ∧ Below w.heap.size w w' := by
  have HT := Aside0.mk hT
  clear hT
  have hu37 := Tryd.underlying37
  have HR0 := Aside0.mk hr0
  have HC0 := Aside0.mk hc0
  clear hr0 hc0
  have HR1_1 := Aside0.mk hr1_1
  have HC1_1 := Aside0.mk hc1_1
  clear hr1_1 hc1_1
  have HB := Aside0.mk (Below.refl w.heap.size w)
  have H : ((impl_FieldOk.f k l0).bind fun t247 => (if t247 = true then (impl_SentLine.l0 k l0 (([] : List ByteArray)) l1_1 (l1_1.length : Int) 0 a1_0 l1_1) else (some (⟨#[]⟩ : ByteArray)))) = some r := h
  clear h
  replace H := Option.bind_eq_some_iff.mp H
  obtain ⟨t247, A30, H⟩ := H
  replace H : (if t247 = true then (impl_SentLine.l0 k l0 (([] : List ByteArray)) l1_1 (l1_1.length : Int) 0 a1_0 l1_1) else (some (⟨#[]⟩ : ByteArray))) = some r := H
  have A3 := Aside0.mk A30
  clear A30
  by_cases c4 : t247 = true
  · subst c4
    have H1 : (impl_SentLine.l0 k l0 (([] : List ByteArray)) l1_1 (l1_1.length : Int) 0 a1_0 l1_1) = some r := by rw [if_pos rfl] at H; exact H
    clear H
    have H := H1
    clear H1
    obtain ⟨y248, hy248⟩ : ∃ y_ : List ByteArray, y_ = (([] : List ByteArray)) := ⟨_, rfl⟩
    replace H : (impl_SentLine.l0 k l0 y248 l1_1 (l1_1.length : Int) 0 a1_0 l1_1) = some r := by first | (rw [hy248]; with_reducible exact H) | (have H2_ := (Option.bind_some _ _).symm.trans H; rw [hy248]; with_reducible exact H2_) | (have H2_ := (Option.bind_some _ _).symm.trans H; with_reducible exact H2_) | with_reducible exact H | (rw [hy248]; exact H) | exact H
    have Ny248 := Aside0.mk hy248
    clear hy248
    have H' := Aside0.mk H
    clear H
    go_enter Tryd.func13, Tryd.ntmps13
    go_wp2_with (first | ((with_reducible refine gate_dst (N := 3) rfl ?_); refine box_event ?hg (N := 3) ?hd (cs := #[.int .i64 a1_0, .slice A1_1 l1_1.length c1_1]) (t := 37) ?hr ?_; (case hd => rfl); (case hg => rfl); (case hr => first | (go_simp; done) | (go_simp; rfl)); intro gb246 hg w5 hbox hb; have BK246 := Aside0.mk (hbox); have GW246 := Aside0.mk ((bsz hg : w.heap.size ≤ gb246)); have GE246 := Aside0.mk ((bsz hg : w.heap.size ≤ gb246)); replace HB := Aside0.mk (below_step bel hb); clear hb hbox hg) | ((with_reducible refine gate_callee (f := 26) rfl ?_); refine goesL_ (some 9) rfl rfl Tryd.func26 (by kernel_rfl) rfl #[.slice A0 l0.length c0] rfl ga ?_; (with_reducible refine (impl_FieldOk.calls k _ _ l0 true _ ?side1 ?side2 A3.out).mono ?_); (case side1 => exact ck (Kd.C_below HR0.out HB.out)); (case side2 => exact HC0.out); rintro e w6 ⟨rfl, hb⟩; refine ⟨_, rfl, ?_⟩; replace BK246 := Aside0.mk (bb BK246.out hb); replace HB := Aside0.mk (below_step bel hb); (try clear hb)) | ((with_reducible refine gate_dst (N := 11) rfl ?_); refine Kd.R_lit Kd.string _ 9 ?hg (N := 11) ?hd (xs := ([] : List ByteArray)) (inner := []) (ok := fun _ => True) (okp := fun _ => True) ?hr ?hp (fun _ hk => hk) trivial (Below.refl _ _) (Nat.le_refl _) (by simp) ?_; (case hd => rfl); (case hg => rfl); (case hr => first | (go_simp; done) | (go_simp; rfl)); (case hp => exact (Reps.none _ _)); intro v249 w7 ho8 hb hg_ hnew_; clear hg_ hnew_; (first | rw [← Ny248.out] at ho8 | (simp only [Int.reduceToNat] at ho8; rw [← Ny248.out] at ho8)); have HO250 := Aside0.mk (Kd.R_lower ho8 (below_size bel)); replace BK246 := Aside0.mk (bb BK246.out hb); replace HB := Aside0.mk (below_step bel hb); clear hb ho8; obtain ⟨hcz9_0, hcz9_1, hfz9_0, hfz9_1⟩ := cf2 BK246.out))
    go_loopg [5, 15] k (fun kq v5 v15 w' => ∃ (x5_1 : List ByteArray) (x15_1 : Int), v15 = .int .i64 x15_1 ∧ Aside0 (impl_SentLine.l0 kq l0 x5_1 l1_1 (l1_1.length : Int) x15_1 a1_0 l1_1 = some r) ∧ Aside0 (kq ≤ k) ∧ Aside0 (Kd.R Kd.string 9 w' w.heap.size (fun _ => True) v5 x5_1) ∧ Aside0 (w'.heap[gb246]? = some (.cells #[.int .i64 a1_0, (.slice A1_1 l1_1.length c1_1)] 37 (0, 0))) ∧ Aside0 (Below w.heap.size w w'))
    case atStart => exact ⟨(y248), (0), (es), H', ⟨Nat.le_refl _⟩, ⟨rk HO250.out⟩, ⟨bk BK246.out⟩, ⟨bel⟩⟩
    case round =>
      clear H'
      try clear c1; try clear c2; try clear p2; try clear c4; try clear hcz9_0; try clear hcz9_1; try clear hfz9_0; try clear hfz9_1
      obtain ⟨x5_1, x15_1, rfl, HA, HK1, HO_5, BK246, HB⟩ := hrel
      cases gk with
      | zero => exact absurd HA.out (by simp [impl_SentLine.l0])
      | succ k1 =>
        have H := HA.out
        clear HA
        simp only [impl_SentLine.l0] at H
        by_cases c10 : x15_1 < (l1_1.length : Int)
        · rw [if_pos c10] at H
          have c10b0 : decide (x15_1 < (l1_1.length : Int)) = true := decide_eq_true c10
          clear c10
          by_cases c11 : 0 ≤ x15_1
          · rw [if_pos c11] at H
            have c11b0 : decide (0 ≤ x15_1) = true := decide_eq_true c11
            clear c11
            by_cases c12 : x15_1 < (l1_1.length : Int)
            · rw [if_pos c12] at H
              have c12b0 : decide (x15_1 < (l1_1.length : Int)) = true := decide_eq_true c12
              clear c12
              replace H := Option.bind_eq_some_iff.mp H
              obtain ⟨t254, A130, H⟩ := H
              replace H : (if t254 = true then (if 0 ≤ (rd l1_1 x15_1) then (if (rd l1_1 x15_1) < (l0.length : Int) then (if x5_1.length < 8796093022208 then (impl_SentLine.l0 k1 l0 (x5_1 ++ [(rd_T52 l0 (rd l1_1 x15_1)).f0]) l1_1 (l1_1.length : Int) (wrap64 (x15_1 + 1)) a1_0 l1_1) else (none)) else (none)) else (none)) else ((impl_FormatInt.f (rd l1_1 x15_1)).bind fun t259 => (if 1 + t259.size ≤ 9223372036854775807 then (if x5_1.length < 8796093022208 then (impl_SentLine.l0 k1 l0 (x5_1 ++ [(⟨#[35]⟩ : ByteArray) ++ t259]) l1_1 (l1_1.length : Int) (wrap64 (x15_1 + 1)) a1_0 l1_1) else (none)) else (none)))) = some r := H
              have A13 := Aside0.mk A130
              clear A130
              by_cases c14 : t254 = true
              · subst c14
                have H1 : (if 0 ≤ (rd l1_1 x15_1) then (if (rd l1_1 x15_1) < (l0.length : Int) then (if x5_1.length < 8796093022208 then (impl_SentLine.l0 k1 l0 (x5_1 ++ [(rd_T52 l0 (rd l1_1 x15_1)).f0]) l1_1 (l1_1.length : Int) (wrap64 (x15_1 + 1)) a1_0 l1_1) else (none)) else (none)) else (none)) = some r := by rw [if_pos rfl] at H; exact H
                clear H
                have H := H1
                clear H1
                by_cases c15 : 0 ≤ (rd l1_1 x15_1)
                · rw [if_pos c15] at H
                  have c15b0 : decide (0 ≤ (rd l1_1 x15_1)) = true := decide_eq_true c15
                  clear c15
                  by_cases c16 : (rd l1_1 x15_1) < (l0.length : Int)
                  · rw [if_pos c16] at H
                    have c16b0 : decide ((rd l1_1 x15_1) < (l0.length : Int)) = true := decide_eq_true c16
                    clear c16
                    by_cases c17 : x5_1.length < 8796093022208
                    · rw [if_pos c17] at H
                      have LMc17 := Aside0.mk c17
                      clear c17
                      obtain ⟨y256, hy256⟩ : ∃ y_ : List ByteArray, y_ = (x5_1 ++ [(rd_T52 l0 (rd l1_1 x15_1)).f0]) := ⟨_, rfl⟩
                      replace H : (impl_SentLine.l0 k1 l0 y256 l1_1 (l1_1.length : Int) (wrap64 (x15_1 + 1)) a1_0 l1_1) = some r := by first | (rw [hy256]; with_reducible exact H) | (have H2_ := (Option.bind_some _ _).symm.trans H; rw [hy256]; with_reducible exact H2_) | (have H2_ := (Option.bind_some _ _).symm.trans H; with_reducible exact H2_) | with_reducible exact H | (rw [hy256]; exact H) | exact H
                      have Ny256 := Aside0.mk hy256
                      clear hy256
                      have H' := Aside0.mk H
                      clear H
                      have p253 : 0 ≤ (x15_1 : Int) := asm
                      have q253 : x15_1 < (l1_1.length : Int) := asm
                      obtain ⟨ad253, e253, hx253_0⟩ := Kd.at_int HR1_1.out x15_1 p253 q253
                      cases e253
                      replace hx253_0 := hcl HB.out hx253_0
                      replace p253 := eq_true p253
                      replace q253 := eq_true q253
                      go_wp2_with (first | ((with_reducible refine gate_callee (f := 27) rfl ?_); refine goesL_ (some 23) rfl rfl Tryd.func27 (by kernel_rfl) rfl #[.int .i64 (rd l1_1 x15_1), .int .i64 0, .int .i64 (wrap64 ((l0.length : Int) - 1))] rfl ga ?_; (with_reducible refine (impl_within.calls (rd l1_1 x15_1) 0 (wrap64 ((l0.length : Int) - 1)) true _ A13.out).mono ?_); rintro e w' ⟨rfl, ⟨nd, rfl⟩⟩; refine ⟨_, rfl, ?_⟩; have p255 : 0 ≤ ((rd l1_1 x15_1) : Int) := asm; have q255 : (rd l1_1 x15_1) < (l0.length : Int) := asm; obtain ⟨ad255, e255, hx255_0, hx255_1, hx255_2⟩ := at_T52 HR0.out (rd l1_1 x15_1) p255 q255; cases e255; replace hx255_0 := hcl HB.out hx255_0; replace hx255_1 := hcl HB.out hx255_1; replace hx255_2 := hcl HB.out hx255_2; replace p255 := eq_true p255; replace q255 := eq_true q255) | ((with_reducible refine gate_builtin (b := .append) (xs := #[.tmp 24, .tmp 30]) rfl ?_); at_builtin; refine Kd.R_append Kd.string (w0 := w) w.heap.size rfl (.tmp 24) (.tmp 30) 42 9 (.string ⟨#[]⟩) 16 rfl Tryd.underlying42 info9 rfl (by decide) (by omega) u5 x5_1 ((rd_T52 l0 (rd l1_1 x15_1)).f0) [.string ((rd_T52 l0 (rd l1_1 x15_1)).f0)] (fun _ => True) (fun _ => False) rfl rfl ?aP (fun _ hk => hk.elim) ?aF ?aO ?aB ?aS ?aL ?_; (case aP => exact rfl); (case aB => exact bel); (case aF => exact (fun _ _ => trivial)); (case aO => exact (rk HO_5.out)); (case aS => exact (below_size bel)); (case aL => have := LMc17.out; omega); intro v257 w18 ho hb hg hat; rw [← Ny256.out] at ho; have n0_ := Aside0.mk (blk_grown (g := gb246) (o := .cells #[.int .i64 a1_0, .slice (some ad253) l1_1.length c1_1] 37 (0, 0)) (bk BK246.out) hg (Kd.R_ne HO_5.out BK246.out (by decide))); have n1_ := Aside0.mk (hb); have n2_ := Aside0.mk (ho); clear BK246; clear HB; clear HO_5; have BK246 := n0_; have HB := n1_; have HO258 := n2_; clear n0_ n1_ n2_; clear ho hb hg hat))
                      go_roundg k1
                      case measure => have := HK1.out; omega
                      case rel => exact ⟨(y256), (wrap64 (x15_1 + 1)), (es), H', ⟨by have := HK1.out; omega⟩, ⟨rk HO258.out⟩, ⟨bk BK246.out⟩, ⟨bel⟩⟩
                    · rw [if_neg c17] at H
                      exact absurd H (by simp)
                  · rw [if_neg c16] at H
                    exact absurd H (by simp)
                · rw [if_neg c15] at H
                  exact absurd H (by simp)
              · replace c14 := Bool.eq_false_iff.mpr c14
                subst c14
                have H1 : ((impl_FormatInt.f (rd l1_1 x15_1)).bind fun t259 => (if 1 + t259.size ≤ 9223372036854775807 then (if x5_1.length < 8796093022208 then (impl_SentLine.l0 k1 l0 (x5_1 ++ [(⟨#[35]⟩ : ByteArray) ++ t259]) l1_1 (l1_1.length : Int) (wrap64 (x15_1 + 1)) a1_0 l1_1) else (none)) else (none))) = some r := by rw [if_neg (show ¬ (false = true) by decide)] at H; exact H
                clear H
                have H := H1
                clear H1
                replace H := Option.bind_eq_some_iff.mp H
                obtain ⟨t259, A190, H⟩ := H
                replace H : (if 1 + t259.size ≤ 9223372036854775807 then (if x5_1.length < 8796093022208 then (impl_SentLine.l0 k1 l0 (x5_1 ++ [(⟨#[35]⟩ : ByteArray) ++ t259]) l1_1 (l1_1.length : Int) (wrap64 (x15_1 + 1)) a1_0 l1_1) else (none)) else (none)) = some r := H
                have A19 := Aside0.mk A190
                clear A190
                by_cases c20 : 1 + t259.size ≤ 9223372036854775807
                · rw [if_pos c20] at H
                  have c20b0 := eq_true c20
                  have c20b1 : decide (1 + t259.size ≤ 9223372036854775807) = true := decide_eq_true c20
                  try have c20b2 : (9223372036854775807 < 1 + t259.size) = False := eq_false (Nat.not_lt.2 c20)
                  by_cases c21 : x5_1.length < 8796093022208
                  · rw [if_pos c21] at H
                    have LMc21 := Aside0.mk c21
                    clear c21
                    obtain ⟨y260, hy260⟩ : ∃ y_ : List ByteArray, y_ = (x5_1 ++ [(⟨#[35]⟩ : ByteArray) ++ t259]) := ⟨_, rfl⟩
                    replace H : (impl_SentLine.l0 k1 l0 y260 l1_1 (l1_1.length : Int) (wrap64 (x15_1 + 1)) a1_0 l1_1) = some r := by first | (rw [hy260]; with_reducible exact H) | (have H2_ := (Option.bind_some _ _).symm.trans H; rw [hy260]; with_reducible exact H2_) | (have H2_ := (Option.bind_some _ _).symm.trans H; with_reducible exact H2_) | with_reducible exact H | (rw [hy260]; exact H) | exact H
                    have Ny260 := Aside0.mk hy260
                    clear hy260
                    have H' := Aside0.mk H
                    clear H
                    have p253 : 0 ≤ (x15_1 : Int) := asm
                    have q253 : x15_1 < (l1_1.length : Int) := asm
                    obtain ⟨ad253, e253, hx253_0⟩ := Kd.at_int HR1_1.out x15_1 p253 q253
                    cases e253
                    replace hx253_0 := hcl HB.out hx253_0
                    replace p253 := eq_true p253
                    replace q253 := eq_true q253
                    go_wp2_with (first | ((with_reducible refine gate_callee (f := 27) rfl ?_); refine goesL_ (some 23) rfl rfl Tryd.func27 (by kernel_rfl) rfl #[.int .i64 (rd l1_1 x15_1), .int .i64 0, .int .i64 (wrap64 ((l0.length : Int) - 1))] rfl ga ?_; (with_reducible refine (impl_within.calls (rd l1_1 x15_1) 0 (wrap64 ((l0.length : Int) - 1)) false _ A13.out).mono ?_); rintro e w' ⟨rfl, ⟨nd, rfl⟩⟩; refine ⟨_, rfl, ?_⟩) | ((with_reducible refine gate_callee (f := 28) rfl ?_); refine goesL_ (some 34) rfl rfl Tryd.func28 (by kernel_rfl) rfl #[.int .i64 (rd l1_1 x15_1)] rfl ga ?_; (with_reducible refine (impl_FormatInt.calls (rd l1_1 x15_1) t259 _ (tabAt HT.out bel) A19.out).mono ?_); rintro e w22 ⟨rfl, hb⟩; refine ⟨_, rfl, ?_⟩; replace HO_5 := Aside0.mk (Kd.R_below (rk HO_5.out) hb); replace BK246 := Aside0.mk (bb BK246.out hb); replace HB := Aside0.mk (below_step bel hb); (try clear hb)) | ((with_reducible refine gate_builtin (b := .append) (xs := #[.tmp 32, .tmp 36]) rfl ?_); at_builtin; refine Kd.R_append Kd.string (w0 := w) w.heap.size rfl (.tmp 32) (.tmp 36) 42 9 (.string ⟨#[]⟩) 16 rfl Tryd.underlying42 info9 rfl (by decide) (by omega) u5 x5_1 ((⟨#[35]⟩ : ByteArray) ++ t259) [.string ((⟨#[35]⟩ : ByteArray) ++ t259)] (fun _ => True) (fun _ => False) rfl rfl ?aP (fun _ hk => hk.elim) ?aF ?aO ?aB ?aS ?aL ?_; (case aP => exact rfl); (case aB => exact bel); (case aF => exact (fun _ _ => trivial)); (case aO => exact (rk HO_5.out)); (case aS => exact (below_size bel)); (case aL => have := LMc21.out; omega); intro v261 w23 ho hb hg hat; rw [← Ny260.out] at ho; have n0_ := Aside0.mk (blk_grown (g := gb246) (o := .cells #[.int .i64 a1_0, .slice (some ad253) l1_1.length c1_1] 37 (0, 0)) (bk BK246.out) hg (Kd.R_ne HO_5.out BK246.out (by decide))); have n1_ := Aside0.mk (hb); have n2_ := Aside0.mk (ho); clear BK246; clear HB; clear HO_5; have BK246 := n0_; have HB := n1_; have HO262 := n2_; clear n0_ n1_ n2_; clear ho hb hg hat))
                    go_roundg k1
                    case measure => have := HK1.out; omega
                    case rel => exact ⟨(y260), (wrap64 (x15_1 + 1)), (es), H', ⟨by have := HK1.out; omega⟩, ⟨rk HO262.out⟩, ⟨bk BK246.out⟩, ⟨bel⟩⟩
                  · rw [if_neg c21] at H
                    exact absurd H (by simp)
                · rw [if_neg c20] at H
                  exact absurd H (by simp)
            · rw [if_neg c12] at H
              exact absurd H (by simp)
          · rw [if_neg c11] at H
            exact absurd H (by simp)
        · rw [if_neg c10] at H
          have c10b0 : decide (x15_1 < (l1_1.length : Int)) = false := decide_eq_false c10
          clear c10
          replace H := Option.bind_eq_some_iff.mp H
          obtain ⟨t251, A240, H⟩ := H
          replace H : (if t251.size + 2 ≤ 9223372036854775807 then ((impl_Join.f x5_1 (⟨#[32]⟩ : ByteArray)).bind fun t252 => (if (t251 ++ (⟨#[58, 32]⟩ : ByteArray)).size + t252.size ≤ 9223372036854775807 then (some ((t251 ++ (⟨#[58, 32]⟩ : ByteArray)) ++ t252)) else (none))) else (none)) = some r := H
          have A24 := Aside0.mk A240
          clear A240
          by_cases c25 : t251.size + 2 ≤ 9223372036854775807
          · rw [if_pos c25] at H
            have c25b0 := eq_true c25
            have c25b1 : decide (t251.size + 2 ≤ 9223372036854775807) = true := decide_eq_true c25
            try have c25b2 : (9223372036854775807 < t251.size + 2) = False := eq_false (Nat.not_lt.2 c25)
            replace H := Option.bind_eq_some_iff.mp H
            obtain ⟨t252, A260, H⟩ := H
            replace H : (if (t251 ++ (⟨#[58, 32]⟩ : ByteArray)).size + t252.size ≤ 9223372036854775807 then (some ((t251 ++ (⟨#[58, 32]⟩ : ByteArray)) ++ t252)) else (none)) = some r := H
            have A26 := Aside0.mk A260
            clear A260
            by_cases c27 : (t251 ++ (⟨#[58, 32]⟩ : ByteArray)).size + t252.size ≤ 9223372036854775807
            · rw [if_pos c27] at H
              have c27b0 := eq_true c27
              have c27b1 : decide ((t251 ++ (⟨#[58, 32]⟩ : ByteArray)).size + t252.size ≤ 9223372036854775807) = true := decide_eq_true c27
              try have c27b2 : (9223372036854775807 < (t251 ++ (⟨#[58, 32]⟩ : ByteArray)).size + t252.size) = False := eq_false (Nat.not_lt.2 c27)
              have c27b3 : (9223372036854775807 < t251.size + 2 + t252.size) = False := eq_false (by have h_ := Nat.not_lt.2 c27; have e_ : (t251 ++ (⟨#[58, 32]⟩ : ByteArray)).size = t251.size + 2 := (by rw [ByteArray.size_append]; rfl); omega)
              obtain rfl := Option.some.inj H
              obtain ⟨hcz28_0, hcz28_1, hfz28_0, hfz28_1⟩ := cf2 BK246.out
              go_wp2_with (first | ((with_reducible refine gate_callee (f := 28) rfl ?_); refine goesL_ (some 41) rfl rfl Tryd.func28 (by kernel_rfl) rfl #[.int .i64 a1_0] rfl ga ?_; (with_reducible refine (impl_FormatInt.calls a1_0 t251 _ (tabAt HT.out bel) A24.out).mono ?_); rintro e w29 ⟨rfl, hb⟩; refine ⟨_, rfl, ?_⟩; replace HO_5 := Aside0.mk (Kd.R_below (rk HO_5.out) hb); replace BK246 := Aside0.mk (bb BK246.out hb); replace HB := Aside0.mk (below_step bel hb); (try clear hb); obtain ⟨Ao30, co30, eo30⟩ := Kd.R_slice HO_5.out; subst eo30) | ((with_reducible refine gate_callee (f := 18) rfl ?_); refine goesL_ (some 44) rfl rfl Tryd.func18 (by kernel_rfl) rfl #[.slice Ao30 x5_1.length co30, .string (⟨#[32]⟩ : ByteArray)] rfl ga ?_; (with_reducible refine (impl_Join.calls _ _ x5_1 (⟨#[32]⟩ : ByteArray) t252 _ ?side1 ?side2 A26.out).mono ?_); (case side1 => exact ck (Kd.R_reads' HO_5.out).2.2); (case side2 => exact (Kd.R_reads' HO_5.out).2.1); rintro e w31 ⟨rfl, hb⟩; refine ⟨_, rfl, ?_⟩; replace HO_5 := Aside0.mk (Kd.R_below (rk HO_5.out) hb); replace BK246 := Aside0.mk (bb BK246.out hb); replace HB := Aside0.mk (below_step bel hb); (try clear hb)))
              go_ret
              exact ⟨er, bel⟩
            · rw [if_neg c27] at H
              exact absurd H (by simp)
          · rw [if_neg c25] at H
            exact absurd H (by simp)
  · replace c4 := Bool.eq_false_iff.mpr c4
    subst c4
    have H1 : (some (⟨#[]⟩ : ByteArray)) = some r := by rw [if_neg (show ¬ (false = true) by decide)] at H; exact H
    clear H
    have H := H1
    clear H1
    obtain rfl := Option.some.inj H
    go_enter Tryd.func13, Tryd.ntmps13
    go_wp2_with (first | ((with_reducible refine gate_dst (N := 3) rfl ?_); refine box_event ?hg (N := 3) ?hd (cs := #[.int .i64 a1_0, .slice A1_1 l1_1.length c1_1]) (t := 37) ?hr ?_; (case hd => rfl); (case hg => rfl); (case hr => first | (go_simp; done) | (go_simp; rfl)); intro gb246 hg w32 hbox hb; have BK246 := Aside0.mk (hbox); have GW246 := Aside0.mk ((bsz hg : w.heap.size ≤ gb246)); have GE246 := Aside0.mk ((bsz hg : w.heap.size ≤ gb246)); replace HB := Aside0.mk (below_step bel hb); clear hb hbox hg) | ((with_reducible refine gate_callee (f := 26) rfl ?_); refine goesL_ (some 9) rfl rfl Tryd.func26 (by kernel_rfl) rfl #[.slice A0 l0.length c0] rfl ga ?_; (with_reducible refine (impl_FieldOk.calls k _ _ l0 false _ ?side1 ?side2 A3.out).mono ?_); (case side1 => exact ck (Kd.C_below HR0.out HB.out)); (case side2 => exact HC0.out); rintro e w33 ⟨rfl, hb⟩; refine ⟨_, rfl, ?_⟩; replace BK246 := Aside0.mk (bb BK246.out hb); replace HB := Aside0.mk (below_step bel hb); (try clear hb)))
    go_ret
    exact ⟨er, bel⟩

/-! ### laws_eqTeam: function 29 -/
def laws_eqTeam.f (a0_0 : ByteArray) (a0_1 : Int) (a0_2 : Int) (a1_0 : ByteArray) (a1_1 : Int) (a1_2 : Int) : Option (Bool) := if a0_0.toList = a1_0.toList then (if a0_1 = a1_1 then (if a0_2 = a1_2 then (some true) else (some false)) else (some false)) else (some false)
set_option maxHeartbeats 8000000 in
set_option maxRecDepth 100000 in
theorem laws_eqTeam.calls (a0_0 : ByteArray) (a0_1 : Int) (a0_2 : Int) (a1_0 : ByteArray) (a1_1 : Int) (a1_2 : Int) (r : Bool) (w : World) (h : laws_eqTeam.f a0_0 a0_1 a0_2 a1_0 a1_1 a1_2 = some r) :
    Calls Tryd.prog 29 #[.agg #[.string a0_0, .int .i64 a0_1, .int .i64 a0_2], .agg #[.string a1_0, .int .i64 a1_1, .int .i64 a1_2]] w fun e w' => e = .returned (.bool r) ∧ Below w.heap.size w w' := by
  have hu52 := Tryd.underlying52
  have HB := Aside0.mk (Below.refl w.heap.size w)
  have H : (if a0_0.toList = a1_0.toList then (if a0_1 = a1_1 then (if a0_2 = a1_2 then (some true) else (some false)) else (some false)) else (some false)) = some r := h
  clear h
  by_cases c3 : a0_0.toList = a1_0.toList
  · rw [if_pos c3] at H
    have c3b0 : (a0_0.toList == a1_0.toList) = true := beq_iff_eq.mpr c3
    have c3b1 : (a0_0.toList != a1_0.toList) = false := bne_eq_false_iff_eq.mpr c3
    clear c3
    by_cases c4 : a0_1 = a1_1
    · rw [if_pos c4] at H
      have c4b0 : (a0_1 == a1_1) = true := beq_iff_eq.mpr c4
      have c4b1 : (a0_1 != a1_1) = false := bne_eq_false_iff_eq.mpr c4
      clear c4
      by_cases c5 : a0_2 = a1_2
      · rw [if_pos c5] at H
        have c5b0 : (a0_2 == a1_2) = true := beq_iff_eq.mpr c5
        have c5b1 : (a0_2 != a1_2) = false := bne_eq_false_iff_eq.mpr c5
        clear c5
        obtain rfl := Option.some.inj H
        go_enter Tryd.func29, Tryd.ntmps29
        go_wp2_with (first | ((with_reducible refine gate_dst (N := 2) rfl ?_); refine box_event ?hg (N := 2) ?hd (cs := #[.string a0_0, .int .i64 a0_1, .int .i64 a0_2]) (t := 52) ?hr ?_; (case hd => rfl); (case hg => rfl); (case hr => first | (go_simp; done) | (go_simp; rfl)); intro gb263 hg w6 hbox hb; have BK263 := Aside0.mk (hbox); have GW263 := Aside0.mk ((bsz hg : w.heap.size ≤ gb263)); have GE263 := Aside0.mk ((bsz hg : w.heap.size ≤ gb263)); replace HB := Aside0.mk (below_step bel hb); clear hb hbox hg) | ((with_reducible refine gate_dst (N := 3) rfl ?_); refine box_event ?hg (N := 3) ?hd (cs := #[.string a1_0, .int .i64 a1_1, .int .i64 a1_2]) (t := 52) ?hr ?_; (case hd => rfl); (case hg => rfl); (case hr => first | (go_simp; done) | (go_simp; rfl)); intro gb264 hg w7 hbox hb; have BK264 := Aside0.mk (hbox); have GW264 := Aside0.mk ((bsz hg : w.heap.size ≤ gb264)); have GE264 := Aside0.mk ((bsz hg : w.heap.size ≤ gb264)); have NB263_264 := Aside0.mk ((nlt hg BK263.out : gb263 ≠ gb264)); have NB264_263 := Aside0.mk ((ngt hg BK263.out : gb264 ≠ gb263)); replace BK263 := Aside0.mk (bb BK263.out hb); replace HB := Aside0.mk (below_step bel hb); clear hb hbox hg; have hnb8 := NB263_264.out; have hnc8 := NB264_263.out; obtain ⟨hcz9_0, hcz9_1, hcz9_2, hfz9_0, hfz9_1, hfz9_2⟩ := cf3 BK263.out; obtain ⟨hcz10_0, hcz10_1, hcz10_2, hfz10_0, hfz10_1, hfz10_2⟩ := cf3 BK264.out))
        go_ret
        exact ⟨er, bel⟩
      · rw [if_neg c5] at H
        have c5b0 : (a0_2 == a1_2) = false := beq_eq_false_iff_ne.mpr c5
        have c5b1 : (a0_2 != a1_2) = true := bne_iff_ne.mpr c5
        obtain rfl := Option.some.inj H
        go_enter Tryd.func29, Tryd.ntmps29
        go_wp2_with (first | ((with_reducible refine gate_dst (N := 2) rfl ?_); refine box_event ?hg (N := 2) ?hd (cs := #[.string a0_0, .int .i64 a0_1, .int .i64 a0_2]) (t := 52) ?hr ?_; (case hd => rfl); (case hg => rfl); (case hr => first | (go_simp; done) | (go_simp; rfl)); intro gb263 hg w11 hbox hb; have BK263 := Aside0.mk (hbox); have GW263 := Aside0.mk ((bsz hg : w.heap.size ≤ gb263)); have GE263 := Aside0.mk ((bsz hg : w.heap.size ≤ gb263)); replace HB := Aside0.mk (below_step bel hb); clear hb hbox hg) | ((with_reducible refine gate_dst (N := 3) rfl ?_); refine box_event ?hg (N := 3) ?hd (cs := #[.string a1_0, .int .i64 a1_1, .int .i64 a1_2]) (t := 52) ?hr ?_; (case hd => rfl); (case hg => rfl); (case hr => first | (go_simp; done) | (go_simp; rfl)); intro gb264 hg w12 hbox hb; have BK264 := Aside0.mk (hbox); have GW264 := Aside0.mk ((bsz hg : w.heap.size ≤ gb264)); have GE264 := Aside0.mk ((bsz hg : w.heap.size ≤ gb264)); have NB263_264 := Aside0.mk ((nlt hg BK263.out : gb263 ≠ gb264)); have NB264_263 := Aside0.mk ((ngt hg BK263.out : gb264 ≠ gb263)); replace BK263 := Aside0.mk (bb BK263.out hb); replace HB := Aside0.mk (below_step bel hb); clear hb hbox hg; have hnb13 := NB263_264.out; have hnc13 := NB264_263.out; obtain ⟨hcz14_0, hcz14_1, hcz14_2, hfz14_0, hfz14_1, hfz14_2⟩ := cf3 BK263.out; obtain ⟨hcz15_0, hcz15_1, hcz15_2, hfz15_0, hfz15_1, hfz15_2⟩ := cf3 BK264.out))
        go_ret
        exact ⟨er, bel⟩
    · rw [if_neg c4] at H
      have c4b0 : (a0_1 == a1_1) = false := beq_eq_false_iff_ne.mpr c4
      have c4b1 : (a0_1 != a1_1) = true := bne_iff_ne.mpr c4
      obtain rfl := Option.some.inj H
      go_enter Tryd.func29, Tryd.ntmps29
      go_wp2_with (first | ((with_reducible refine gate_dst (N := 2) rfl ?_); refine box_event ?hg (N := 2) ?hd (cs := #[.string a0_0, .int .i64 a0_1, .int .i64 a0_2]) (t := 52) ?hr ?_; (case hd => rfl); (case hg => rfl); (case hr => first | (go_simp; done) | (go_simp; rfl)); intro gb263 hg w16 hbox hb; have BK263 := Aside0.mk (hbox); have GW263 := Aside0.mk ((bsz hg : w.heap.size ≤ gb263)); have GE263 := Aside0.mk ((bsz hg : w.heap.size ≤ gb263)); replace HB := Aside0.mk (below_step bel hb); clear hb hbox hg) | ((with_reducible refine gate_dst (N := 3) rfl ?_); refine box_event ?hg (N := 3) ?hd (cs := #[.string a1_0, .int .i64 a1_1, .int .i64 a1_2]) (t := 52) ?hr ?_; (case hd => rfl); (case hg => rfl); (case hr => first | (go_simp; done) | (go_simp; rfl)); intro gb264 hg w17 hbox hb; have BK264 := Aside0.mk (hbox); have GW264 := Aside0.mk ((bsz hg : w.heap.size ≤ gb264)); have GE264 := Aside0.mk ((bsz hg : w.heap.size ≤ gb264)); have NB263_264 := Aside0.mk ((nlt hg BK263.out : gb263 ≠ gb264)); have NB264_263 := Aside0.mk ((ngt hg BK263.out : gb264 ≠ gb263)); replace BK263 := Aside0.mk (bb BK263.out hb); replace HB := Aside0.mk (below_step bel hb); clear hb hbox hg; have hnb18 := NB263_264.out; have hnc18 := NB264_263.out; obtain ⟨hcz19_0, hcz19_1, hcz19_2, hfz19_0, hfz19_1, hfz19_2⟩ := cf3 BK263.out; obtain ⟨hcz20_0, hcz20_1, hcz20_2, hfz20_0, hfz20_1, hfz20_2⟩ := cf3 BK264.out))
      go_ret
      exact ⟨er, bel⟩
  · rw [if_neg c3] at H
    have c3b0 : (a0_0.toList == a1_0.toList) = false := beq_eq_false_iff_ne.mpr c3
    have c3b1 : (a0_0.toList != a1_0.toList) = true := bne_iff_ne.mpr c3
    obtain rfl := Option.some.inj H
    go_enter Tryd.func29, Tryd.ntmps29
    go_wp2_with (first | ((with_reducible refine gate_dst (N := 2) rfl ?_); refine box_event ?hg (N := 2) ?hd (cs := #[.string a0_0, .int .i64 a0_1, .int .i64 a0_2]) (t := 52) ?hr ?_; (case hd => rfl); (case hg => rfl); (case hr => first | (go_simp; done) | (go_simp; rfl)); intro gb263 hg w21 hbox hb; have BK263 := Aside0.mk (hbox); have GW263 := Aside0.mk ((bsz hg : w.heap.size ≤ gb263)); have GE263 := Aside0.mk ((bsz hg : w.heap.size ≤ gb263)); replace HB := Aside0.mk (below_step bel hb); clear hb hbox hg) | ((with_reducible refine gate_dst (N := 3) rfl ?_); refine box_event ?hg (N := 3) ?hd (cs := #[.string a1_0, .int .i64 a1_1, .int .i64 a1_2]) (t := 52) ?hr ?_; (case hd => rfl); (case hg => rfl); (case hr => first | (go_simp; done) | (go_simp; rfl)); intro gb264 hg w22 hbox hb; have BK264 := Aside0.mk (hbox); have GW264 := Aside0.mk ((bsz hg : w.heap.size ≤ gb264)); have GE264 := Aside0.mk ((bsz hg : w.heap.size ≤ gb264)); have NB263_264 := Aside0.mk ((nlt hg BK263.out : gb263 ≠ gb264)); have NB264_263 := Aside0.mk ((ngt hg BK263.out : gb264 ≠ gb263)); replace BK263 := Aside0.mk (bb BK263.out hb); replace HB := Aside0.mk (below_step bel hb); clear hb hbox hg; have hnb23 := NB263_264.out; have hnc23 := NB264_263.out; obtain ⟨hcz24_0, hcz24_1, hcz24_2, hfz24_0, hfz24_1, hfz24_2⟩ := cf3 BK263.out; obtain ⟨hcz25_0, hcz25_1, hcz25_2, hfz25_0, hfz25_1, hfz25_2⟩ := cf3 BK264.out))
    go_ret
    exact ⟨er, bel⟩

end Go.Proofs.YtmpealaejigbfaaDoor.R
