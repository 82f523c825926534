-- Written by a program of this session (wip/xp.py, over the kit's print) out of the translation: functions, and the walks that show them.
import Derived.Test.YtmpealaejigbfaaDoorR0
import Derived.Test.YtmpealaejigbfaaDoorR1
import Derived.Test.YtmpealaejigbfaaDoorR2
import Derived.Test.YtmpealaejigbfaaDoorR5
import Derived.Test.YtmpealaejigbfaaDoorR8
namespace Go.Proofs.YtmpealaejigbfaaDoor.R
open Go.RowKit Go.Proofs.YtmpealaejigbfaaDoorW.PrintWords Go.Proofs.YtmpealaejigbfaaDoorW.PrintLast Go.Proofs.YtmpealaejigbfaaDoorW.PrintMore
attribute [local go_sem] max2_int min2_int max_two min_two max_three min_three max_four min_four   -- for this text's walks alone
set_option linter.unusedVariables false
set_option linter.unusedSimpArgs false

/-! ### spec_SentLine: function 10 -/
def spec_SentLine.l0 : Nat → List (S52) → List ByteArray → List Int → Int → Int → Int → List Int → Option (ByteArray)
  | 0, _, _, _, _, _, _, _ => none
  | k + 1, x0, x5, x13, x14, x15, x187000, x187001 => if x15 < x14 then (if 0 ≤ x15 then (if x15 < (x13.length : Int) then ((spec_l01In.f (rd x13 x15) 0 (wrap64 ((x0.length : Int) - 1))).bind fun t194 => (if t194 = true then (if 0 ≤ (rd x13 x15) then (if (rd x13 x15) < (x0.length : Int) then (if x5.length < 8796093022208 then (spec_SentLine.l0 k x0 (x5 ++ [(rd_T52 x0 (rd x13 x15)).f0]) x13 x14 (wrap64 (x15 + 1)) x187000 x187001) else (none)) else (none)) else (none)) else ((spec_FormatInt.f k (rd x13 x15)).bind fun t199 => (if 1 + t199.size ≤ 9223372036854775807 then (if x5.length < 8796093022208 then (spec_SentLine.l0 k x0 (x5 ++ [(⟨#[35]⟩ : ByteArray) ++ t199]) x13 x14 (wrap64 (x15 + 1)) x187000 x187001) else (none)) else (none))))) else (none)) else (none)) else ((spec_FormatInt.f k x187000).bind fun t191 => (if t191.size + 2 ≤ 9223372036854775807 then ((spec_Join.f k x5 (⟨#[32]⟩ : ByteArray)).bind fun t192 => (if (t191 ++ (⟨#[58, 32]⟩ : ByteArray)).size + t192.size ≤ 9223372036854775807 then (some ((t191 ++ (⟨#[58, 32]⟩ : ByteArray)) ++ t192)) else (none))) else (none)))
def spec_SentLine.f (k : Nat) (l0 : List (S52)) (a1_0 : Int) (l1_1 : List Int) : Option (ByteArray) := (spec_FieldOk.f k l0).bind fun t187 => (if t187 = true then (spec_SentLine.l0 k l0 (([] : List ByteArray)) l1_1 (l1_1.length : Int) 0 a1_0 l1_1) else (some (⟨#[]⟩ : ByteArray)))
theorem spec_SentLine.mono_l : ∀ k, (∀ y0 y1 y2 y3 y4 y5 y6, LeO (spec_SentLine.l0 k y0 y1 y2 y3 y4 y5 y6) (spec_SentLine.l0 (k + 1) y0 y1 y2 y3 y4 y5 y6))
  | 0 => fun _ _ _ _ _ _ _ r h => by simp [spec_SentLine.l0] at h
  | k + 1 => by
    have ih0 := spec_SentLine.mono_l k
    · intro y0 y1 y2 y3 y4 y5 y6
      unfold spec_SentLine.l0
      repeat' first
      | (with_reducible exact ih0 _ _ _ _ _ _ _)
      | (with_reducible exact spec_FieldOk.mono _ _)
      | (with_reducible exact spec_FormatInt.mono _ _)
      | (with_reducible exact spec_Join.mono _ _ _)
      | (with_reducible exact LeO.refl _)
      | (with_reducible exact LeO.none _)
      | (with_reducible refine LeO.ite ?_ ?_)
      | (with_reducible refine LeO.bind ?_ (fun _ => ?_))
      | exact ih0 _ _ _ _ _ _ _
      | exact spec_FieldOk.mono _ _
      | exact spec_FormatInt.mono _ _
      | exact spec_Join.mono _ _ _
      | exact LeO.none _
      | refine LeO.ite ?_ ?_
      | refine LeO.bind ?_ (fun _ => ?_)
theorem spec_SentLine.mono : ∀ a0 a1 a2 k, LeO (spec_SentLine.f k a0 a1 a2) (spec_SentLine.f (k + 1) a0 a1 a2) := by
  intro a0 a1 a2 k
  have ih0 := spec_SentLine.mono_l k
  unfold spec_SentLine.f
  repeat' first
      | (with_reducible exact ih0 _ _ _ _ _ _ _)
      | (with_reducible exact spec_FieldOk.mono _ _)
      | (with_reducible exact spec_FormatInt.mono _ _)
      | (with_reducible exact spec_Join.mono _ _ _)
      | (with_reducible exact LeO.refl _)
      | (with_reducible exact LeO.none _)
      | (with_reducible refine LeO.ite ?_ ?_)
      | (with_reducible refine LeO.bind ?_ (fun _ => ?_))
      | exact ih0 _ _ _ _ _ _ _
      | exact spec_FieldOk.mono _ _
      | exact spec_FormatInt.mono _ _
      | exact spec_Join.mono _ _ _
      | exact LeO.none _
      | refine LeO.ite ?_ ?_
      | refine LeO.bind ?_ (fun _ => ?_)
set_option maxHeartbeats 8000000 in
set_option maxRecDepth 100000 in
theorem spec_SentLine.calls (k : Nat) (A0 : Option Addr) (c0 : Nat) (l0 : List (S52)) (a1_0 : Int) (A1_1 : Option Addr) (c1_1 : Nat) (l1_1 : List Int) (r : ByteArray) (w : World) (hr0 : Kd.C k52 w A0 l0.length l0) (hc0 : l0.length ≤ c0) (hr1_1 : Kd.C (Kd.int .i64) w A1_1 l1_1.length l1_1) (hc1_1 : l1_1.length ≤ c1_1) (h : spec_SentLine.f k l0 a1_0 l1_1 = some r) :
    Calls Tryd.prog 10 #[.slice A0 l0.length c0, .agg #[.int .i64 a1_0, .slice A1_1 l1_1.length c1_1]] w fun e w' => e = .returned (.string r) ∧ Below w.heap.size w w' := by
  have hu37 := Tryd.underlying37
  have HR0 := Aside0.mk hr0
  have HC0 := Aside0.mk hc0
  clear hr0 hc0
  have HR1_1 := Aside0.mk hr1_1
  have HC1_1 := Aside0.mk hc1_1
  clear hr1_1 hc1_1
  have HB := Aside0.mk (Below.refl w.heap.size w)
  have H : ((spec_FieldOk.f k l0).bind fun t187 => (if t187 = true then (spec_SentLine.l0 k l0 (([] : List ByteArray)) l1_1 (l1_1.length : Int) 0 a1_0 l1_1) else (some (⟨#[]⟩ : ByteArray)))) = some r := h
  clear h
  replace H := Option.bind_eq_some_iff.mp H
  obtain ⟨t187, A30, H⟩ := H
  replace H : (if t187 = true then (spec_SentLine.l0 k l0 (([] : List ByteArray)) l1_1 (l1_1.length : Int) 0 a1_0 l1_1) else (some (⟨#[]⟩ : ByteArray))) = some r := H
  have A3 := Aside0.mk A30
  clear A30
  by_cases c4 : t187 = true
  · subst c4
    have H1 : (spec_SentLine.l0 k l0 (([] : List ByteArray)) l1_1 (l1_1.length : Int) 0 a1_0 l1_1) = some r := by rw [if_pos rfl] at H; exact H
    clear H
    have H := H1
    clear H1
    obtain ⟨y188, hy188⟩ : ∃ y_ : List ByteArray, y_ = (([] : List ByteArray)) := ⟨_, rfl⟩
    replace H : (spec_SentLine.l0 k l0 y188 l1_1 (l1_1.length : Int) 0 a1_0 l1_1) = some r := by first | (rw [hy188]; with_reducible exact H) | (have H2_ := (Option.bind_some _ _).symm.trans H; rw [hy188]; with_reducible exact H2_) | (have H2_ := (Option.bind_some _ _).symm.trans H; with_reducible exact H2_) | with_reducible exact H | (rw [hy188]; exact H) | exact H
    have Ny188 := Aside0.mk hy188
    clear hy188
    have H' := Aside0.mk H
    clear H
    go_enter Tryd.func10, Tryd.ntmps10
    go_wp2_with (first | ((with_reducible refine gate_dst (N := 3) rfl ?_); refine box_event ?hg (N := 3) ?hd (cs := #[.int .i64 a1_0, .slice A1_1 l1_1.length c1_1]) (t := 37) ?hr ?_; (case hd => rfl); (case hg => rfl); (case hr => first | (go_simp; done) | (go_simp; rfl)); intro gb186 hg w5 hbox hb; have BK186 := Aside0.mk (hbox); have GW186 := Aside0.mk ((bsz hg : w.heap.size ≤ gb186)); have GE186 := Aside0.mk ((bsz hg : w.heap.size ≤ gb186)); replace HB := Aside0.mk (below_step bel hb); clear hb hbox hg) | ((with_reducible refine gate_callee (f := 22) rfl ?_); refine goesL_ (some 9) rfl rfl Tryd.func22 (by kernel_rfl) rfl #[.slice A0 l0.length c0] rfl ga ?_; (with_reducible refine (spec_FieldOk.calls k _ _ l0 true _ ?side1 ?side2 A3.out).mono ?_); (case side1 => exact ck (Kd.C_below HR0.out HB.out)); (case side2 => exact HC0.out); rintro e w6 ⟨rfl, hb⟩; refine ⟨_, rfl, ?_⟩; replace BK186 := Aside0.mk (bb BK186.out hb); replace HB := Aside0.mk (below_step bel hb); (try clear hb)) | ((with_reducible refine gate_dst (N := 11) rfl ?_); refine Kd.R_lit Kd.string _ 9 ?hg (N := 11) ?hd (xs := ([] : List ByteArray)) (inner := []) (ok := fun _ => True) (okp := fun _ => True) ?hr ?hp (fun _ hk => hk) trivial (Below.refl _ _) (Nat.le_refl _) (by simp) ?_; (case hd => rfl); (case hg => rfl); (case hr => first | (go_simp; done) | (go_simp; rfl)); (case hp => exact (Reps.none _ _)); intro v189 w7 ho8 hb hg_ hnew_; clear hg_ hnew_; (first | rw [← Ny188.out] at ho8 | (simp only [Int.reduceToNat] at ho8; rw [← Ny188.out] at ho8)); have HO190 := Aside0.mk (Kd.R_lower ho8 (below_size bel)); replace BK186 := Aside0.mk (bb BK186.out hb); replace HB := Aside0.mk (below_step bel hb); clear hb ho8; obtain ⟨hcz9_0, hcz9_1, hfz9_0, hfz9_1⟩ := cf2 BK186.out))
    go_loopg [5, 15] k (fun kq v5 v15 w' => ∃ (x5_1 : List ByteArray) (x15_1 : Int), v15 = .int .i64 x15_1 ∧ Aside0 (spec_SentLine.l0 kq l0 x5_1 l1_1 (l1_1.length : Int) x15_1 a1_0 l1_1 = some r) ∧ Aside0 (kq ≤ k) ∧ Aside0 (Kd.R Kd.string 9 w' w.heap.size (fun _ => True) v5 x5_1) ∧ Aside0 (w'.heap[gb186]? = some (.cells #[.int .i64 a1_0, (.slice A1_1 l1_1.length c1_1)] 37 (0, 0))) ∧ Aside0 (Below w.heap.size w w'))
    case atStart => exact ⟨(y188), (0), (es), H', ⟨Nat.le_refl _⟩, ⟨rk HO190.out⟩, ⟨bk BK186.out⟩, ⟨bel⟩⟩
    case round =>
      clear H'
      try clear c1; try clear c2; try clear p2; try clear c4; try clear hcz9_0; try clear hcz9_1; try clear hfz9_0; try clear hfz9_1
      obtain ⟨x5_1, x15_1, rfl, HA, HK1, HO_5, BK186, HB⟩ := hrel
      cases gk with
      | zero => exact absurd HA.out (by simp [spec_SentLine.l0])
      | succ k1 =>
        have H := HA.out
        clear HA
        simp only [spec_SentLine.l0] at H
        by_cases c10 : x15_1 < (l1_1.length : Int)
        · rw [if_pos c10] at H
          have c10b0 : decide (x15_1 < (l1_1.length : Int)) = true := decide_eq_true c10
          clear c10
          by_cases c11 : 0 ≤ x15_1
          · rw [if_pos c11] at H
            have c11b0 : decide (0 ≤ x15_1) = true := decide_eq_true c11
            clear c11
            by_cases c12 : x15_1 < (l1_1.length : Int)
            · rw [if_pos c12] at H
              have c12b0 : decide (x15_1 < (l1_1.length : Int)) = true := decide_eq_true c12
              clear c12
              replace H := Option.bind_eq_some_iff.mp H
              obtain ⟨t194, A130, H⟩ := H
              replace H : (if t194 = true then (if 0 ≤ (rd l1_1 x15_1) then (if (rd l1_1 x15_1) < (l0.length : Int) then (if x5_1.length < 8796093022208 then (spec_SentLine.l0 k1 l0 (x5_1 ++ [(rd_T52 l0 (rd l1_1 x15_1)).f0]) l1_1 (l1_1.length : Int) (wrap64 (x15_1 + 1)) a1_0 l1_1) else (none)) else (none)) else (none)) else ((spec_FormatInt.f k1 (rd l1_1 x15_1)).bind fun t199 => (if 1 + t199.size ≤ 9223372036854775807 then (if x5_1.length < 8796093022208 then (spec_SentLine.l0 k1 l0 (x5_1 ++ [(⟨#[35]⟩ : ByteArray) ++ t199]) l1_1 (l1_1.length : Int) (wrap64 (x15_1 + 1)) a1_0 l1_1) else (none)) else (none)))) = some r := H
              have A13 := Aside0.mk A130
              clear A130
              by_cases c14 : t194 = true
              · subst c14
                have H1 : (if 0 ≤ (rd l1_1 x15_1) then (if (rd l1_1 x15_1) < (l0.length : Int) then (if x5_1.length < 8796093022208 then (spec_SentLine.l0 k1 l0 (x5_1 ++ [(rd_T52 l0 (rd l1_1 x15_1)).f0]) l1_1 (l1_1.length : Int) (wrap64 (x15_1 + 1)) a1_0 l1_1) else (none)) else (none)) else (none)) = some r := by rw [if_pos rfl] at H; exact H
                clear H
                have H := H1
                clear H1
                by_cases c15 : 0 ≤ (rd l1_1 x15_1)
                · rw [if_pos c15] at H
                  have c15b0 : decide (0 ≤ (rd l1_1 x15_1)) = true := decide_eq_true c15
                  clear c15
                  by_cases c16 : (rd l1_1 x15_1) < (l0.length : Int)
                  · rw [if_pos c16] at H
                    have c16b0 : decide ((rd l1_1 x15_1) < (l0.length : Int)) = true := decide_eq_true c16
                    clear c16
                    by_cases c17 : x5_1.length < 8796093022208
                    · rw [if_pos c17] at H
                      have LMc17 := Aside0.mk c17
                      clear c17
                      obtain ⟨y196, hy196⟩ : ∃ y_ : List ByteArray, y_ = (x5_1 ++ [(rd_T52 l0 (rd l1_1 x15_1)).f0]) := ⟨_, rfl⟩
                      replace H : (spec_SentLine.l0 k1 l0 y196 l1_1 (l1_1.length : Int) (wrap64 (x15_1 + 1)) a1_0 l1_1) = some r := by first | (rw [hy196]; with_reducible exact H) | (have H2_ := (Option.bind_some _ _).symm.trans H; rw [hy196]; with_reducible exact H2_) | (have H2_ := (Option.bind_some _ _).symm.trans H; with_reducible exact H2_) | with_reducible exact H | (rw [hy196]; exact H) | exact H
                      have Ny196 := Aside0.mk hy196
                      clear hy196
                      have H' := Aside0.mk H
                      clear H
                      have p193 : 0 ≤ (x15_1 : Int) := asm
                      have q193 : x15_1 < (l1_1.length : Int) := asm
                      obtain ⟨ad193, e193, hx193_0⟩ := Kd.at_int HR1_1.out x15_1 p193 q193
                      cases e193
                      replace hx193_0 := hcl HB.out hx193_0
                      replace p193 := eq_true p193
                      replace q193 := eq_true q193
                      go_wp2_with (first | ((with_reducible refine gate_callee (f := 23) rfl ?_); refine goesL_ (some 23) rfl rfl Tryd.func23 (by kernel_rfl) rfl #[.int .i64 (rd l1_1 x15_1), .int .i64 0, .int .i64 (wrap64 ((l0.length : Int) - 1))] rfl ga ?_; (with_reducible refine (spec_l01In.calls (rd l1_1 x15_1) 0 (wrap64 ((l0.length : Int) - 1)) true _ A13.out).mono ?_); rintro e w' ⟨rfl, ⟨nd, rfl⟩⟩; refine ⟨_, rfl, ?_⟩; have p195 : 0 ≤ ((rd l1_1 x15_1) : Int) := asm; have q195 : (rd l1_1 x15_1) < (l0.length : Int) := asm; obtain ⟨ad195, e195, hx195_0, hx195_1, hx195_2⟩ := at_T52 HR0.out (rd l1_1 x15_1) p195 q195; cases e195; replace hx195_0 := hcl HB.out hx195_0; replace hx195_1 := hcl HB.out hx195_1; replace hx195_2 := hcl HB.out hx195_2; replace p195 := eq_true p195; replace q195 := eq_true q195) | ((with_reducible refine gate_builtin (b := .append) (xs := #[.tmp 24, .tmp 30]) rfl ?_); at_builtin; refine Kd.R_append Kd.string (w0 := w) w.heap.size rfl (.tmp 24) (.tmp 30) 42 9 (.string ⟨#[]⟩) 16 rfl Tryd.underlying42 info9 rfl (by decide) (by omega) u5 x5_1 ((rd_T52 l0 (rd l1_1 x15_1)).f0) [.string ((rd_T52 l0 (rd l1_1 x15_1)).f0)] (fun _ => True) (fun _ => False) rfl rfl ?aP (fun _ hk => hk.elim) ?aF ?aO ?aB ?aS ?aL ?_; (case aP => exact rfl); (case aB => exact bel); (case aF => exact (fun _ _ => trivial)); (case aO => exact (rk HO_5.out)); (case aS => exact (below_size bel)); (case aL => have := LMc17.out; omega); intro v197 w18 ho hb hg hat; rw [← Ny196.out] at ho; have n0_ := Aside0.mk (blk_grown (g := gb186) (o := .cells #[.int .i64 a1_0, .slice (some ad193) l1_1.length c1_1] 37 (0, 0)) (bk BK186.out) hg (Kd.R_ne HO_5.out BK186.out (by decide))); have n1_ := Aside0.mk (hb); have n2_ := Aside0.mk (ho); clear BK186; clear HB; clear HO_5; have BK186 := n0_; have HB := n1_; have HO198 := n2_; clear n0_ n1_ n2_; clear ho hb hg hat))
                      go_roundg k1
                      case measure => have := HK1.out; omega
                      case rel => exact ⟨(y196), (wrap64 (x15_1 + 1)), (es), H', ⟨by have := HK1.out; omega⟩, ⟨rk HO198.out⟩, ⟨bk BK186.out⟩, ⟨bel⟩⟩
                    · rw [if_neg c17] at H
                      exact absurd H (by simp)
                  · rw [if_neg c16] at H
                    exact absurd H (by simp)
                · rw [if_neg c15] at H
                  exact absurd H (by simp)
              · replace c14 := Bool.eq_false_iff.mpr c14
                subst c14
                have H1 : ((spec_FormatInt.f k1 (rd l1_1 x15_1)).bind fun t199 => (if 1 + t199.size ≤ 9223372036854775807 then (if x5_1.length < 8796093022208 then (spec_SentLine.l0 k1 l0 (x5_1 ++ [(⟨#[35]⟩ : ByteArray) ++ t199]) l1_1 (l1_1.length : Int) (wrap64 (x15_1 + 1)) a1_0 l1_1) else (none)) else (none))) = some r := by rw [if_neg (show ¬ (false = true) by decide)] at H; exact H
                clear H
                have H := H1
                clear H1
                replace H := Option.bind_eq_some_iff.mp H
                obtain ⟨t199, A190, H⟩ := H
                replace H : (if 1 + t199.size ≤ 9223372036854775807 then (if x5_1.length < 8796093022208 then (spec_SentLine.l0 k1 l0 (x5_1 ++ [(⟨#[35]⟩ : ByteArray) ++ t199]) l1_1 (l1_1.length : Int) (wrap64 (x15_1 + 1)) a1_0 l1_1) else (none)) else (none)) = some r := H
                have A19 := Aside0.mk A190
                clear A190
                by_cases c20 : 1 + t199.size ≤ 9223372036854775807
                · rw [if_pos c20] at H
                  have c20b0 := eq_true c20
                  have c20b1 : decide (1 + t199.size ≤ 9223372036854775807) = true := decide_eq_true c20
                  try have c20b2 : (9223372036854775807 < 1 + t199.size) = False := eq_false (Nat.not_lt.2 c20)
                  by_cases c21 : x5_1.length < 8796093022208
                  · rw [if_pos c21] at H
                    have LMc21 := Aside0.mk c21
                    clear c21
                    obtain ⟨y200, hy200⟩ : ∃ y_ : List ByteArray, y_ = (x5_1 ++ [(⟨#[35]⟩ : ByteArray) ++ t199]) := ⟨_, rfl⟩
                    replace H : (spec_SentLine.l0 k1 l0 y200 l1_1 (l1_1.length : Int) (wrap64 (x15_1 + 1)) a1_0 l1_1) = some r := by first | (rw [hy200]; with_reducible exact H) | (have H2_ := (Option.bind_some _ _).symm.trans H; rw [hy200]; with_reducible exact H2_) | (have H2_ := (Option.bind_some _ _).symm.trans H; with_reducible exact H2_) | with_reducible exact H | (rw [hy200]; exact H) | exact H
                    have Ny200 := Aside0.mk hy200
                    clear hy200
                    have H' := Aside0.mk H
                    clear H
                    have p193 : 0 ≤ (x15_1 : Int) := asm
                    have q193 : x15_1 < (l1_1.length : Int) := asm
                    obtain ⟨ad193, e193, hx193_0⟩ := Kd.at_int HR1_1.out x15_1 p193 q193
                    cases e193
                    replace hx193_0 := hcl HB.out hx193_0
                    replace p193 := eq_true p193
                    replace q193 := eq_true q193
                    go_wp2_with (first | ((with_reducible refine gate_callee (f := 23) rfl ?_); refine goesL_ (some 23) rfl rfl Tryd.func23 (by kernel_rfl) rfl #[.int .i64 (rd l1_1 x15_1), .int .i64 0, .int .i64 (wrap64 ((l0.length : Int) - 1))] rfl ga ?_; (with_reducible refine (spec_l01In.calls (rd l1_1 x15_1) 0 (wrap64 ((l0.length : Int) - 1)) false _ A13.out).mono ?_); rintro e w' ⟨rfl, ⟨nd, rfl⟩⟩; refine ⟨_, rfl, ?_⟩) | ((with_reducible refine gate_callee (f := 16) rfl ?_); refine goesL_ (some 34) rfl rfl Tryd.func16 (by kernel_rfl) rfl #[.int .i64 (rd l1_1 x15_1)] rfl ga ?_; (with_reducible refine (spec_FormatInt.calls k1 (rd l1_1 x15_1) t199 _ A19.out).mono ?_); rintro e w22 ⟨rfl, hb⟩; refine ⟨_, rfl, ?_⟩; replace HO_5 := Aside0.mk (Kd.R_below (rk HO_5.out) hb); replace BK186 := Aside0.mk (bb BK186.out hb); replace HB := Aside0.mk (below_step bel hb); (try clear hb)) | ((with_reducible refine gate_builtin (b := .append) (xs := #[.tmp 32, .tmp 36]) rfl ?_); at_builtin; refine Kd.R_append Kd.string (w0 := w) w.heap.size rfl (.tmp 32) (.tmp 36) 42 9 (.string ⟨#[]⟩) 16 rfl Tryd.underlying42 info9 rfl (by decide) (by omega) u5 x5_1 ((⟨#[35]⟩ : ByteArray) ++ t199) [.string ((⟨#[35]⟩ : ByteArray) ++ t199)] (fun _ => True) (fun _ => False) rfl rfl ?aP (fun _ hk => hk.elim) ?aF ?aO ?aB ?aS ?aL ?_; (case aP => exact rfl); (case aB => exact bel); (case aF => exact (fun _ _ => trivial)); (case aO => exact (rk HO_5.out)); (case aS => exact (below_size bel)); (case aL => have := LMc21.out; omega); intro v201 w23 ho hb hg hat; rw [← Ny200.out] at ho; have n0_ := Aside0.mk (blk_grown (g := gb186) (o := .cells #[.int .i64 a1_0, .slice (some ad193) l1_1.length c1_1] 37 (0, 0)) (bk BK186.out) hg (Kd.R_ne HO_5.out BK186.out (by decide))); have n1_ := Aside0.mk (hb); have n2_ := Aside0.mk (ho); clear BK186; clear HB; clear HO_5; have BK186 := n0_; have HB := n1_; have HO202 := n2_; clear n0_ n1_ n2_; clear ho hb hg hat))
                    go_roundg k1
                    case measure => have := HK1.out; omega
                    case rel => exact ⟨(y200), (wrap64 (x15_1 + 1)), (es), H', ⟨by have := HK1.out; omega⟩, ⟨rk HO202.out⟩, ⟨bk BK186.out⟩, ⟨bel⟩⟩
                  · rw [if_neg c21] at H
                    exact absurd H (by simp)
                · rw [if_neg c20] at H
                  exact absurd H (by simp)
            · rw [if_neg c12] at H
              exact absurd H (by simp)
          · rw [if_neg c11] at H
            exact absurd H (by simp)
        · rw [if_neg c10] at H
          have c10b0 : decide (x15_1 < (l1_1.length : Int)) = false := decide_eq_false c10
          clear c10
          replace H := Option.bind_eq_some_iff.mp H
          obtain ⟨t191, A240, H⟩ := H
          replace H : (if t191.size + 2 ≤ 9223372036854775807 then ((spec_Join.f k1 x5_1 (⟨#[32]⟩ : ByteArray)).bind fun t192 => (if (t191 ++ (⟨#[58, 32]⟩ : ByteArray)).size + t192.size ≤ 9223372036854775807 then (some ((t191 ++ (⟨#[58, 32]⟩ : ByteArray)) ++ t192)) else (none))) else (none)) = some r := H
          have A24 := Aside0.mk A240
          clear A240
          by_cases c25 : t191.size + 2 ≤ 9223372036854775807
          · rw [if_pos c25] at H
            have c25b0 := eq_true c25
            have c25b1 : decide (t191.size + 2 ≤ 9223372036854775807) = true := decide_eq_true c25
            try have c25b2 : (9223372036854775807 < t191.size + 2) = False := eq_false (Nat.not_lt.2 c25)
            replace H := Option.bind_eq_some_iff.mp H
            obtain ⟨t192, A260, H⟩ := H
            replace H : (if (t191 ++ (⟨#[58, 32]⟩ : ByteArray)).size + t192.size ≤ 9223372036854775807 then (some ((t191 ++ (⟨#[58, 32]⟩ : ByteArray)) ++ t192)) else (none)) = some r := H
            have A26 := Aside0.mk A260
            clear A260
            by_cases c27 : (t191 ++ (⟨#[58, 32]⟩ : ByteArray)).size + t192.size ≤ 9223372036854775807
            · rw [if_pos c27] at H
              have c27b0 := eq_true c27
              have c27b1 : decide ((t191 ++ (⟨#[58, 32]⟩ : ByteArray)).size + t192.size ≤ 9223372036854775807) = true := decide_eq_true c27
              try have c27b2 : (9223372036854775807 < (t191 ++ (⟨#[58, 32]⟩ : ByteArray)).size + t192.size) = False := eq_false (Nat.not_lt.2 c27)
              have c27b3 : (9223372036854775807 < t191.size + 2 + t192.size) = False := eq_false (by have h_ := Nat.not_lt.2 c27; have e_ : (t191 ++ (⟨#[58, 32]⟩ : ByteArray)).size = t191.size + 2 := (by rw [ByteArray.size_append]; rfl); omega)
              obtain rfl := Option.some.inj H
              obtain ⟨hcz28_0, hcz28_1, hfz28_0, hfz28_1⟩ := cf2 BK186.out
              go_wp2_with (first | ((with_reducible refine gate_callee (f := 16) rfl ?_); refine goesL_ (some 41) rfl rfl Tryd.func16 (by kernel_rfl) rfl #[.int .i64 a1_0] rfl ga ?_; (with_reducible refine (spec_FormatInt.calls k1 a1_0 t191 _ A24.out).mono ?_); rintro e w29 ⟨rfl, hb⟩; refine ⟨_, rfl, ?_⟩; replace HO_5 := Aside0.mk (Kd.R_below (rk HO_5.out) hb); replace BK186 := Aside0.mk (bb BK186.out hb); replace HB := Aside0.mk (below_step bel hb); (try clear hb); obtain ⟨Ao30, co30, eo30⟩ := Kd.R_slice HO_5.out; subst eo30) | ((with_reducible refine gate_callee (f := 17) rfl ?_); refine goesL_ (some 44) rfl rfl Tryd.func17 (by kernel_rfl) rfl #[.slice Ao30 x5_1.length co30, .string (⟨#[32]⟩ : ByteArray)] rfl ga ?_; (with_reducible refine (spec_Join.calls k1 _ _ x5_1 (⟨#[32]⟩ : ByteArray) t192 _ ?side1 ?side2 A26.out).mono ?_); (case side1 => exact ck (Kd.R_reads' HO_5.out).2.2); (case side2 => exact (Kd.R_reads' HO_5.out).2.1); rintro e w' ⟨rfl, ⟨nd, rfl⟩⟩; refine ⟨_, rfl, ?_⟩))
              go_ret
              exact ⟨er, bel⟩
            · rw [if_neg c27] at H
              exact absurd H (by simp)
          · rw [if_neg c25] at H
            exact absurd H (by simp)
  · replace c4 := Bool.eq_false_iff.mpr c4
    subst c4
    have H1 : (some (⟨#[]⟩ : ByteArray)) = some r := by rw [if_neg (show ¬ (false = true) by decide)] at H; exact H
    clear H
    have H := H1
    clear H1
    obtain rfl := Option.some.inj H
    go_enter Tryd.func10, Tryd.ntmps10
    go_wp2_with (first | ((with_reducible refine gate_dst (N := 3) rfl ?_); refine box_event ?hg (N := 3) ?hd (cs := #[.int .i64 a1_0, .slice A1_1 l1_1.length c1_1]) (t := 37) ?hr ?_; (case hd => rfl); (case hg => rfl); (case hr => first | (go_simp; done) | (go_simp; rfl)); intro gb186 hg w31 hbox hb; have BK186 := Aside0.mk (hbox); have GW186 := Aside0.mk ((bsz hg : w.heap.size ≤ gb186)); have GE186 := Aside0.mk ((bsz hg : w.heap.size ≤ gb186)); replace HB := Aside0.mk (below_step bel hb); clear hb hbox hg) | ((with_reducible refine gate_callee (f := 22) rfl ?_); refine goesL_ (some 9) rfl rfl Tryd.func22 (by kernel_rfl) rfl #[.slice A0 l0.length c0] rfl ga ?_; (with_reducible refine (spec_FieldOk.calls k _ _ l0 false _ ?side1 ?side2 A3.out).mono ?_); (case side1 => exact ck (Kd.C_below HR0.out HB.out)); (case side2 => exact HC0.out); rintro e w32 ⟨rfl, hb⟩; refine ⟨_, rfl, ?_⟩; replace BK186 := Aside0.mk (bb BK186.out hb); replace HB := Aside0.mk (below_step bel hb); (try clear hb)))
    go_ret
    exact ⟨er, bel⟩

/-! ### laws_toTeam: function 24 -/
def laws_toTeam.f (a0_0 : ByteArray) (a0_1 : Int) (a0_2 : Int) : Option (ByteArray × Int × Int) := some (a0_0, a0_1, a0_2)
set_option maxHeartbeats 8000000 in
set_option maxRecDepth 100000 in
theorem laws_toTeam.calls (a0_0 : ByteArray) (a0_1 : Int) (a0_2 : Int) (r1 : ByteArray) (r2 : Int) (r3 : Int) (w : World) (h : laws_toTeam.f a0_0 a0_1 a0_2 = some (r1, r2, r3)) :
    Calls Tryd.prog 24 #[.agg #[.string a0_0, .int .i64 a0_1, .int .i64 a0_2]] w fun e w' => e = .returned (.agg #[.string r1, .int .i64 r2, .int .i64 r3]) ∧ Below w.heap.size w w' := by
  have hu48 := Tryd.underlying48
  have hu52 := Tryd.underlying52
  have HB := Aside0.mk (Below.refl w.heap.size w)
  have H : (some (a0_0, a0_1, a0_2)) = some (r1, r2, r3) := h
  clear h
  simp only [Option.some.injEq, Prod.mk.injEq] at H
  obtain ⟨rfl, rfl, rfl⟩ := H
  go_enter Tryd.func24, Tryd.ntmps24
  go_wp2_with (first | ((with_reducible refine gate_dst (N := 1) rfl ?_); refine box_event ?hg (N := 1) ?hd (cs := #[.string a0_0, .int .i64 a0_1, .int .i64 a0_2]) (t := 48) ?hr ?_; (case hd => rfl); (case hg => rfl); (case hr => first | (go_simp; done) | (go_simp; rfl)); intro gb203 hg w2 hbox hb; have BK203 := Aside0.mk (hbox); have GW203 := Aside0.mk ((bsz hg : w.heap.size ≤ gb203)); have GE203 := Aside0.mk ((bsz hg : w.heap.size ≤ gb203)); replace HB := Aside0.mk (below_step bel hb); clear hb hbox hg) | ((with_reducible refine gate_dst (N := 2) rfl ?_); refine box_event ?hg (N := 2) ?hd (cs := #[.string (⟨#[]⟩ : ByteArray), .int .i64 0, .int .i64 0]) (t := 52) ?hr ?_; (case hd => rfl); (case hg => rfl); (case hr => first | (go_simp; done) | (go_simp; rfl)); intro gb204 hg w3 hbox hb; have BK204 := Aside0.mk (hbox); have GW204 := Aside0.mk ((bsz hg : w.heap.size ≤ gb204)); have GE204 := Aside0.mk ((bsz hg : w.heap.size ≤ gb204)); have NB203_204 := Aside0.mk ((nlt hg BK203.out : gb203 ≠ gb204)); have NB204_203 := Aside0.mk ((ngt hg BK203.out : gb204 ≠ gb203)); replace BK203 := Aside0.mk (bb BK203.out hb); replace HB := Aside0.mk (below_step bel hb); clear hb hbox hg) | ((with_reducible refine gate_dst (N := 3) rfl ?_); refine box_event ?hg (N := 3) ?hd (cs := #[.string (⟨#[]⟩ : ByteArray), .int .i64 0, .int .i64 0]) (t := 52) ?hr ?_; (case hd => rfl); (case hg => rfl); (case hr => first | (go_simp; done) | (go_simp; rfl)); intro gb205 hg w4 hbox hb; have BK205 := Aside0.mk (hbox); have GW205 := Aside0.mk ((bsz hg : w.heap.size ≤ gb205)); have GE205 := Aside0.mk ((bsz hg : w.heap.size ≤ gb205)); have NB203_205 := Aside0.mk ((nlt hg BK203.out : gb203 ≠ gb205)); have NB205_203 := Aside0.mk ((ngt hg BK203.out : gb205 ≠ gb203)); have NB204_205 := Aside0.mk ((nlt hg BK204.out : gb204 ≠ gb205)); have NB205_204 := Aside0.mk ((ngt hg BK204.out : gb205 ≠ gb204)); replace BK203 := Aside0.mk (bb BK203.out hb); replace BK204 := Aside0.mk (bb BK204.out hb); replace HB := Aside0.mk (below_step bel hb); clear hb hbox hg; have hnb5 := NB203_204.out; have hnc5 := NB204_203.out; have hnb6 := NB203_205.out; have hnc6 := NB205_203.out; obtain ⟨hcz7_0, hcz7_1, hcz7_2, hfz7_0, hfz7_1, hfz7_2⟩ := cf3 BK203.out; have hnb8 := NB205_204.out; have hnc8 := NB204_205.out; obtain ⟨hcz9_0, hcz9_1, hcz9_2, hfz9_0, hfz9_1, hfz9_2⟩ := cf3 BK205.out; obtain ⟨hcz10_0, hcz10_1, hcz10_2, hfz10_0, hfz10_1, hfz10_2⟩ := cf3 BK204.out))
  refine bodyPost_ret (results_cell_row rfl _ _ gb204 52 #[.string a0_0, .int .i64 a0_1, .int .i64 a0_2] (0, 0) _ rfl (by (with_reducible repeat (first | refine blk_drewN ?_ _ | refine blk_drew ?_ | refine blk_alloc ?_ _)); refine blk_put (cs := #[.string a0_0, .int .i64 a0_1, .int .i64 0]) ?_ 2 _ rfl; (with_reducible repeat (first | refine blk_drewN ?_ _ | refine blk_drew ?_ | refine blk_alloc ?_ _)); refine blk_put (cs := #[.string a0_0, .int .i64 0, .int .i64 0]) ?_ 1 _ rfl; (with_reducible repeat (first | refine blk_drewN ?_ _ | refine blk_drew ?_ | refine blk_alloc ?_ _)); refine blk_put (cs := #[.string (⟨#[]⟩ : ByteArray), .int .i64 0, .int .i64 0]) ?_ 0 _ rfl; (with_reducible repeat (first | refine blk_drewN ?_ _ | refine blk_drew ?_ | refine blk_alloc ?_ _)); refine blk_far ?_ NB204_205.out _; (with_reducible repeat (first | refine blk_drewN ?_ _ | refine blk_drew ?_ | refine blk_alloc ?_ _)); refine blk_far ?_ NB204_205.out _; (with_reducible repeat (first | refine blk_drewN ?_ _ | refine blk_drew ?_ | refine blk_alloc ?_ _)); refine blk_far ?_ NB204_205.out _; (with_reducible repeat (first | refine blk_drewN ?_ _ | refine blk_drew ?_ | refine blk_alloc ?_ _)); exact BK204.out) Tryd.underlying52 rfl (by kernel_rfl)) rfl ?_
  exact ⟨er, bel⟩

end Go.Proofs.YtmpealaejigbfaaDoor.R
