-- Written by a program of this session (wip/xp.py, over the kit's print) out of the translation: functions, and the walks that show them.
import Derived.Test.YtmpealaejigbfaaDoorR0
import Derived.Test.YtmpealaejigbfaaDoorR5
import Derived.Test.YtmpealaejigbfaaDoorR7
namespace Go.Proofs.YtmpealaejigbfaaDoor.R
open Go.RowKit Go.Proofs.YtmpealaejigbfaaDoorW.PrintWords Go.Proofs.YtmpealaejigbfaaDoorW.PrintLast Go.Proofs.YtmpealaejigbfaaDoorW.PrintMore
attribute [local go_sem] max2_int min2_int max_two min_two max_three min_three max_four min_four   -- for this text's walks alone
set_option linter.unusedVariables false
set_option linter.unusedSimpArgs false

/-! ### spec_FieldOk: function 22 -/
mutual
def spec_FieldOk.l0 : Nat → List (S52) → List (S52) → Int → Int → Option (Bool)
  | 0, _, _, _, _ => none
  | k + 1, x0, x11, x12, x13 => if x13 < x12 then (if 0 ≤ x13 then (if x13 < (x11.length : Int) then ((spec_TeamOk.f k ((rd_T52 x11 x13).f0) ((rd_T52 x11 x13).f1) ((rd_T52 x11 x13).f2)).bind fun t179 => (if t179 = true then (if x13 ≤ (x0.length : Int) then ((some (x0.take (x13 : Int).toNat : List (S52))).bind fun y180 => (spec_FieldOk.l1 k x0 x11 x12 x13 y180 (y180.length : Int) 0 ((rd_T52 x11 x13).f0) ((rd_T52 x11 x13).f1) ((rd_T52 x11 x13).f2))) else (none)) else (some false))) else (none)) else (none)) else (some true)
def spec_FieldOk.l1 : Nat → List (S52) → List (S52) → Int → Int → List (S52) → Int → Int → ByteArray → Int → Int → Option (Bool)
  | 0, _, _, _, _, _, _, _, _, _, _ => none
  | k + 1, x0, x11, x12, x13, x23, x24, x25, x179000, x179001, x179002 => if x25 < x24 then (if 0 ≤ x25 then (if x25 < (x23.length : Int) then (if ((rd_T52 x23 x25).f0).toList = x179000.toList then (some false) else (if ((rd_T52 x23 x25).f2) = x179002 then (some false) else (spec_FieldOk.l1 k x0 x11 x12 x13 x23 x24 (wrap64 (x25 + 1)) x179000 x179001 x179002))) else (none)) else (none)) else (spec_FieldOk.l0 k x0 x11 x12 (wrap64 (x13 + 1)))
end
def spec_FieldOk.f (k : Nat) (l0 : List (S52)) : Option (Bool) := (spec_l01In.f (l0.length : Int) 2 8).bind fun t176 => (if t176 = true then (spec_FieldOk.l0 k l0 l0 (l0.length : Int) 0) else (some false))
theorem spec_FieldOk.mono_l : ∀ k, (∀ y0 y1 y2 y3, LeO (spec_FieldOk.l0 k y0 y1 y2 y3) (spec_FieldOk.l0 (k + 1) y0 y1 y2 y3)) ∧ (∀ y0 y1 y2 y3 y4 y5 y6 y7 y8 y9, LeO (spec_FieldOk.l1 k y0 y1 y2 y3 y4 y5 y6 y7 y8 y9) (spec_FieldOk.l1 (k + 1) y0 y1 y2 y3 y4 y5 y6 y7 y8 y9))
  | 0 => ⟨fun _ _ _ _ r h => by simp [spec_FieldOk.l0] at h, fun _ _ _ _ _ _ _ _ _ _ r h => by simp [spec_FieldOk.l1] at h⟩
  | k + 1 => by
    obtain ⟨ih0, ih1⟩ := spec_FieldOk.mono_l k
    refine ⟨?_, ?_⟩
    · intro y0 y1 y2 y3
      unfold spec_FieldOk.l0
      repeat' first
      | (with_reducible exact ih0 _ _ _ _)
      | (with_reducible exact ih1 _ _ _ _ _ _ _ _ _ _)
      | (with_reducible exact spec_TeamOk.mono _ _ _ _)
      | (with_reducible exact LeO.refl _)
      | (with_reducible exact LeO.none _)
      | (with_reducible refine LeO.ite ?_ ?_)
      | (with_reducible refine LeO.bind ?_ (fun _ => ?_))
      | exact ih0 _ _ _ _
      | exact ih1 _ _ _ _ _ _ _ _ _ _
      | exact spec_TeamOk.mono _ _ _ _
      | exact LeO.none _
      | refine LeO.ite ?_ ?_
      | refine LeO.bind ?_ (fun _ => ?_)
    · intro y0 y1 y2 y3 y4 y5 y6 y7 y8 y9
      unfold spec_FieldOk.l1
      repeat' first
      | (with_reducible exact ih0 _ _ _ _)
      | (with_reducible exact ih1 _ _ _ _ _ _ _ _ _ _)
      | (with_reducible exact spec_TeamOk.mono _ _ _ _)
      | (with_reducible exact LeO.refl _)
      | (with_reducible exact LeO.none _)
      | (with_reducible refine LeO.ite ?_ ?_)
      | (with_reducible refine LeO.bind ?_ (fun _ => ?_))
      | exact ih0 _ _ _ _
      | exact ih1 _ _ _ _ _ _ _ _ _ _
      | exact spec_TeamOk.mono _ _ _ _
      | exact LeO.none _
      | refine LeO.ite ?_ ?_
      | refine LeO.bind ?_ (fun _ => ?_)
theorem spec_FieldOk.mono : ∀ a0 k, LeO (spec_FieldOk.f k a0) (spec_FieldOk.f (k + 1) a0) := by
  intro a0 k
  obtain ⟨ih0, ih1⟩ := spec_FieldOk.mono_l k
  unfold spec_FieldOk.f
  repeat' first
      | (with_reducible exact ih0 _ _ _ _)
      | (with_reducible exact ih1 _ _ _ _ _ _ _ _ _ _)
      | (with_reducible exact spec_TeamOk.mono _ _ _ _)
      | (with_reducible exact LeO.refl _)
      | (with_reducible exact LeO.none _)
      | (with_reducible refine LeO.ite ?_ ?_)
      | (with_reducible refine LeO.bind ?_ (fun _ => ?_))
      | exact ih0 _ _ _ _
      | exact ih1 _ _ _ _ _ _ _ _ _ _
      | exact spec_TeamOk.mono _ _ _ _
      | exact LeO.none _
      | refine LeO.ite ?_ ?_
      | refine LeO.bind ?_ (fun _ => ?_)
set_option maxHeartbeats 8000000 in
set_option maxRecDepth 100000 in
theorem spec_FieldOk.calls (k : Nat) (A0 : Option Addr) (c0 : Nat) (l0 : List (S52)) (r : Bool) (w : World) (hr0 : Kd.C k52 w A0 l0.length l0) (hc0 : l0.length ≤ c0) (h : spec_FieldOk.f k l0 = some r) :
    Calls Tryd.prog 22 #[.slice A0 l0.length c0] w fun e w' => e = .returned (.bool r) ∧ Below w.heap.size w w' := by
  have hu52 := Tryd.underlying52
  have HR0 := Aside0.mk hr0
  have HC0 := Aside0.mk hc0
  clear hr0 hc0
  have HB := Aside0.mk (Below.refl w.heap.size w)
  have H : ((spec_l01In.f (l0.length : Int) 2 8).bind fun t176 => (if t176 = true then (spec_FieldOk.l0 k l0 l0 (l0.length : Int) 0) else (some false))) = some r := h
  clear h
  replace H := Option.bind_eq_some_iff.mp H
  obtain ⟨t176, A20, H⟩ := H
  replace H : (if t176 = true then (spec_FieldOk.l0 k l0 l0 (l0.length : Int) 0) else (some false)) = some r := H
  have A2 := Aside0.mk A20
  clear A20
  by_cases c3 : t176 = true
  · subst c3
    have H1 : (spec_FieldOk.l0 k l0 l0 (l0.length : Int) 0) = some r := by rw [if_pos rfl] at H; exact H
    clear H
    have H := H1
    clear H1
    have H' := Aside0.mk H
    clear H
    go_enter Tryd.func22, Tryd.ntmps22
    go_wp2_with (first | ((with_reducible refine gate_callee (f := 23) rfl ?_); refine goesL_ (some 9) rfl rfl Tryd.func23 (by kernel_rfl) rfl #[.int .i64 (l0.length : Int), .int .i64 2, .int .i64 8] rfl ga ?_; (with_reducible refine (spec_l01In.calls (l0.length : Int) 2 8 true _ A2.out).mono ?_); rintro e w' ⟨rfl, ⟨nd, rfl⟩⟩; refine ⟨_, rfl, ?_⟩))
    go_loopg [13] k (fun kq v13 w' => ∃ (x13_1 : Int), v13 = .int .i64 x13_1 ∧ Aside0 (spec_FieldOk.l0 kq l0 l0 (l0.length : Int) x13_1 = some r) ∧ Aside0 (kq ≤ k) ∧ Aside0 (Below w.heap.size w w'))
    case atStart => exact ⟨(0), (es), H', ⟨Nat.le_refl _⟩, ⟨bel⟩⟩
    case round =>
      clear H'
      try clear c2; try clear p2; try clear c3
      obtain ⟨x13_1, rfl, HA, HK1, HB⟩ := hrel
      cases gk with
      | zero => exact absurd HA.out (by simp [spec_FieldOk.l0])
      | succ k1 =>
        have H := HA.out
        clear HA
        simp only [spec_FieldOk.l0] at H
        by_cases c4 : x13_1 < (l0.length : Int)
        · rw [if_pos c4] at H
          have c4b0 : decide (x13_1 < (l0.length : Int)) = true := decide_eq_true c4
          clear c4
          by_cases c5 : 0 ≤ x13_1
          · rw [if_pos c5] at H
            have c5b0 : decide (0 ≤ x13_1) = true := decide_eq_true c5
            clear c5
            by_cases c6 : x13_1 < (l0.length : Int)
            · rw [if_pos c6] at H
              have c6b0 : decide (x13_1 < (l0.length : Int)) = true := decide_eq_true c6
              clear c6
              replace H := Option.bind_eq_some_iff.mp H
              obtain ⟨t179, A70, H⟩ := H
              replace H : (if t179 = true then (if x13_1 ≤ (l0.length : Int) then ((some (l0.take (x13_1 : Int).toNat : List (S52))).bind fun y180 => (spec_FieldOk.l1 k1 l0 l0 (l0.length : Int) x13_1 y180 (y180.length : Int) 0 ((rd_T52 l0 x13_1).f0) ((rd_T52 l0 x13_1).f1) ((rd_T52 l0 x13_1).f2))) else (none)) else (some false)) = some r := H
              have A7 := Aside0.mk A70
              clear A70
              by_cases c8 : t179 = true
              · subst c8
                have H1 : (if x13_1 ≤ (l0.length : Int) then ((some (l0.take (x13_1 : Int).toNat : List (S52))).bind fun y180 => (spec_FieldOk.l1 k1 l0 l0 (l0.length : Int) x13_1 y180 (y180.length : Int) 0 ((rd_T52 l0 x13_1).f0) ((rd_T52 l0 x13_1).f1) ((rd_T52 l0 x13_1).f2))) else (none)) = some r := by rw [if_pos rfl] at H; exact H
                clear H
                have H := H1
                clear H1
                have c9b0 := eq_true (asm : 0 ≤ x13_1)
                by_cases c10 : x13_1 ≤ (l0.length : Int)
                · rw [if_pos c10] at H
                  have c10b0 := eq_true c10
                  have c10b1 : decide (x13_1 ≤ (l0.length : Int)) = true := decide_eq_true c10
                  clear c10
                  obtain ⟨y180, hy180⟩ : ∃ y_ : List (S52), y_ = (l0.take (x13_1 : Int).toNat) := ⟨_, rfl⟩
                  replace H : (spec_FieldOk.l1 k1 l0 l0 (l0.length : Int) x13_1 y180 (y180.length : Int) 0 ((rd_T52 l0 x13_1).f0) ((rd_T52 l0 x13_1).f1) ((rd_T52 l0 x13_1).f2)) = some r := by first | (rw [hy180]; with_reducible exact H) | (have H2_ := (Option.bind_some _ _).symm.trans H; rw [hy180]; with_reducible exact H2_) | (have H2_ := (Option.bind_some _ _).symm.trans H; with_reducible exact H2_) | with_reducible exact H | (rw [hy180]; exact H) | exact H
                  have Ny180 := Aside0.mk hy180
                  clear hy180
                  have H' := Aside0.mk H
                  clear H
                  have p177 : 0 ≤ (x13_1 : Int) := asm
                  have q177 : x13_1 < (l0.length : Int) := asm
                  obtain ⟨ad177, e177, hx177_0, hx177_1, hx177_2⟩ := at_T52 HR0.out x13_1 p177 q177
                  cases e177
                  replace hx177_0 := hcl HB.out hx177_0
                  replace hx177_1 := hcl HB.out hx177_1
                  replace hx177_2 := hcl HB.out hx177_2
                  replace p177 := eq_true p177
                  replace q177 := eq_true q177
                  go_wp2_with (first | ((with_reducible refine gate_dst (N := 4) rfl ?_); refine box_event ?hg (N := 4) ?hd (cs := #[.string (⟨#[]⟩ : ByteArray), .int .i64 0, .int .i64 0]) (t := 52) ?hr ?_; (case hd => rfl); (case hg => rfl); (case hr => first | (go_simp; done) | (go_simp; rfl)); intro gb178 hg w11 hbox hb; have BK178 := Aside0.mk (hbox); have GW178 := Aside0.mk ((bsz hg : w.heap.size ≤ gb178)); have GE178 := Aside0.mk ((bsz hg : w.heap.size ≤ gb178)); replace HB := Aside0.mk (below_step bel hb); clear hb hbox hg; obtain ⟨hcz12_0, hcz12_1, hcz12_2, hfz12_0, hfz12_1, hfz12_2⟩ := cf3 BK178.out) | ((with_reducible refine gate_callee (f := 32) rfl ?_); refine goesL_ (some 19) rfl rfl Tryd.func32 (by kernel_rfl) rfl #[.agg #[.string ((rd_T52 l0 x13_1).f0), .int .i64 ((rd_T52 l0 x13_1).f1), .int .i64 ((rd_T52 l0 x13_1).f2)]] rfl ga ?_; (with_reducible refine (spec_TeamOk.calls k1 ((rd_T52 l0 x13_1).f0) ((rd_T52 l0 x13_1).f1) ((rd_T52 l0 x13_1).f2) true _ A7.out).mono ?_); rintro e w13 ⟨rfl, hb⟩; refine ⟨_, rfl, ?_⟩; replace BK178 := Aside0.mk (blk_below (g := gb178) (o := .cells #[.string ((rd_T52 l0 x13_1).f0), .int .i64 ((rd_T52 l0 x13_1).f1), .int .i64 ((rd_T52 l0 x13_1).f2)] 52 (0, 0)) (by (with_reducible repeat (first | refine blk_drewN ?_ _ | refine blk_drew ?_ | refine blk_alloc ?_ _)); refine blk_put (cs := #[.string ((rd_T52 l0 x13_1).f0), .int .i64 ((rd_T52 l0 x13_1).f1), .int .i64 0]) ?_ 2 _ rfl; (with_reducible repeat (first | refine blk_drewN ?_ _ | refine blk_drew ?_ | refine blk_alloc ?_ _)); refine blk_put (cs := #[.string ((rd_T52 l0 x13_1).f0), .int .i64 0, .int .i64 0]) ?_ 1 _ rfl; (with_reducible repeat (first | refine blk_drewN ?_ _ | refine blk_drew ?_ | refine blk_alloc ?_ _)); refine blk_put (cs := #[.string (⟨#[]⟩ : ByteArray), .int .i64 0, .int .i64 0]) ?_ 0 _ rfl; (with_reducible repeat (first | refine blk_drewN ?_ _ | refine blk_drew ?_ | refine blk_alloc ?_ _)); exact BK178.out) hb); replace HB := Aside0.mk (below_step bel hb); (try clear hb); have q14 : (x13_1 : Int) ≤ ((l0.length : Int) : Int) := asm; obtain ⟨i014, hi014, _, hsz14, _⟩ := info_parts info52; have hroom14 : l0.length ≤ c0 := HC0.out; have hC14 : Kd.C k52 _ (some ad177) l0.length l0 := HR0.out; have hcut14 := cut_to (P := Tryd.prog) 35 52 .i64 Tryd.underlying35 hi014 (some ad177) l0.length c0 x13_1 (asm) q14 hroom14; have hr14 := Kd.C_take (m := (x13_1 : Int).toNat) hC14 (by omega); have hy14 : y180.length = (x13_1 : Int).toNat := (by rw [Ny180.out, List.length_take]; omega); rw [← Ny180.out] at hr14; rw [← hy14] at hcut14; have HR183 := Aside0.mk hr14; have HC183 := Aside0.mk (show y180.length ≤ c0 from by omega); clear hr14 hC14 hroom14 hi014 hsz14; have KY14 := Aside0.mk hy14; clear hy14; replace q14 := eq_true q14))
                  go_loopg [25] k1 (fun kq v25 w' => ∃ (x25_2 : Int), v25 = .int .i64 x25_2 ∧ Aside0 (spec_FieldOk.l1 kq l0 l0 (l0.length : Int) x13_1 y180 (y180.length : Int) x25_2 ((rd_T52 l0 x13_1).f0) ((rd_T52 l0 x13_1).f1) ((rd_T52 l0 x13_1).f2) = some r) ∧ Aside0 (kq ≤ k1) ∧ Aside0 (w'.heap[gb178]? = some (.cells #[.string ((rd_T52 l0 x13_1).f0), .int .i64 ((rd_T52 l0 x13_1).f1), .int .i64 ((rd_T52 l0 x13_1).f2)] 52 (0, 0))) ∧ Aside0 (Below w.heap.size w w'))
                  case atStart => exact ⟨(0), (es), H', ⟨Nat.le_refl _⟩, ⟨bk BK178.out⟩, ⟨bel⟩⟩
                  case round =>
                    clear H'
                    try clear c1; try clear p1; try clear q1; try clear hx1; try clear c2; try clear p2; try clear c3; try clear c4; try clear c4b0; try clear c5; try clear c5b0; try clear c6; try clear c6b0; try clear c8; try clear c9; try clear c9b0; try clear c10; try clear c10b0; try clear c10b1; try clear q14; try clear hcz12_0; try clear hcz12_1; try clear hcz12_2; try clear hfz12_0; try clear hfz12_1; try clear hfz12_2; try clear hx177_0; try clear hx177_1; try clear hx177_2; try clear p177; try clear p2; try clear q14; try clear q177
                    obtain ⟨x25_2, rfl, HA, HK2, BK178, HB⟩ := hrel
                    cases gk with
                    | zero => exact absurd HA.out (by simp [spec_FieldOk.l1])
                    | succ k2 =>
                      have H := HA.out
                      clear HA
                      simp only [spec_FieldOk.l1] at H
                      by_cases c15 : x25_2 < (y180.length : Int)
                      · rw [if_pos c15] at H
                        have c15b0 : decide (x25_2 < (y180.length : Int)) = true := decide_eq_true c15
                        clear c15
                        by_cases c16 : 0 ≤ x25_2
                        · rw [if_pos c16] at H
                          have c16b0 : decide (0 ≤ x25_2) = true := decide_eq_true c16
                          clear c16
                          by_cases c17 : x25_2 < (y180.length : Int)
                          · rw [if_pos c17] at H
                            have c17b0 : decide (x25_2 < (y180.length : Int)) = true := decide_eq_true c17
                            clear c17
                            by_cases c18 : ((rd_T52 y180 x25_2).f0).toList = ((rd_T52 l0 x13_1).f0).toList
                            · rw [if_pos c18] at H
                              have c18b0 : (((rd_T52 y180 x25_2).f0).toList == ((rd_T52 l0 x13_1).f0).toList) = true := beq_iff_eq.mpr c18
                              have c18b1 : (((rd_T52 y180 x25_2).f0).toList != ((rd_T52 l0 x13_1).f0).toList) = false := bne_eq_false_iff_eq.mpr c18
                              clear c18
                              obtain rfl := Option.some.inj H
                              have p184 : 0 ≤ (x25_2 : Int) := asm
                              have q184 : x25_2 < (y180.length : Int) := asm
                              obtain ⟨ad184, e184, hx184_0, hx184_1, hx184_2⟩ := at_T52 HR183.out x25_2 p184 q184
                              obtain rfl : ad177 = ad184 := (by injection e184)
                              replace hx184_0 := hcl HB.out hx184_0
                              replace hx184_1 := hcl HB.out hx184_1
                              replace hx184_2 := hcl HB.out hx184_2
                              replace p184 := eq_true p184
                              replace q184 := eq_true q184
                              go_wp2_with (first | ((with_reducible refine gate_dst (N := 6) rfl ?_); refine box_event ?hg (N := 6) ?hd (cs := #[.string (⟨#[]⟩ : ByteArray), .int .i64 0, .int .i64 0]) (t := 52) ?hr ?_; (case hd => rfl); (case hg => rfl); (case hr => first | (go_simp; done) | (go_simp; rfl)); intro gb185 hg w19 hbox hb; have BK185 := Aside0.mk (hbox); have GW185 := Aside0.mk ((bsz hg : w.heap.size ≤ gb185)); have GE185 := Aside0.mk ((bsz hg : w.heap.size ≤ gb185)); have NB178_185 := Aside0.mk ((nlt hg BK178.out : gb178 ≠ gb185)); have NB185_178 := Aside0.mk ((ngt hg BK178.out : gb185 ≠ gb178)); replace BK178 := Aside0.mk (bb BK178.out hb); replace HB := Aside0.mk (below_step bel hb); clear hb hbox hg; have hnb20 := NB185_178.out; have hnc20 := NB178_185.out; obtain ⟨hcz21_0, hcz21_1, hcz21_2, hfz21_0, hfz21_1, hfz21_2⟩ := cf3 BK185.out; obtain ⟨hcz22_0, hcz22_1, hcz22_2, hfz22_0, hfz22_1, hfz22_2⟩ := cf3 BK178.out))
                              go_ret
                              exact ⟨er, bel⟩
                            · rw [if_neg c18] at H
                              have c18b0 : (((rd_T52 y180 x25_2).f0).toList == ((rd_T52 l0 x13_1).f0).toList) = false := beq_eq_false_iff_ne.mpr c18
                              have c18b1 : (((rd_T52 y180 x25_2).f0).toList != ((rd_T52 l0 x13_1).f0).toList) = true := bne_iff_ne.mpr c18
                              by_cases c23 : ((rd_T52 y180 x25_2).f2) = ((rd_T52 l0 x13_1).f2)
                              · rw [if_pos c23] at H
                                have c23b0 : (((rd_T52 y180 x25_2).f2) == ((rd_T52 l0 x13_1).f2)) = true := beq_iff_eq.mpr c23
                                have c23b1 : (((rd_T52 y180 x25_2).f2) != ((rd_T52 l0 x13_1).f2)) = false := bne_eq_false_iff_eq.mpr c23
                                clear c23
                                obtain rfl := Option.some.inj H
                                have p184 : 0 ≤ (x25_2 : Int) := asm
                                have q184 : x25_2 < (y180.length : Int) := asm
                                obtain ⟨ad184, e184, hx184_0, hx184_1, hx184_2⟩ := at_T52 HR183.out x25_2 p184 q184
                                obtain rfl : ad177 = ad184 := (by injection e184)
                                replace hx184_0 := hcl HB.out hx184_0
                                replace hx184_1 := hcl HB.out hx184_1
                                replace hx184_2 := hcl HB.out hx184_2
                                replace p184 := eq_true p184
                                replace q184 := eq_true q184
                                go_wp2_with (first | ((with_reducible refine gate_dst (N := 6) rfl ?_); refine box_event ?hg (N := 6) ?hd (cs := #[.string (⟨#[]⟩ : ByteArray), .int .i64 0, .int .i64 0]) (t := 52) ?hr ?_; (case hd => rfl); (case hg => rfl); (case hr => first | (go_simp; done) | (go_simp; rfl)); intro gb185 hg w24 hbox hb; have BK185 := Aside0.mk (hbox); have GW185 := Aside0.mk ((bsz hg : w.heap.size ≤ gb185)); have GE185 := Aside0.mk ((bsz hg : w.heap.size ≤ gb185)); have NB178_185 := Aside0.mk ((nlt hg BK178.out : gb178 ≠ gb185)); have NB185_178 := Aside0.mk ((ngt hg BK178.out : gb185 ≠ gb178)); replace BK178 := Aside0.mk (bb BK178.out hb); replace HB := Aside0.mk (below_step bel hb); clear hb hbox hg; have hnb25 := NB185_178.out; have hnc25 := NB178_185.out; obtain ⟨hcz26_0, hcz26_1, hcz26_2, hfz26_0, hfz26_1, hfz26_2⟩ := cf3 BK185.out; obtain ⟨hcz27_0, hcz27_1, hcz27_2, hfz27_0, hfz27_1, hfz27_2⟩ := cf3 BK178.out))
                                go_ret
                                exact ⟨er, bel⟩
                              · rw [if_neg c23] at H
                                have c23b0 : (((rd_T52 y180 x25_2).f2) == ((rd_T52 l0 x13_1).f2)) = false := beq_eq_false_iff_ne.mpr c23
                                have c23b1 : (((rd_T52 y180 x25_2).f2) != ((rd_T52 l0 x13_1).f2)) = true := bne_iff_ne.mpr c23
                                have H' := Aside0.mk H
                                clear H
                                have p184 : 0 ≤ (x25_2 : Int) := asm
                                have q184 : x25_2 < (y180.length : Int) := asm
                                obtain ⟨ad184, e184, hx184_0, hx184_1, hx184_2⟩ := at_T52 HR183.out x25_2 p184 q184
                                obtain rfl : ad177 = ad184 := (by injection e184)
                                replace hx184_0 := hcl HB.out hx184_0
                                replace hx184_1 := hcl HB.out hx184_1
                                replace hx184_2 := hcl HB.out hx184_2
                                replace p184 := eq_true p184
                                replace q184 := eq_true q184
                                go_wp2_with (first | ((with_reducible refine gate_dst (N := 6) rfl ?_); refine box_event ?hg (N := 6) ?hd (cs := #[.string (⟨#[]⟩ : ByteArray), .int .i64 0, .int .i64 0]) (t := 52) ?hr ?_; (case hd => rfl); (case hg => rfl); (case hr => first | (go_simp; done) | (go_simp; rfl)); intro gb185 hg w28 hbox hb; have BK185 := Aside0.mk (hbox); have GW185 := Aside0.mk ((bsz hg : w.heap.size ≤ gb185)); have GE185 := Aside0.mk ((bsz hg : w.heap.size ≤ gb185)); have NB178_185 := Aside0.mk ((nlt hg BK178.out : gb178 ≠ gb185)); have NB185_178 := Aside0.mk ((ngt hg BK178.out : gb185 ≠ gb178)); replace BK178 := Aside0.mk (bb BK178.out hb); replace HB := Aside0.mk (below_step bel hb); clear hb hbox hg; have hnb29 := NB185_178.out; have hnc29 := NB178_185.out; obtain ⟨hcz30_0, hcz30_1, hcz30_2, hfz30_0, hfz30_1, hfz30_2⟩ := cf3 BK185.out; obtain ⟨hcz31_0, hcz31_1, hcz31_2, hfz31_0, hfz31_1, hfz31_2⟩ := cf3 BK178.out))
                                go_roundg k2
                                case measure => have := HK1.out; have := HK2.out; omega
                                case rel => exact ⟨(wrap64 (x25_2 + 1)), (es), H', ⟨by have := HK1.out; have := HK2.out; omega⟩, ⟨bk BK178.out⟩, ⟨bel⟩⟩
                          · rw [if_neg c17] at H
                            exact absurd H (by simp)
                        · rw [if_neg c16] at H
                          exact absurd H (by simp)
                      · rw [if_neg c15] at H
                        have c15b0 : decide (x25_2 < (y180.length : Int)) = false := decide_eq_false c15
                        clear c15
                        have H' := Aside0.mk H
                        clear H
                        go_wp2
                        go_roundg k2
                        case measure => have := HK1.out; have := HK2.out; omega
                        case rel => exact ⟨(wrap64 (x13_1 + 1)), (es), H', ⟨by have := HK1.out; have := HK2.out; omega⟩, ⟨bel⟩⟩
                · rw [if_neg c10] at H
                  exact absurd H (by simp)
              · replace c8 := Bool.eq_false_iff.mpr c8
                subst c8
                have H1 : (some false) = some r := by rw [if_neg (show ¬ (false = true) by decide)] at H; exact H
                clear H
                have H := H1
                clear H1
                obtain rfl := Option.some.inj H
                have p177 : 0 ≤ (x13_1 : Int) := asm
                have q177 : x13_1 < (l0.length : Int) := asm
                obtain ⟨ad177, e177, hx177_0, hx177_1, hx177_2⟩ := at_T52 HR0.out x13_1 p177 q177
                cases e177
                replace hx177_0 := hcl HB.out hx177_0
                replace hx177_1 := hcl HB.out hx177_1
                replace hx177_2 := hcl HB.out hx177_2
                replace p177 := eq_true p177
                replace q177 := eq_true q177
                go_wp2_with (first | ((with_reducible refine gate_dst (N := 4) rfl ?_); refine box_event ?hg (N := 4) ?hd (cs := #[.string (⟨#[]⟩ : ByteArray), .int .i64 0, .int .i64 0]) (t := 52) ?hr ?_; (case hd => rfl); (case hg => rfl); (case hr => first | (go_simp; done) | (go_simp; rfl)); intro gb178 hg w32 hbox hb; have BK178 := Aside0.mk (hbox); have GW178 := Aside0.mk ((bsz hg : w.heap.size ≤ gb178)); have GE178 := Aside0.mk ((bsz hg : w.heap.size ≤ gb178)); replace HB := Aside0.mk (below_step bel hb); clear hb hbox hg; obtain ⟨hcz33_0, hcz33_1, hcz33_2, hfz33_0, hfz33_1, hfz33_2⟩ := cf3 BK178.out) | ((with_reducible refine gate_callee (f := 32) rfl ?_); refine goesL_ (some 19) rfl rfl Tryd.func32 (by kernel_rfl) rfl #[.agg #[.string ((rd_T52 l0 x13_1).f0), .int .i64 ((rd_T52 l0 x13_1).f1), .int .i64 ((rd_T52 l0 x13_1).f2)]] rfl ga ?_; (with_reducible refine (spec_TeamOk.calls k1 ((rd_T52 l0 x13_1).f0) ((rd_T52 l0 x13_1).f1) ((rd_T52 l0 x13_1).f2) false _ A7.out).mono ?_); rintro e w34 ⟨rfl, hb⟩; refine ⟨_, rfl, ?_⟩; replace BK178 := Aside0.mk (blk_below (g := gb178) (o := .cells #[.string ((rd_T52 l0 x13_1).f0), .int .i64 ((rd_T52 l0 x13_1).f1), .int .i64 ((rd_T52 l0 x13_1).f2)] 52 (0, 0)) (by (with_reducible repeat (first | refine blk_drewN ?_ _ | refine blk_drew ?_ | refine blk_alloc ?_ _)); refine blk_put (cs := #[.string ((rd_T52 l0 x13_1).f0), .int .i64 ((rd_T52 l0 x13_1).f1), .int .i64 0]) ?_ 2 _ rfl; (with_reducible repeat (first | refine blk_drewN ?_ _ | refine blk_drew ?_ | refine blk_alloc ?_ _)); refine blk_put (cs := #[.string ((rd_T52 l0 x13_1).f0), .int .i64 0, .int .i64 0]) ?_ 1 _ rfl; (with_reducible repeat (first | refine blk_drewN ?_ _ | refine blk_drew ?_ | refine blk_alloc ?_ _)); refine blk_put (cs := #[.string (⟨#[]⟩ : ByteArray), .int .i64 0, .int .i64 0]) ?_ 0 _ rfl; (with_reducible repeat (first | refine blk_drewN ?_ _ | refine blk_drew ?_ | refine blk_alloc ?_ _)); exact BK178.out) hb); replace HB := Aside0.mk (below_step bel hb); (try clear hb)))
                go_ret
                exact ⟨er, bel⟩
            · rw [if_neg c6] at H
              exact absurd H (by simp)
          · rw [if_neg c5] at H
            exact absurd H (by simp)
        · rw [if_neg c4] at H
          have c4b0 : decide (x13_1 < (l0.length : Int)) = false := decide_eq_false c4
          clear c4
          obtain rfl := Option.some.inj H
          go_wp2
          go_ret
          exact ⟨er, bel⟩
  · replace c3 := Bool.eq_false_iff.mpr c3
    subst c3
    have H1 : (some false) = some r := by rw [if_neg (show ¬ (false = true) by decide)] at H; exact H
    clear H
    have H := H1
    clear H1
    obtain rfl := Option.some.inj H
    go_enter Tryd.func22, Tryd.ntmps22
    go_wp2_with (first | ((with_reducible refine gate_callee (f := 23) rfl ?_); refine goesL_ (some 9) rfl rfl Tryd.func23 (by kernel_rfl) rfl #[.int .i64 (l0.length : Int), .int .i64 2, .int .i64 8] rfl ga ?_; (with_reducible refine (spec_l01In.calls (l0.length : Int) 2 8 false _ A2.out).mono ?_); rintro e w' ⟨rfl, ⟨nd, rfl⟩⟩; refine ⟨_, rfl, ?_⟩))
    go_ret
    exact ⟨er, bel⟩

end Go.Proofs.YtmpealaejigbfaaDoor.R
