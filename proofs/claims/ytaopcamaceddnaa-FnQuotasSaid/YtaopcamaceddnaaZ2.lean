-- Written by a program of this session (wip/xp.py, over the kit's print) out of the translation: functions, and the walks that show them.
import Derived.Test.YtaopcamaceddnaaZ0
import Derived.Test.YtaopcamaceddnaaZ1
namespace Go.Proofs.Ytaopcamaceddnaa.Z
open Go.RowKit Go.Proofs.YtaopcamaceddnaaW.PrintWords Go.Proofs.YtaopcamaceddnaaW.PrintLast Go.Proofs.YtaopcamaceddnaaW.PrintMore
attribute [local go_sem] max2_int min2_int max_two min_two max_three min_three max_four min_four   -- for this text's walks alone
set_option linter.unusedVariables false
set_option linter.unusedSimpArgs false

mutual
def impl_ContestsOk.l0 : Nat → Int → List (S38) → List (S38) → Int → Int → Option (Bool)
  | 0, _, _, _, _, _ => none
  | k + 1, x0, x1, x9, x10, x11 => if x11 < x10 then (if 0 ≤ x11 then (if x11 < (x9.length : Int) then (impl_ContestsOk.l1 k x0 x1 x11 x9 x10 x11 ((rd_T38 x9 x11).f0) (((rd_T38 x9 x11).f0).length : Int) 0 ((rd_T38 x9 x11).f0) ((rd_T38 x9 x11).f1) ((rd_T38 x9 x11).f2)) else (none)) else (none)) else ((impl_within.f x0 2 8).bind fun t103 => (if t103 = true then (some (decide ((x1.length : Int) ≤ 5))) else (some false)))
def impl_ContestsOk.l1 : Nat → Int → List (S38) → Int → List (S38) → Int → Int → List Int → Int → Int → List Int → Int → Int → Option (Bool)
  | 0, _, _, _, _, _, _, _, _, _, _, _, _ => none
  | k + 1, x0, x1, x5, x9, x10, x11, x17, x18, x19, x106000, x106001, x106002 => if x19 < x18 then (if 0 ≤ x19 then (if x19 < (x17.length : Int) then ((impl_within.f (rd x17 x19) 0 (wrap64 (x0 - 1))).bind fun t107 => (if t107 = true then (if x19 ≤ (x106000.length : Int) then ((slices_Contains_int_int.f k (x106000.take (x19 : Int).toNat) (rd x17 x19)).bind fun t109 => (if t109 = true then (some false) else (impl_ContestsOk.l1 k x0 x1 x5 x9 x10 x11 x17 x18 (wrap64 (x19 + 1)) x106000 x106001 x106002))) else (none)) else (some false))) else (none)) else (none)) else ((impl_within.f x106001 0 8).bind fun t110 => (if t110 = true then (if x106002 = (-1) then (impl_ContestsOk.l0 k x0 x1 x9 x10 (wrap64 (x11 + 1))) else ((impl_within.f x106002 (wrap64 (x5 + 1)) (wrap64 ((x1.length : Int) - 1))).bind fun t111 => (if t111 = true then (impl_ContestsOk.l0 k x0 x1 x9 x10 (wrap64 (x11 + 1))) else (some false)))) else (some false)))
end
def impl_ContestsOk.f (k : Nat) (a0 : Int) (l1 : List (S38)) : Option (Bool) := impl_ContestsOk.l0 k a0 l1 l1 (l1.length : Int) 0
set_option maxHeartbeats 8000000 in
set_option maxRecDepth 100000 in
theorem impl_ContestsOk.calls (k : Nat) (a0 : Int) (A1 : Option Addr) (c1 : Nat) (l1 : List (S38)) (r : Bool) (w : World) (hr1 : Kd.C k38 w A1 l1.length l1) (hc1 : l1.length ≤ c1) (h : impl_ContestsOk.f k a0 l1 = some r) :
    Calls Try.prog 15 #[.int .i64 a0, .slice A1 l1.length c1] w fun e w' => e = .returned (.bool r) ∧ Below w.heap.size w w' := by
  have hu38 := Try.underlying38
  have HR1 := Aside0.mk hr1
  have HC1 := Aside0.mk hc1
  clear hr1 hc1
  have HB := Aside0.mk (Below.refl w.heap.size w)
  have H : (impl_ContestsOk.l0 k a0 l1 l1 (l1.length : Int) 0) = some r := h
  clear h
  have H' := Aside0.mk H
  clear H
  go_enter Try.func15, Try.ntmps15
  go_wp2
  go_loopg [11] k (fun kq v11 w' => ∃ (x11_1 : Int), v11 = .int .i64 x11_1 ∧ Aside0 (impl_ContestsOk.l0 kq a0 l1 l1 (l1.length : Int) x11_1 = some r) ∧ Aside0 (kq ≤ k) ∧ Aside0 (Below w.heap.size w w'))
  case atStart => exact ⟨(0), (es), H', ⟨Nat.le_refl _⟩, ⟨bel⟩⟩
  case round =>
    clear H'
    try clear c1; try clear p2
    obtain ⟨x11_1, rfl, HA, HK1, HB⟩ := hrel
    cases gk with
    | zero => exact absurd HA.out (by simp [impl_ContestsOk.l0])
    | succ k1 =>
      have H := HA.out
      clear HA
      simp only [impl_ContestsOk.l0] at H
      by_cases c3 : x11_1 < (l1.length : Int)
      · rw [if_pos c3] at H
        have c3b0 : decide (x11_1 < (l1.length : Int)) = true := decide_eq_true c3
        clear c3
        by_cases c4 : 0 ≤ x11_1
        · rw [if_pos c4] at H
          have c4b0 : decide (0 ≤ x11_1) = true := decide_eq_true c4
          clear c4
          by_cases c5 : x11_1 < (l1.length : Int)
          · rw [if_pos c5] at H
            have c5b0 : decide (x11_1 < (l1.length : Int)) = true := decide_eq_true c5
            clear c5
            have H' := Aside0.mk H
            clear H
            have p104 : 0 ≤ (x11_1 : Int) := asm
            have q104 : x11_1 < (l1.length : Int) := asm
            obtain ⟨ad104, A104_0, c104_0, e104, hx104_0, hx104_1, hx104_2, hl104_0, hi104_0⟩ := at_T38 HR1.out x11_1 p104 q104
            cases e104
            replace hx104_0 := hcl HB.out hx104_0
            replace hx104_1 := hcl HB.out hx104_1
            replace hx104_2 := hcl HB.out hx104_2
            have HR104_0 := Aside0.mk hi104_0
            have HC104_0 := Aside0.mk hl104_0
            clear hi104_0 hl104_0
            replace p104 := eq_true p104
            replace q104 := eq_true q104
            go_wp2_with (first | ((with_reducible refine gate_dst (N := 6) rfl ?_); refine box_event ?hg (N := 6) ?hd (cs := #[.slice none 0 0, .int .i64 0, .int .i64 0]) (t := 38) ?hr ?_; (case hd => rfl); (case hg => rfl); (case hr => first | (go_simp; done) | (go_simp; rfl)); intro gb105 hg w6 hbox hb; have BK105 := Aside0.mk (hbox); have GW105 := Aside0.mk ((bsz hg : w.heap.size ≤ gb105)); have GE105 := Aside0.mk ((bsz hg : w.heap.size ≤ gb105)); replace HB := Aside0.mk (below_step bel hb); clear hb hbox hg; obtain ⟨hcz7_0, hcz7_1, hcz7_2, hfz7_0, hfz7_1, hfz7_2⟩ := cf3 BK105.out))
            go_loopg [19] k1 (fun kq v19 w' => ∃ (x19_2 : Int), v19 = .int .i64 x19_2 ∧ Aside0 (impl_ContestsOk.l1 kq a0 l1 x11_1 l1 (l1.length : Int) x11_1 ((rd_T38 l1 x11_1).f0) (((rd_T38 l1 x11_1).f0).length : Int) x19_2 ((rd_T38 l1 x11_1).f0) ((rd_T38 l1 x11_1).f1) ((rd_T38 l1 x11_1).f2) = some r) ∧ Aside0 (kq ≤ k1) ∧ Aside0 (w'.heap[gb105]? = some (.cells #[(.slice A104_0 ((rd_T38 l1 x11_1).f0).length c104_0), .int .i64 ((rd_T38 l1 x11_1).f1), .int .i64 ((rd_T38 l1 x11_1).f2)] 38 (0, 0))) ∧ Aside0 (Below w.heap.size w w'))
            case atStart => exact ⟨(0), (es), H', ⟨Nat.le_refl _⟩, ⟨by (with_reducible repeat (first | refine blk_drewN ?_ _ | refine blk_drew ?_ | refine blk_alloc ?_ _)); refine blk_put (cs := #[.slice A104_0 ((rd_T38 l1 x11_1).f0).length c104_0, .int .i64 ((rd_T38 l1 x11_1).f1), .int .i64 0]) ?_ 2 _ rfl; (with_reducible repeat (first | refine blk_drewN ?_ _ | refine blk_drew ?_ | refine blk_alloc ?_ _)); refine blk_put (cs := #[.slice A104_0 ((rd_T38 l1 x11_1).f0).length c104_0, .int .i64 0, .int .i64 0]) ?_ 1 _ rfl; (with_reducible repeat (first | refine blk_drewN ?_ _ | refine blk_drew ?_ | refine blk_alloc ?_ _)); refine blk_put (cs := #[.slice none 0 0, .int .i64 0, .int .i64 0]) ?_ 0 _ rfl; (with_reducible repeat (first | refine blk_drewN ?_ _ | refine blk_drew ?_ | refine blk_alloc ?_ _)); exact BK105.out⟩, ⟨bel⟩⟩
            case round =>
              clear H'
              try clear c1; try clear p1; try clear q1; try clear hx1; try clear p2; try clear c3; try clear c3b0; try clear c4; try clear c4b0; try clear c5; try clear c5b0; try clear hcz7_0; try clear hcz7_1; try clear hcz7_2; try clear hfz7_0; try clear hfz7_1; try clear hfz7_2; try clear hx104_0; try clear hx104_1; try clear hx104_2; try clear p104; try clear p2; try clear q104
              obtain ⟨x19_2, rfl, HA, HK2, BK105, HB⟩ := hrel
              cases gk with
              | zero => exact absurd HA.out (by simp [impl_ContestsOk.l1])
              | succ k2 =>
                have H := HA.out
                clear HA
                simp only [impl_ContestsOk.l1] at H
                by_cases c8 : x19_2 < (((rd_T38 l1 x11_1).f0).length : Int)
                · rw [if_pos c8] at H
                  have c8b0 : decide (x19_2 < (((rd_T38 l1 x11_1).f0).length : Int)) = true := decide_eq_true c8
                  clear c8
                  by_cases c9 : 0 ≤ x19_2
                  · rw [if_pos c9] at H
                    have c9b0 : decide (0 ≤ x19_2) = true := decide_eq_true c9
                    clear c9
                    by_cases c10 : x19_2 < (((rd_T38 l1 x11_1).f0).length : Int)
                    · rw [if_pos c10] at H
                      have c10b0 : decide (x19_2 < (((rd_T38 l1 x11_1).f0).length : Int)) = true := decide_eq_true c10
                      clear c10
                      replace H := Option.bind_eq_some_iff.mp H
                      obtain ⟨t107, A110, H⟩ := H
                      replace H : (if t107 = true then (if x19_2 ≤ (((rd_T38 l1 x11_1).f0).length : Int) then ((slices_Contains_int_int.f k2 (((rd_T38 l1 x11_1).f0).take (x19_2 : Int).toNat) (rd ((rd_T38 l1 x11_1).f0) x19_2)).bind fun t109 => (if t109 = true then (some false) else (impl_ContestsOk.l1 k2 a0 l1 x11_1 l1 (l1.length : Int) x11_1 ((rd_T38 l1 x11_1).f0) (((rd_T38 l1 x11_1).f0).length : Int) (wrap64 (x19_2 + 1)) ((rd_T38 l1 x11_1).f0) ((rd_T38 l1 x11_1).f1) ((rd_T38 l1 x11_1).f2)))) else (none)) else (some false)) = some r := H
                      have A11 := Aside0.mk A110
                      clear A110
                      by_cases c12 : t107 = true
                      · subst c12
                        have H1 : (if x19_2 ≤ (((rd_T38 l1 x11_1).f0).length : Int) then ((slices_Contains_int_int.f k2 (((rd_T38 l1 x11_1).f0).take (x19_2 : Int).toNat) (rd ((rd_T38 l1 x11_1).f0) x19_2)).bind fun t109 => (if t109 = true then (some false) else (impl_ContestsOk.l1 k2 a0 l1 x11_1 l1 (l1.length : Int) x11_1 ((rd_T38 l1 x11_1).f0) (((rd_T38 l1 x11_1).f0).length : Int) (wrap64 (x19_2 + 1)) ((rd_T38 l1 x11_1).f0) ((rd_T38 l1 x11_1).f1) ((rd_T38 l1 x11_1).f2)))) else (none)) = some r := by rw [if_pos rfl] at H; exact H
                        clear H
                        have H := H1
                        clear H1
                        have c13b0 := eq_true (asm : 0 ≤ x19_2)
                        by_cases c14 : x19_2 ≤ (((rd_T38 l1 x11_1).f0).length : Int)
                        · rw [if_pos c14] at H
                          have c14b0 := eq_true c14
                          have c14b1 : decide (x19_2 ≤ (((rd_T38 l1 x11_1).f0).length : Int)) = true := decide_eq_true c14
                          clear c14
                          replace H := Option.bind_eq_some_iff.mp H
                          obtain ⟨t109, A150, H⟩ := H
                          replace H : (if t109 = true then (some false) else (impl_ContestsOk.l1 k2 a0 l1 x11_1 l1 (l1.length : Int) x11_1 ((rd_T38 l1 x11_1).f0) (((rd_T38 l1 x11_1).f0).length : Int) (wrap64 (x19_2 + 1)) ((rd_T38 l1 x11_1).f0) ((rd_T38 l1 x11_1).f1) ((rd_T38 l1 x11_1).f2))) = some r := H
                          have A15 := Aside0.mk A150
                          clear A150
                          by_cases c16 : t109 = true
                          · subst c16
                            have H1 : (some false) = some r := by rw [if_pos rfl] at H; exact H
                            clear H
                            have H := H1
                            clear H1
                            obtain rfl := Option.some.inj H
                            have p106 : 0 ≤ (x19_2 : Int) := asm
                            have q106 : x19_2 < (((rd_T38 l1 x11_1).f0).length : Int) := asm
                            obtain ⟨ad106, e106, hx106_0⟩ := Kd.at_int HR104_0.out x19_2 p106 q106
                            cases e106
                            replace hx106_0 := hcl HB.out hx106_0
                            replace p106 := eq_true p106
                            replace q106 := eq_true q106
                            go_wp2_with (first | ((with_reducible refine gate_callee (f := 42) rfl ?_); refine goesL_ (some 27) rfl rfl Try.func42 (by kernel_rfl) rfl #[.int .i64 (rd ((rd_T38 l1 x11_1).f0) x19_2), .int .i64 0, .int .i64 (wrap64 (a0 - 1))] rfl ga ?_; (with_reducible refine (impl_within.calls (rd ((rd_T38 l1 x11_1).f0) x19_2) 0 (wrap64 (a0 - 1)) true _ A11.out).mono ?_); rintro e w' ⟨rfl, ⟨nd, rfl⟩⟩; refine ⟨_, rfl, ?_⟩; obtain ⟨hcz17_0, hcz17_1, hcz17_2, hfz17_0, hfz17_1, hfz17_2⟩ := cf3 BK105.out; obtain ⟨i018, hi018, _, hsz18, _⟩ := info_parts info3; obtain ⟨hcut18, hA18, hC18⟩ := print_take_of (P := Try.prog) (Value.int .i64) 0 35 3 .i64 Try.underlying35 hi018 hsz18 (some ad106) c104_0 ((rd_T38 l1 x11_1).f0) x19_2 (asm) (asm) HC104_0.out; have HR108 := Aside0.mk (Kd.C_of_reads (h1 := fun _ => rfl) (hA18 _ (Kd.reads_of_C HR104_0.out))); have HC108 := Aside0.mk hC18; clear hA18 hC18 hi018 hsz18) | (go_at_call 43; (with_reducible refine (slices_Contains_int_int.calls k2 _ _ (((rd_T38 l1 x11_1).f0).take (x19_2 : Int).toNat) (rd ((rd_T38 l1 x11_1).f0) x19_2) true _ ?side1 ?side2 A15.out).mono ?_); (case side1 => exact ck (Kd.C_below HR108.out bel)); (case side2 => exact HC108.out); rintro e w' ⟨rfl, ⟨nd, rfl⟩⟩) | (go_at_call 43; rw [show (x19_2 : Int).toNat = (((rd_T38 l1 x11_1).f0).take (x19_2 : Int).toNat).length from (slen ((rd_T38 l1 x11_1).f0) x19_2 asm).symm]; (with_reducible refine (slices_Contains_int_int.calls k2 _ _ (((rd_T38 l1 x11_1).f0).take (x19_2 : Int).toNat) (rd ((rd_T38 l1 x11_1).f0) x19_2) true _ ?side1 ?side2 A15.out).mono ?_); (case side1 => exact ck (Kd.C_below HR108.out bel)); (case side2 => exact HC108.out); rintro e w' ⟨rfl, ⟨nd, rfl⟩⟩))
                            go_ret
                            exact ⟨er, bel⟩
                          · replace c16 := Bool.eq_false_iff.mpr c16
                            subst c16
                            have H1 : (impl_ContestsOk.l1 k2 a0 l1 x11_1 l1 (l1.length : Int) x11_1 ((rd_T38 l1 x11_1).f0) (((rd_T38 l1 x11_1).f0).length : Int) (wrap64 (x19_2 + 1)) ((rd_T38 l1 x11_1).f0) ((rd_T38 l1 x11_1).f1) ((rd_T38 l1 x11_1).f2)) = some r := by rw [if_neg (show ¬ (false = true) by decide)] at H; exact H
                            clear H
                            have H := H1
                            clear H1
                            have H' := Aside0.mk H
                            clear H
                            have p106 : 0 ≤ (x19_2 : Int) := asm
                            have q106 : x19_2 < (((rd_T38 l1 x11_1).f0).length : Int) := asm
                            obtain ⟨ad106, e106, hx106_0⟩ := Kd.at_int HR104_0.out x19_2 p106 q106
                            cases e106
                            replace hx106_0 := hcl HB.out hx106_0
                            replace p106 := eq_true p106
                            replace q106 := eq_true q106
                            go_wp2_with (first | ((with_reducible refine gate_callee (f := 42) rfl ?_); refine goesL_ (some 27) rfl rfl Try.func42 (by kernel_rfl) rfl #[.int .i64 (rd ((rd_T38 l1 x11_1).f0) x19_2), .int .i64 0, .int .i64 (wrap64 (a0 - 1))] rfl ga ?_; (with_reducible refine (impl_within.calls (rd ((rd_T38 l1 x11_1).f0) x19_2) 0 (wrap64 (a0 - 1)) true _ A11.out).mono ?_); rintro e w' ⟨rfl, ⟨nd, rfl⟩⟩; refine ⟨_, rfl, ?_⟩; obtain ⟨hcz19_0, hcz19_1, hcz19_2, hfz19_0, hfz19_1, hfz19_2⟩ := cf3 BK105.out; obtain ⟨i020, hi020, _, hsz20, _⟩ := info_parts info3; obtain ⟨hcut20, hA20, hC20⟩ := print_take_of (P := Try.prog) (Value.int .i64) 0 35 3 .i64 Try.underlying35 hi020 hsz20 (some ad106) c104_0 ((rd_T38 l1 x11_1).f0) x19_2 (asm) (asm) HC104_0.out; have HR108 := Aside0.mk (Kd.C_of_reads (h1 := fun _ => rfl) (hA20 _ (Kd.reads_of_C HR104_0.out))); have HC108 := Aside0.mk hC20; clear hA20 hC20 hi020 hsz20) | (go_at_call 43; (with_reducible refine (slices_Contains_int_int.calls k2 _ _ (((rd_T38 l1 x11_1).f0).take (x19_2 : Int).toNat) (rd ((rd_T38 l1 x11_1).f0) x19_2) false _ ?side1 ?side2 A15.out).mono ?_); (case side1 => exact ck (Kd.C_below HR108.out bel)); (case side2 => exact HC108.out); rintro e w' ⟨rfl, ⟨nd, rfl⟩⟩) | (go_at_call 43; rw [show (x19_2 : Int).toNat = (((rd_T38 l1 x11_1).f0).take (x19_2 : Int).toNat).length from (slen ((rd_T38 l1 x11_1).f0) x19_2 asm).symm]; (with_reducible refine (slices_Contains_int_int.calls k2 _ _ (((rd_T38 l1 x11_1).f0).take (x19_2 : Int).toNat) (rd ((rd_T38 l1 x11_1).f0) x19_2) false _ ?side1 ?side2 A15.out).mono ?_); (case side1 => exact ck (Kd.C_below HR108.out bel)); (case side2 => exact HC108.out); rintro e w' ⟨rfl, ⟨nd, rfl⟩⟩))
                            go_roundg k2
                            case measure => have := HK1.out; have := HK2.out; omega
                            case rel => exact ⟨(wrap64 (x19_2 + 1)), (es), H', ⟨by have := HK1.out; have := HK2.out; omega⟩, ⟨bk BK105.out⟩, ⟨bel⟩⟩
                        · rw [if_neg c14] at H
                          exact absurd H (by simp)
                      · replace c12 := Bool.eq_false_iff.mpr c12
                        subst c12
                        have H1 : (some false) = some r := by rw [if_neg (show ¬ (false = true) by decide)] at H; exact H
                        clear H
                        have H := H1
                        clear H1
                        obtain rfl := Option.some.inj H
                        have p106 : 0 ≤ (x19_2 : Int) := asm
                        have q106 : x19_2 < (((rd_T38 l1 x11_1).f0).length : Int) := asm
                        obtain ⟨ad106, e106, hx106_0⟩ := Kd.at_int HR104_0.out x19_2 p106 q106
                        cases e106
                        replace hx106_0 := hcl HB.out hx106_0
                        replace p106 := eq_true p106
                        replace q106 := eq_true q106
                        go_wp2_with (first | ((with_reducible refine gate_callee (f := 42) rfl ?_); refine goesL_ (some 27) rfl rfl Try.func42 (by kernel_rfl) rfl #[.int .i64 (rd ((rd_T38 l1 x11_1).f0) x19_2), .int .i64 0, .int .i64 (wrap64 (a0 - 1))] rfl ga ?_; (with_reducible refine (impl_within.calls (rd ((rd_T38 l1 x11_1).f0) x19_2) 0 (wrap64 (a0 - 1)) false _ A11.out).mono ?_); rintro e w' ⟨rfl, ⟨nd, rfl⟩⟩; refine ⟨_, rfl, ?_⟩))
                        go_ret
                        exact ⟨er, bel⟩
                    · rw [if_neg c10] at H
                      exact absurd H (by simp)
                  · rw [if_neg c9] at H
                    exact absurd H (by simp)
                · rw [if_neg c8] at H
                  have c8b0 : decide (x19_2 < (((rd_T38 l1 x11_1).f0).length : Int)) = false := decide_eq_false c8
                  clear c8
                  replace H := Option.bind_eq_some_iff.mp H
                  obtain ⟨t110, A210, H⟩ := H
                  replace H : (if t110 = true then (if ((rd_T38 l1 x11_1).f2) = (-1) then (impl_ContestsOk.l0 k2 a0 l1 l1 (l1.length : Int) (wrap64 (x11_1 + 1))) else ((impl_within.f ((rd_T38 l1 x11_1).f2) (wrap64 (x11_1 + 1)) (wrap64 ((l1.length : Int) - 1))).bind fun t111 => (if t111 = true then (impl_ContestsOk.l0 k2 a0 l1 l1 (l1.length : Int) (wrap64 (x11_1 + 1))) else (some false)))) else (some false)) = some r := H
                  have A21 := Aside0.mk A210
                  clear A210
                  by_cases c22 : t110 = true
                  · subst c22
                    have H1 : (if ((rd_T38 l1 x11_1).f2) = (-1) then (impl_ContestsOk.l0 k2 a0 l1 l1 (l1.length : Int) (wrap64 (x11_1 + 1))) else ((impl_within.f ((rd_T38 l1 x11_1).f2) (wrap64 (x11_1 + 1)) (wrap64 ((l1.length : Int) - 1))).bind fun t111 => (if t111 = true then (impl_ContestsOk.l0 k2 a0 l1 l1 (l1.length : Int) (wrap64 (x11_1 + 1))) else (some false)))) = some r := by rw [if_pos rfl] at H; exact H
                    clear H
                    have H := H1
                    clear H1
                    by_cases c23 : ((rd_T38 l1 x11_1).f2) = (-1)
                    · rw [if_pos c23] at H
                      have c23b0 : (((rd_T38 l1 x11_1).f2) == (-1)) = true := beq_iff_eq.mpr c23
                      have c23b1 : (((rd_T38 l1 x11_1).f2) != (-1)) = false := bne_eq_false_iff_eq.mpr c23
                      clear c23
                      have H' := Aside0.mk H
                      clear H
                      obtain ⟨hcz24_0, hcz24_1, hcz24_2, hfz24_0, hfz24_1, hfz24_2⟩ := cf3 BK105.out
                      go_wp2_with (first | ((with_reducible refine gate_callee (f := 42) rfl ?_); refine goesL_ (some 40) rfl rfl Try.func42 (by kernel_rfl) rfl #[.int .i64 ((rd_T38 l1 x11_1).f1), .int .i64 0, .int .i64 8] rfl ga ?_; (with_reducible refine (impl_within.calls ((rd_T38 l1 x11_1).f1) 0 8 true _ A21.out).mono ?_); rintro e w' ⟨rfl, ⟨nd, rfl⟩⟩; refine ⟨_, rfl, ?_⟩))
                      go_roundg k2
                      case measure => have := HK1.out; have := HK2.out; omega
                      case rel => exact ⟨(wrap64 (x11_1 + 1)), (es), H', ⟨by have := HK1.out; have := HK2.out; omega⟩, ⟨bel⟩⟩
                    · rw [if_neg c23] at H
                      have c23b0 : (((rd_T38 l1 x11_1).f2) == (-1)) = false := beq_eq_false_iff_ne.mpr c23
                      have c23b1 : (((rd_T38 l1 x11_1).f2) != (-1)) = true := bne_iff_ne.mpr c23
                      replace H := Option.bind_eq_some_iff.mp H
                      obtain ⟨t111, A250, H⟩ := H
                      replace H : (if t111 = true then (impl_ContestsOk.l0 k2 a0 l1 l1 (l1.length : Int) (wrap64 (x11_1 + 1))) else (some false)) = some r := H
                      have A25 := Aside0.mk A250
                      clear A250
                      by_cases c26 : t111 = true
                      · subst c26
                        have H1 : (impl_ContestsOk.l0 k2 a0 l1 l1 (l1.length : Int) (wrap64 (x11_1 + 1))) = some r := by rw [if_pos rfl] at H; exact H
                        clear H
                        have H := H1
                        clear H1
                        have H' := Aside0.mk H
                        clear H
                        obtain ⟨hcz27_0, hcz27_1, hcz27_2, hfz27_0, hfz27_1, hfz27_2⟩ := cf3 BK105.out
                        go_wp2_with (first | ((with_reducible refine gate_callee (f := 42) rfl ?_); refine goesL_ (some 40) rfl rfl Try.func42 (by kernel_rfl) rfl #[.int .i64 ((rd_T38 l1 x11_1).f1), .int .i64 0, .int .i64 8] rfl ga ?_; (with_reducible refine (impl_within.calls ((rd_T38 l1 x11_1).f1) 0 8 true _ A21.out).mono ?_); rintro e w' ⟨rfl, ⟨nd, rfl⟩⟩; refine ⟨_, rfl, ?_⟩) | (go_at_call 42; (with_reducible refine (impl_within.calls ((rd_T38 l1 x11_1).f2) (wrap64 (x11_1 + 1)) (wrap64 ((l1.length : Int) - 1)) true _ A25.out).mono ?_); rintro e w' ⟨rfl, ⟨nd, rfl⟩⟩))
                        go_roundg k2
                        case measure => have := HK1.out; have := HK2.out; omega
                        case rel => exact ⟨(wrap64 (x11_1 + 1)), (es), H', ⟨by have := HK1.out; have := HK2.out; omega⟩, ⟨bel⟩⟩
                      · replace c26 := Bool.eq_false_iff.mpr c26
                        subst c26
                        have H1 : (some false) = some r := by rw [if_neg (show ¬ (false = true) by decide)] at H; exact H
                        clear H
                        have H := H1
                        clear H1
                        obtain rfl := Option.some.inj H
                        obtain ⟨hcz28_0, hcz28_1, hcz28_2, hfz28_0, hfz28_1, hfz28_2⟩ := cf3 BK105.out
                        go_wp2_with (first | ((with_reducible refine gate_callee (f := 42) rfl ?_); refine goesL_ (some 40) rfl rfl Try.func42 (by kernel_rfl) rfl #[.int .i64 ((rd_T38 l1 x11_1).f1), .int .i64 0, .int .i64 8] rfl ga ?_; (with_reducible refine (impl_within.calls ((rd_T38 l1 x11_1).f1) 0 8 true _ A21.out).mono ?_); rintro e w' ⟨rfl, ⟨nd, rfl⟩⟩; refine ⟨_, rfl, ?_⟩) | (go_at_call 42; (with_reducible refine (impl_within.calls ((rd_T38 l1 x11_1).f2) (wrap64 (x11_1 + 1)) (wrap64 ((l1.length : Int) - 1)) false _ A25.out).mono ?_); rintro e w' ⟨rfl, ⟨nd, rfl⟩⟩))
                        go_ret
                        exact ⟨er, bel⟩
                  · replace c22 := Bool.eq_false_iff.mpr c22
                    subst c22
                    have H1 : (some false) = some r := by rw [if_neg (show ¬ (false = true) by decide)] at H; exact H
                    clear H
                    have H := H1
                    clear H1
                    obtain rfl := Option.some.inj H
                    obtain ⟨hcz29_0, hcz29_1, hcz29_2, hfz29_0, hfz29_1, hfz29_2⟩ := cf3 BK105.out
                    go_wp2_with (first | ((with_reducible refine gate_callee (f := 42) rfl ?_); refine goesL_ (some 40) rfl rfl Try.func42 (by kernel_rfl) rfl #[.int .i64 ((rd_T38 l1 x11_1).f1), .int .i64 0, .int .i64 8] rfl ga ?_; (with_reducible refine (impl_within.calls ((rd_T38 l1 x11_1).f1) 0 8 false _ A21.out).mono ?_); rintro e w' ⟨rfl, ⟨nd, rfl⟩⟩; refine ⟨_, rfl, ?_⟩))
                    go_ret
                    exact ⟨er, bel⟩
          · rw [if_neg c5] at H
            exact absurd H (by simp)
        · rw [if_neg c4] at H
          exact absurd H (by simp)
      · rw [if_neg c3] at H
        have c3b0 : decide (x11_1 < (l1.length : Int)) = false := decide_eq_false c3
        clear c3
        replace H := Option.bind_eq_some_iff.mp H
        obtain ⟨t103, A300, H⟩ := H
        replace H : (if t103 = true then (some (decide ((l1.length : Int) ≤ 5))) else (some false)) = some r := H
        have A30 := Aside0.mk A300
        clear A300
        by_cases c31 : t103 = true
        · subst c31
          have H1 : (some (decide ((l1.length : Int) ≤ 5))) = some r := by rw [if_pos rfl] at H; exact H
          clear H
          have H := H1
          clear H1
          obtain rfl := Option.some.inj H
          go_wp2_with (first | ((with_reducible refine gate_callee (f := 42) rfl ?_); refine goesL_ (some 60) rfl rfl Try.func42 (by kernel_rfl) rfl #[.int .i64 a0, .int .i64 2, .int .i64 8] rfl ga ?_; (with_reducible refine (impl_within.calls a0 2 8 true _ A30.out).mono ?_); rintro e w' ⟨rfl, ⟨nd, rfl⟩⟩; refine ⟨_, rfl, ?_⟩))
          go_ret
          exact ⟨er, bel⟩
        · replace c31 := Bool.eq_false_iff.mpr c31
          subst c31
          have H1 : (some false) = some r := by rw [if_neg (show ¬ (false = true) by decide)] at H; exact H
          clear H
          have H := H1
          clear H1
          obtain rfl := Option.some.inj H
          go_wp2_with (first | ((with_reducible refine gate_callee (f := 42) rfl ?_); refine goesL_ (some 60) rfl rfl Try.func42 (by kernel_rfl) rfl #[.int .i64 a0, .int .i64 2, .int .i64 8] rfl ga ?_; (with_reducible refine (impl_within.calls a0 2 8 false _ A30.out).mono ?_); rintro e w' ⟨rfl, ⟨nd, rfl⟩⟩; refine ⟨_, rfl, ?_⟩))
          go_ret
          exact ⟨er, bel⟩

end Go.Proofs.Ytaopcamaceddnaa.Z
