-- Written by a program of this session (wip/xp.py, over the kit's print) out of the translation: functions, and the walks that show them.
import Derived.Test.YtaopcamaceddnaaZ0
import Derived.Test.YtaopcamaceddnaaZ1
import Derived.Test.YtaopcamaceddnaaZ2
import Derived.Test.YtaopcamaceddnaaZ7
import Derived.Test.YtaopcamaceddnaaZ8
namespace Go.Proofs.Ytaopcamaceddnaa.Z
open Go.RowKit Go.Proofs.YtaopcamaceddnaaW.PrintWords Go.Proofs.YtaopcamaceddnaaW.PrintLast Go.Proofs.YtaopcamaceddnaaW.PrintMore
attribute [local go_sem] max2_int min2_int max_two min_two max_three min_three max_four min_four   -- for this text's walks alone
set_option linter.unusedVariables false
set_option linter.unusedSimpArgs false

set_option maxHeartbeats 8000000 in
set_option maxRecDepth 100000 in
theorem impl_ContestOf.test (k : Nat) (A0 : Option Addr) (c0 : Nat) (l0 : List Int) (gb : Nat) (t : Int) (r : Bool) (w : World) (hr0 : Kd.C (Kd.int .i64) w A0 l0.length l0) (hc0 : l0.length ≤ c0) (ht : w.cell? ⟨gb, 0, none⟩ = some (.int .i64 t)) (h : slices_Contains_int_int.f k l0 t = some r) :
    Calls Try.prog 49 #[.slice A0 l0.length c0, .pointer (some ⟨gb, 0, none⟩)] w fun e w' => e = .returned (.bool r) ∧ Below w.heap.size w w' := by
  have HR0 := Aside0.mk hr0
  have HC0 := Aside0.mk hc0
  clear hr0 hc0
  have A3 := Aside0.mk h
  clear h
  have HB := Aside0.mk (Below.refl w.heap.size w)
  go_enter Try.func49, Try.ntmps49
  go_wp2_with (first | (go_at_call 43; (with_reducible refine (slices_Contains_int_int.calls k _ _ l0 t r _ ?side1 ?side2 A3.out).mono ?_); (case side1 => exact ck HR0.out); (case side2 => exact HC0.out); rintro e w' ⟨rfl, ⟨nd, rfl⟩⟩))
  go_ret
  exact ⟨er, bel⟩
def impl_ContestOf.l0 : Nat → List (List Int) → Int → Int → Option Int
  | 0, _, _, _ => none
  | k + 1, xs, t, i => if i < (xs.length : Int) then (if 0 ≤ i then ((slices_Contains_int_int.f k (rd_L1 xs i) t).bind fun b => (if b = true then (some i) else (impl_ContestOf.l0 k xs t (wrap64 (i + 1))))) else (none)) else (some (-1))
set_option maxHeartbeats 8000000 in
set_option maxRecDepth 100000 in
theorem impl_ContestOf.search (k : Nat) (A0 : Option Addr) (c0 : Nat) (l0 : List (List Int)) (gb : Nat) (t : Int) (r : Int) (w : World) (hr0 : Kd.C (Kd.slice 3 (Kd.int .i64)) w A0 l0.length l0) (hc0 : l0.length ≤ c0) (ht : w.cell? ⟨gb, 0, none⟩ = some (.int .i64 t)) (h : impl_ContestOf.l0 k l0 t 0 = some r) :
    Calls Try.prog 48 #[.slice A0 l0.length c0, .func (.func 49) #[] #[.pointer (some ⟨gb, 0, none⟩)]] w fun e w' => e = .returned (.int .i64 r) ∧ Below w.heap.size w w' := by
  have HR0 := Aside0.mk hr0
  have HC0 := Aside0.mk hc0
  have HT := Aside0.mk ht
  clear hr0 hc0 ht
  have H' := Aside0.mk h
  clear h
  have HB := Aside0.mk (Below.refl w.heap.size w)
  go_enter Try.func48, Try.ntmps48
  go_wp2

  go_loopg [8] k (fun kq v w' => ∃ (i : Int), v = .int .i64 i ∧ Aside0 (impl_ContestOf.l0 kq l0 t i = some r) ∧ Aside0 (kq ≤ k) ∧ Aside0 (Below w.heap.size w w'))
  case atStart => exact ⟨0, es, H', ⟨Nat.le_refl _⟩, HB⟩
  case round =>
    clear H' HB
    obtain ⟨i, rfl, HA, HK1, HB⟩ := hrel
    cases gk with
    | zero => exact absurd HA.out (by simp [impl_ContestOf.l0])
    | succ k1 =>
      have H := HA.out
      clear HA
      simp only [impl_ContestOf.l0] at H
      by_cases c7 : i < (l0.length : Int)
      · rw [if_pos c7] at H
        have c7b0 : decide (i < (l0.length : Int)) = true := decide_eq_true c7
        clear c7
        by_cases c8 : 0 ≤ i
        · rw [if_pos c8] at H
          have c8b0 : decide (0 ≤ i) = true := decide_eq_true c8
          clear c8
          obtain ⟨b, A30, H⟩ := Option.bind_eq_some_iff.mp H
          have A3 := Aside0.mk A30
          clear A30
          have HH := Aside0.mk H
          clear H
          have p1 : 0 ≤ i := asm
          have q1 : i < (l0.length : Int) := asm
          obtain ⟨ad1, A1_0, c1_0, e1, hx1_0, hl1_0, hi1_0⟩ := at_L1 HR0.out i p1 q1
          cases e1
          replace hx1_0 := hcl HB.out hx1_0
          have HR1 := Aside0.mk hi1_0
          have HC1 := Aside0.mk hl1_0
          clear hi1_0 hl1_0
          replace p1 := eq_true p1
          replace q1 := eq_true q1
          cases b with
          | true =>
            have H := HH.out
            rw [if_pos rfl] at H
            obtain rfl := Option.some.inj H
            clear H HH
            go_wp2_with (go_at_call 49; (with_reducible refine (impl_ContestOf.test k1 A1_0 c1_0 (rd_L1 l0 i) gb t true _ ?side1 HC1.out ?side2 A3.out).mono ?_); (case side1 => exact ck (Kd.C_below HR1.out bel)); (case side2 => exact hcl bel HT.out); rintro e w' ⟨rfl, hb⟩; replace HB := Aside0.mk (below_step bel hb); clear hb)
            go_ret
            exact ⟨er, bel⟩
          | false =>
            have H := HH.out
            rw [if_neg (by decide)] at H
            have HN := Aside0.mk H
            clear H HH
            go_wp2_with (go_at_call 49; (with_reducible refine (impl_ContestOf.test k1 A1_0 c1_0 (rd_L1 l0 i) gb t false _ ?side1 HC1.out ?side2 A3.out).mono ?_); (case side1 => exact ck (Kd.C_below HR1.out bel)); (case side2 => exact hcl bel HT.out); rintro e w' ⟨rfl, hb⟩; replace HB := Aside0.mk (below_step bel hb); clear hb)
            go_roundg k1
            case measure => have := HK1.out; omega
            case rel => exact ⟨wrap64 (i + 1), es, HN, ⟨by have := HK1.out; omega⟩, ⟨bel⟩⟩
        · rw [if_neg c8] at H
          exact absurd H (by simp)
      · rw [if_neg c7] at H
        have c7b0 : decide (i < (l0.length : Int)) = false := decide_eq_false c7
        clear c7
        obtain rfl := Option.some.inj H
        go_wp2
        go_ret
        exact ⟨er, bel⟩
def impl_ContestOf.f (k : Nat) (a0 : Int) (l1 : List (S38)) (a2 : Int) : Option (Int) := (impl_Qualified.f k a0 l1).bind fun b => impl_ContestOf.l0 k b.1 a2 0
set_option maxHeartbeats 8000000 in
set_option maxRecDepth 100000 in
theorem impl_ContestOf.calls (k : Nat) (a0 : Int) (A1 : Option Addr) (c1 : Nat) (l1 : List (S38)) (a2 : Int) (r : Int) (w : World) (hr1 : Kd.C k38 w A1 l1.length l1) (hc1 : l1.length ≤ c1) (h : impl_ContestOf.f k a0 l1 a2 = some r) :
    Calls Try.prog 21 #[.int .i64 a0, .slice A1 l1.length c1, .int .i64 a2] w fun e w' => e = .returned (.int .i64 r) ∧ Below w.heap.size w w' := by
  have HR1 := Aside0.mk hr1
  have HC1 := Aside0.mk hc1
  clear hr1 hc1
  have HB := Aside0.mk (Below.refl w.heap.size w)
  obtain ⟨⟨t1, t2⟩, A40, H⟩ := Option.bind_eq_some_iff.mp h
  clear h
  have A4 := Aside0.mk A40
  clear A40
  have H' := Aside0.mk H
  clear H
  go_enter Try.func21, Try.ntmps21
  go_wp2_with (first | ((with_reducible refine gate_dst (N := 5) rfl ?_); refine box_event ?hg (N := 5) ?hd (cs := #[.int .i64 a2]) (t := 3) ?hr ?_; (case hd => rfl); (case hg => rfl); (case hr => first | (go_simp; done) | (go_simp; rfl)); intro gb1 hg w5 hbox hb; have BK1 := Aside0.mk (hbox); have GW1 := Aside0.mk ((bsz hg : w.heap.size ≤ gb1)); replace HB := Aside0.mk (below_step bel hb); clear hb hbox hg) | (go_at_call 18; (with_reducible refine (impl_Qualified.calls k a0 _ _ l1 t1 t2 _ ?side1 ?side2 A4.out).mono ?_); (case side1 => exact ck (Kd.C_below HR1.out bel)); (case side2 => exact HC1.out); rintro e w6 ⟨v422, rfl, ho0, hb⟩; replace BK1 := Aside0.mk (bb BK1.out hb); have HO423 := Aside0.mk (Kd.S_lower ho0 (below_size bel)); replace HB := Aside0.mk (below_step bel hb); (try clear hb); (try clear ho0); obtain ⟨Ao6, co6, eo6⟩ := Kd.S_slice HO423.out; subst eo6) | (go_at_call 48; (with_reducible refine (impl_ContestOf.search k Ao6 co6 t1 gb1 a2 r _ ?side1 ?side2 ?side3 H'.out).mono ?_); (case side1 => exact (Kd.S_reads' (by (with_reducible repeat (first | apply Kd.S_alloc | apply Kd.S_drewN | apply Kd.S_drew)); exact HO423.out)).2.2); (case side2 => exact (Kd.S_reads' HO423.out).2.1); (case side3 => exact cc1 BK1.out); rintro e w7 ⟨rfl, hb⟩; replace HB := Aside0.mk (below_step bel hb); clear hb))
  go_ret
  exact ⟨er, bel⟩

def impl_LostPlaces.f (k : Nat) (a0 : Int) (l1 : List (S38)) : Option (Int) := (impl_ContestsOk.f k a0 l1).bind fun t248 => (if t248 = true then ((impl_settle.f k l1).bind fun bt249 => (some bt249.2.2)) else (some (-1)))
set_option maxHeartbeats 8000000 in
set_option maxRecDepth 100000 in
theorem impl_LostPlaces.calls (k : Nat) (a0 : Int) (A1 : Option Addr) (c1 : Nat) (l1 : List (S38)) (r : Int) (w : World) (hr1 : Kd.C k38 w A1 l1.length l1) (hc1 : l1.length ≤ c1) (h : impl_LostPlaces.f k a0 l1 = some r) :
    Calls Try.prog 22 #[.int .i64 a0, .slice A1 l1.length c1] w fun e w' => e = .returned (.int .i64 r) ∧ Below w.heap.size w w' := by
  have HR1 := Aside0.mk hr1
  have HC1 := Aside0.mk hc1
  clear hr1 hc1
  have HB := Aside0.mk (Below.refl w.heap.size w)
  have H : ((impl_ContestsOk.f k a0 l1).bind fun t248 => (if t248 = true then ((impl_settle.f k l1).bind fun bt249 => (some bt249.2.2)) else (some (-1)))) = some r := h
  clear h
  replace H := Option.bind_eq_some_iff.mp H
  obtain ⟨t248, A30, H⟩ := H
  replace H : (if t248 = true then ((impl_settle.f k l1).bind fun bt249 => (some bt249.2.2)) else (some (-1))) = some r := H
  have A3 := Aside0.mk A30
  clear A30
  by_cases c4 : t248 = true
  · subst c4
    have H1 : ((impl_settle.f k l1).bind fun bt249 => (some bt249.2.2)) = some r := by rw [if_pos rfl] at H; exact H
    clear H
    have H := H1
    clear H1
    replace H := Option.bind_eq_some_iff.mp H
    obtain ⟨⟨t249, t250, t251⟩, A50, H⟩ := H
    replace H : (some t251) = some r := H
    have A5 := Aside0.mk A50
    clear A50
    obtain rfl := Option.some.inj H
    go_enter Try.func22, Try.ntmps22
    go_wp2_with (first | ((with_reducible refine gate_callee (f := 15) rfl ?_); refine goesL_ (some 10) rfl rfl Try.func15 (by kernel_rfl) rfl #[.int .i64 a0, .slice A1 l1.length c1] rfl ga ?_; (with_reducible refine (impl_ContestsOk.calls k a0 _ _ l1 true _ ?side1 ?side2 A3.out).mono ?_); (case side1 => exact ck HR1.out); (case side2 => exact HC1.out); rintro e w6 ⟨rfl, hb⟩; refine ⟨_, rfl, ?_⟩; replace HB := Aside0.mk (below_step bel hb); (try clear hb)) | ((with_reducible refine gate_callee (f := 47) rfl ?_); refine goesL_ (some 14) rfl rfl Try.func47 (by kernel_rfl) rfl #[.slice A1 l1.length c1] rfl ga ?_; (with_reducible refine (impl_settle.calls k _ _ l1 t249 t250 t251 _ ?side1 ?side2 A5.out).mono ?_); (case side1 => exact ck (Kd.C_below HR1.out HB.out)); (case side2 => exact HC1.out); rintro e w7 ⟨v252, v254, rfl, ho0, ho1, hb⟩; refine ⟨_, rfl, ?_⟩; have HO253 := Aside0.mk (Kd.S_lower ho0 (below_size bel)); have HO255 := Aside0.mk (Kd.R_lower ho1 (below_size bel)); replace HB := Aside0.mk (below_step bel hb); (try clear hb); (try clear ho0); (try clear ho1)))
    go_ret
    exact ⟨er, bel⟩
  · replace c4 := Bool.eq_false_iff.mpr c4
    subst c4
    have H1 : (some (-1)) = some r := by rw [if_neg (show ¬ (false = true) by decide)] at H; exact H
    clear H
    have H := H1
    clear H1
    obtain rfl := Option.some.inj H
    go_enter Try.func22, Try.ntmps22
    go_wp2_with (first | ((with_reducible refine gate_callee (f := 15) rfl ?_); refine goesL_ (some 10) rfl rfl Try.func15 (by kernel_rfl) rfl #[.int .i64 a0, .slice A1 l1.length c1] rfl ga ?_; (with_reducible refine (impl_ContestsOk.calls k a0 _ _ l1 false _ ?side1 ?side2 A3.out).mono ?_); (case side1 => exact ck HR1.out); (case side2 => exact HC1.out); rintro e w8 ⟨rfl, hb⟩; refine ⟨_, rfl, ?_⟩; replace HB := Aside0.mk (below_step bel hb); (try clear hb)))
    go_ret
    exact ⟨er, bel⟩

end Go.Proofs.Ytaopcamaceddnaa.Z
