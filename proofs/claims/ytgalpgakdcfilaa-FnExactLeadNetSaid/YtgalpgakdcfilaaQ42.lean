-- Written by a program of this session (wip/xp.py).
import Derived.Test.YtgalpgakdcfilaaQ0
import Derived.Test.YtgalpgakdcfilaaQ39
namespace Go.Proofs.Ytgalpgakdcfilaa.Q
open Go.RowKit Go.Proofs.YtgalpgakdcfilaaW.PrintWords Go.Proofs.YtgalpgakdcfilaaW.PrintLast Go.Proofs.YtgalpgakdcfilaaW.PrintMore
attribute [local go_sem] max2_int min2_int max_two min_two max_three min_three max_four min_four   -- for this text's walks alone
set_option linter.unusedVariables false
set_option linter.unusedSimpArgs false
set_option maxHeartbeats 8000000
set_option maxRecDepth 100000

def impl_rankerOf_1.f (a0_0 : Int) (a0_1 : Int) (a0_2 : Int) (a0_3 : Int) (a0_4 : Int) : Option (Bool) := some true
theorem impl_rankerOf_1.calls (a0_0 : Int) (a0_1 : Int) (a0_2 : Int) (a0_3 : Int) (a0_4 : Int) (r : Bool) (w : World) (h : impl_rankerOf_1.f a0_0 a0_1 a0_2 a0_3 a0_4 = some r) : Calls Try.prog 132 #[.agg #[.int .i64 a0_0, .int .i64 a0_1, .int .i64 a0_2, .int .i64 a0_3, .int .i64 a0_4]] w fun e w' => e = .returned (.bool r) ∧ Below w.heap.size w w' := by
 have hu71 := Try.underlying71
 have HB := am (Below.refl w.heap.size w)
 have H : (some true) = some r := h
 clear h
 obtain rfl := Option.some.inj H
 go_enter Try.func132, Try.ntmps132
 go_wp2_with (first | ((with_reducible refine gd 1 ?_); refine bx w 1 #[.int .i64 a0_0, .int .i64 a0_1, .int .i64 a0_2, .int .i64 a0_3, .int .i64 a0_4] 71 ?_; clear HB; intro gb516 w2 BK516 GE516 HB))
 go_ret
 exact ⟨er, bel⟩
def tb.fld (r : S129) : Nat → Int
  | 0 => r.f0
  | 1 => r.f1
  | 2 => r.f2
  | 3 => r.f3
  | 4 => r.f4
  | 5 => r.f5
  | _ => r.f6
def tb.put (r : S129) (n : Int) : Nat → S129
  | 0 => ⟨n, r.f1, r.f2, r.f3, r.f4, r.f5, r.f6⟩
  | 1 => ⟨r.f0, n, r.f2, r.f3, r.f4, r.f5, r.f6⟩
  | 2 => ⟨r.f0, r.f1, n, r.f3, r.f4, r.f5, r.f6⟩
  | 3 => ⟨r.f0, r.f1, r.f2, n, r.f4, r.f5, r.f6⟩
  | 4 => ⟨r.f0, r.f1, r.f2, r.f3, n, r.f5, r.f6⟩
  | 5 => ⟨r.f0, r.f1, r.f2, r.f3, r.f4, n, r.f6⟩
  | _ => ⟨r.f0, r.f1, r.f2, r.f3, r.f4, r.f5, n⟩
def tb.add (x : List S129) (i : Int) (j : Nat) (v : Int) : List S129 := x.set i.toNat (tb.put (rd_T129 x i) (wrap64 (tb.fld (rd_T129 x i) j + v)) j)
theorem tb.add_len (x : List S129) (i : Int) (j : Nat) (v : Int) : (tb.add x i j v).length = x.length := by simp [tb.add]
theorem tb.cell {W : World} {base go co n : Nat} {ok : Nat → Prop} {x : List S129} (HO : Kd.R k129 129 W base ok (.slice (some ⟨go, 0, none⟩) n co) x) (hn : x.length = n) {i : Int} (p : 0 ≤ i) (q : i < (n : Int)) (j : Nat) (hj : j < 7) : W.cell? ⟨go, i.toNat * 7 + j, none⟩ = some (.int .i64 (tb.fld (rd_T129 x i) j)) ∧ W.frozen? ⟨go, i.toNat * 7 + j, none⟩ = false := by
 subst hn
 obtain ⟨ce, hcl, hM, hcc, hfr⟩ := Kd.R_elem HO z129 i p q
 obtain rfl := k129_openM hM
 match j, hj with
 | 0, _ => exact ⟨hcc 0 _ rfl, hfr 0⟩
 | 1, _ => exact ⟨hcc 1 _ rfl, hfr 1⟩
 | 2, _ => exact ⟨hcc 2 _ rfl, hfr 2⟩
 | 3, _ => exact ⟨hcc 3 _ rfl, hfr 3⟩
 | 4, _ => exact ⟨hcc 4 _ rfl, hfr 4⟩
 | 5, _ => exact ⟨hcc 5 _ rfl, hfr 5⟩
 | 6, _ => exact ⟨hcc 6 _ rfl, hfr 6⟩
theorem tb.seg {W : World} {base go co n : Nat} {ok : Nat → Prop} {x : List S129} (HO : Kd.R k129 129 W base ok (.slice (some ⟨go, 0, none⟩) n co) x) (hn : x.length = n) {i : Int} (p : 0 ≤ i) (q : i < (n : Int)) (j : Nat) (hj : j < 7) (v : Int) : Kd.R k129 129 (W.setCell ⟨go, i.toNat * 7 + j, none⟩ (.int .i64 (wrap64 (tb.fld (rd_T129 x i) j + v)))) base ok (.slice (some ⟨go, 0, none⟩) n co) (tb.add x i j v) ∧ W.grownBy (W.setCell ⟨go, i.toNat * 7 + j, none⟩ (.int .i64 (wrap64 (tb.fld (rd_T129 x i) j + v)))) (some go) := by
 subst hn
 obtain ⟨ce, hcl, hM, hcc, hfr⟩ := Kd.R_elem HO z129 i p q
 obtain rfl := k129_openM hM
 match j, hj with
 | 0, _ => exact Kd.R_seg HO i p q (seg := [.int .i64 (wrap64 (tb.fld (rd_T129 x i) 0 + v))]) (j := 0) hcl hcc (show 1 ≤ 7 from by decide) (x' := tb.put (rd_T129 x i) (wrap64 (tb.fld (rd_T129 x i) 0 + v)) 0) (k129_mkM _ _ _ _) (fun _ hk => hk)
 | 1, _ => exact Kd.R_seg HO i p q (seg := [.int .i64 (wrap64 (tb.fld (rd_T129 x i) 1 + v))]) (j := 1) hcl hcc (show 2 ≤ 7 from by decide) (x' := tb.put (rd_T129 x i) (wrap64 (tb.fld (rd_T129 x i) 1 + v)) 1) (k129_mkM _ _ _ _) (fun _ hk => hk)
 | 2, _ => exact Kd.R_seg HO i p q (seg := [.int .i64 (wrap64 (tb.fld (rd_T129 x i) 2 + v))]) (j := 2) hcl hcc (show 3 ≤ 7 from by decide) (x' := tb.put (rd_T129 x i) (wrap64 (tb.fld (rd_T129 x i) 2 + v)) 2) (k129_mkM _ _ _ _) (fun _ hk => hk)
 | 3, _ => exact Kd.R_seg HO i p q (seg := [.int .i64 (wrap64 (tb.fld (rd_T129 x i) 3 + v))]) (j := 3) hcl hcc (show 4 ≤ 7 from by decide) (x' := tb.put (rd_T129 x i) (wrap64 (tb.fld (rd_T129 x i) 3 + v)) 3) (k129_mkM _ _ _ _) (fun _ hk => hk)
 | 4, _ => exact Kd.R_seg HO i p q (seg := [.int .i64 (wrap64 (tb.fld (rd_T129 x i) 4 + v))]) (j := 4) hcl hcc (show 5 ≤ 7 from by decide) (x' := tb.put (rd_T129 x i) (wrap64 (tb.fld (rd_T129 x i) 4 + v)) 4) (k129_mkM _ _ _ _) (fun _ hk => hk)
 | 5, _ => exact Kd.R_seg HO i p q (seg := [.int .i64 (wrap64 (tb.fld (rd_T129 x i) 5 + v))]) (j := 5) hcl hcc (show 6 ≤ 7 from by decide) (x' := tb.put (rd_T129 x i) (wrap64 (tb.fld (rd_T129 x i) 5 + v)) 5) (k129_mkM _ _ _ _) (fun _ hk => hk)
 | 6, _ => exact Kd.R_seg HO i p q (seg := [.int .i64 (wrap64 (tb.fld (rd_T129 x i) 6 + v))]) (j := 6) hcl hcc (show 7 ≤ 7 from by decide) (x' := tb.put (rd_T129 x i) (wrap64 (tb.fld (rd_T129 x i) 6 + v)) 6) (k129_mkM _ _ _ _) (fun _ hk => hk)
mutual
def impl_tableOf_impl_rankerOf_1.l0 : Nat → List (S129) → List (S71) → Int → Int → Int → Int → Int → List Int → Bool → Option ((List (S129)))
  | 0, _, _, _, _, _, _, _, _, _ => none
  | k + 1, x9, x19, x20, x21, x518000, x518001, x518002, x518003, x518004 => if x21 < x20 then (if 0 ≤ x21 then (if x21 < (x19.length : Int) then ((impl_GoalsOf.f ((rd_T71 x19 x21).f0) ((rd_T71 x19 x21).f1) ((rd_T71 x19 x21).f2) ((rd_T71 x19 x21).f3) ((rd_T71 x19 x21).f4)).bind fun bt523 => (if bt523.2.2 = true then ((impl_rankerOf_1.f ((rd_T71 x19 x21).f0) ((rd_T71 x19 x21).f1) ((rd_T71 x19 x21).f2) ((rd_T71 x19 x21).f3) ((rd_T71 x19 x21).f4)).bind fun t526 => (impl_tableOf_impl_rankerOf_1.j1 k x9 bt523.1 bt523.2.1 x19 x20 x21 (!t526) x518000 x518001 x518002 x518003 x518004 ((rd_T71 x19 x21).f0) ((rd_T71 x19 x21).f1) ((rd_T71 x19 x21).f2) ((rd_T71 x19 x21).f3) ((rd_T71 x19 x21).f4))) else (impl_tableOf_impl_rankerOf_1.j1 k x9 bt523.1 bt523.2.1 x19 x20 x21 true x518000 x518001 x518002 x518003 x518004 ((rd_T71 x19 x21).f0) ((rd_T71 x19 x21).f1) ((rd_T71 x19 x21).f2) ((rd_T71 x19 x21).f3) ((rd_T71 x19 x21).f4)))) else (none)) else (none)) else (some x9)
def impl_tableOf_impl_rankerOf_1.j1 : Nat → List (S129) → Int → Int → List (S71) → Int → Int → Bool → Int → Int → Int → List Int → Bool → Int → Int → Int → Int → Int → Option ((List (S129)))
  | 0, _, _, _, _, _, _, _, _, _, _, _, _, _, _, _, _, _ => none
  | k + 1, x9, x12, x13, x19, x20, x21, x38, x518000, x518001, x518002, x518003, x518004, x523000, x523001, x523002, x523003, x523004 => if x38 = true then (impl_tableOf_impl_rankerOf_1.l0 k x9 x19 x20 (wrap64 (x21 + 1)) x518000 x518001 x518002 x518003 x518004) else (if 0 ≤ x523000 then (if x523000 < (x9.length : Int) then (if 0 ≤ x523001 then (if x523001 < (x9.length : Int) then (if x12 > x13 then (impl_tableOf_impl_rankerOf_1.l0 k (tb.add (tb.add (tb.add (tb.add (tb.add (tb.add (tb.add (tb.add (tb.add (tb.add x9 x523000 0 1) x523001 0 1) x523000 4 x12) x523000 5 x13) x523001 4 x13) x523001 5 x12) x523000 1 1) x523001 3 1) x523000 6 x518000) x523001 6 x518002) x19 x20 (wrap64 (x21 + 1)) x518000 x518001 x518002 x518003 x518004) else (if x12 < x13 then (impl_tableOf_impl_rankerOf_1.l0 k (tb.add (tb.add (tb.add (tb.add (tb.add (tb.add (tb.add (tb.add (tb.add (tb.add x9 x523000 0 1) x523001 0 1) x523000 4 x12) x523000 5 x13) x523001 4 x13) x523001 5 x12) x523001 1 1) x523000 3 1) x523001 6 x518000) x523000 6 x518002) x19 x20 (wrap64 (x21 + 1)) x518000 x518001 x518002 x518003 x518004) else (impl_tableOf_impl_rankerOf_1.l0 k (tb.add (tb.add (tb.add (tb.add (tb.add (tb.add (tb.add (tb.add (tb.add (tb.add x9 x523000 0 1) x523001 0 1) x523000 4 x12) x523000 5 x13) x523001 4 x13) x523001 5 x12) x523000 2 1) x523001 2 1) x523000 6 x518001) x523001 6 x518001) x19 x20 (wrap64 (x21 + 1)) x518000 x518001 x518002 x518003 x518004))) else (none)) else (none)) else (none)) else (none))
end
def impl_tableOf_impl_rankerOf_1.f (k : Nat) (a0_0 : Int) (a0_1 : Int) (a0_2 : Int) (l0_3 : List Int) (a0_4 : Bool) (a1 : Int) (l2 : List (S71))  : Option ((List (S129))) := if 0 ≤ a1 then (if (a1 : Int).toNat ≤ 5026338869833 then (impl_tableOf_impl_rankerOf_1.l0 k (List.replicate (a1 : Int).toNat z129) l2 (l2.length : Int) 0 a0_0 a0_1 a0_2 l0_3 a0_4) else (none)) else (none)
set_option maxHeartbeats 8000000 in
set_option maxRecDepth 100000 in
theorem impl_tableOf_impl_rankerOf_1.calls (k : Nat) (a0_0 : Int) (a0_1 : Int) (a0_2 : Int) (A0_3 : Option Addr) (c0_3 : Nat) (l0_3 : List Int) (a0_4 : Bool) (a1 : Int) (A2 : Option Addr) (c2 : Nat) (l2 : List (S71))  (r : List (S129)) (w : World) (hr0_3 : Kd.C (Kd.int .i64) w A0_3 l0_3.length l0_3) (hc0_3 : l0_3.length ≤ c0_3) (hr2 : Kd.C k71 w A2 l2.length l2) (hc2 : l2.length ≤ c2) (h : impl_tableOf_impl_rankerOf_1.f k a0_0 a0_1 a0_2 l0_3 a0_4 a1 l2 = some r) :
    Calls Try.prog 131 #[.agg #[.int .i64 a0_0, .int .i64 a0_1, .int .i64 a0_2, .slice A0_3 l0_3.length c0_3, .bool a0_4], .int .i64 a1, .slice A2 l2.length c2, .func (.func 132) #[] #[]] w fun e w' => ∃ v0_ : Value, e = .returned (v0_) ∧ Kd.R k129 129 w' w.heap.size (fun _ => True) v0_ r ∧ Below w.heap.size w w' := by
  have hu34 := Try.underlying34
  have hu71 := Try.underlying71
  have HR0_3 := am hr0_3
  have HC0_3 := am hc0_3
  clear hr0_3 hc0_3
  have HR2 := am hr2
  have HC2 := am hc2
  clear hr2 hc2
  have HB := am (Below.refl w.heap.size w)
  have H : (if 0 ≤ a1 then (if (a1 : Int).toNat ≤ 5026338869833 then (impl_tableOf_impl_rankerOf_1.l0 k (List.replicate (a1 : Int).toNat z129) l2 (l2.length : Int) 0 a0_0 a0_1 a0_2 l0_3 a0_4) else (none)) else (none)) = some r := h
  clear h
  by_cases c5 : 0 ≤ a1
  · rw [if_pos c5] at H
    have c5b0 := eq_true c5
    have c5b1 : decide (0 ≤ a1) = true := decide_eq_true c5
    clear c5
    by_cases c6 : (a1 : Int).toNat ≤ 5026338869833
    · rw [if_pos c6] at H
      have c6b0 := eq_true c6
      have c6b1 : decide ((a1 : Int).toNat ≤ 5026338869833) = true := decide_eq_true c6
      clear c6
      obtain ⟨y518, hy518⟩ : ∃ y_ : List (S129), y_ = (List.replicate (a1 : Int).toNat z129) := ⟨_, rfl⟩
      replace H : (impl_tableOf_impl_rankerOf_1.l0 k y518 l2 (l2.length : Int) 0 a0_0 a0_1 a0_2 l0_3 a0_4) = some r := by first | (rw [hy518]; with_reducible exact H) | (have H2_ := (Option.bind_some _ _).symm.trans H; rw [hy518]; with_reducible exact H2_) | (have H2_ := (Option.bind_some _ _).symm.trans H; with_reducible exact H2_) | with_reducible exact H | (rw [hy518]; exact H) | exact H
      have Ny518 := am hy518
      clear hy518
      have H' := am H
      clear H
      go_enter Try.func131, Try.ntmps131
      go_wp2_with (first | ((with_reducible refine gate_dst (N := 4) rfl ?_); refine box_event ?hg (N := 4) ?hd (cs := #[.int .i64 a0_0, .int .i64 a0_1, .int .i64 a0_2, .slice A0_3 l0_3.length c0_3, .bool a0_4]) (t := 34) ?hr ?_; (case hd => rfl); (case hg => rfl); (case hr => first | (go_simp; done) | (go_simp; rfl)); intro gb517 hg w7 hbox hb; have BK517 := am (hbox); have GW517 := am ((bsz hg : w.heap.size ≤ gb517)); have GE517 := am ((bsz hg : w.heap.size ≤ gb517)); replace HB := am (below_step bel hb); clear hb hbox hg) | ((with_reducible refine gate_dst (N := 18) rfl ?_); refine Kd.R_make k129 _ 129 rfl (N := 18) rfl 117 _ _ rfl a1 rfl rfl Try.underlying117 (.agg #[(.int .i64 0), (.int .i64 0), (.int .i64 0), (.int .i64 0), (.int .i64 0), (.int .i64 0), (.int .i64 0)]) 56 info129 rfl (by decide) (by omega) z129 (ok := fun _ => True) (okp := fun _ => True) (k129_mkM _ _ _ z129 ) (fun _ hk => hk) trivial (asm) (Nat.le_trans (Nat.mul_le_mul_right _ (asm : a1.toNat ≤ 5026338869833)) (by omega)) (Below.refl _ _) (Nat.le_refl _) ?_; intro v519 w8 ho9 hb hg_ hnew_; clear hg_ hnew_; (first | rw [← Ny518.out] at ho9 | (simp only [Int.reduceToNat] at ho9; rw [← Ny518.out] at ho9)); have HO520 := am (Kd.R_lower ho9 (below_size bel)); replace BK517 := am (bb BK517.out hb); replace HB := am (below_step bel hb); clear hb ho9))
      go_loopg [21] k (fun kq v21 w' => ∃ (x9_1 : List (S129)) (x21_1 : Int), v21 = .int .i64 x21_1 ∧ Aside0 (impl_tableOf_impl_rankerOf_1.l0 kq x9_1 l2 (l2.length : Int) x21_1 a0_0 a0_1 a0_2 l0_3 a0_4 = some r) ∧ Aside0 (kq ≤ k) ∧ Aside0 (Kd.R k129 129 w' w.heap.size (fun _ => True) v519 x9_1) ∧ Aside0 (w'.heap[gb517]? = some (.cells #[.int .i64 a0_0, .int .i64 a0_1, .int .i64 a0_2, (.slice A0_3 l0_3.length c0_3), .bool a0_4] 34 (0, 0))) ∧ Aside0 (Below w.heap.size w w'))
      case atStart => exact ⟨(y518), (0), (es), H', ⟨Nat.le_refl _⟩, ⟨rk HO520.out⟩, ⟨bk BK517.out⟩, ⟨bel⟩⟩
      case round =>
        clear H'
        try clear c1; try clear c2; try clear p2; try clear c5; try clear c5b0; try clear c5b1; try clear c6; try clear c6b0; try clear c6b1
        obtain ⟨x9_1, x21_1, rfl, HA, HK1, HO_9, BK517, HB⟩ := hrel
        cases gk with
        | zero => exact absurd HA.out (by simp [impl_tableOf_impl_rankerOf_1.l0])
        | succ k1 =>
          have H := HA.out
          clear HA
          simp only [impl_tableOf_impl_rankerOf_1.l0] at H
          by_cases c10 : x21_1 < (l2.length : Int)
          · rw [if_pos c10] at H
            have c10b0 : decide (x21_1 < (l2.length : Int)) = true := decide_eq_true c10
            clear c10
            by_cases c11 : 0 ≤ x21_1
            · rw [if_pos c11] at H
              have c11b0 : decide (0 ≤ x21_1) = true := decide_eq_true c11
              clear c11
              by_cases c12 : x21_1 < (l2.length : Int)
              · rw [if_pos c12] at H
                have c12b0 : decide (x21_1 < (l2.length : Int)) = true := decide_eq_true c12
                clear c12
                replace H := Option.bind_eq_some_iff.mp H
                obtain ⟨⟨t523, t524, t525⟩, A130, H⟩ := H
                replace H : (if t525 = true then ((impl_rankerOf_1.f ((rd_T71 l2 x21_1).f0) ((rd_T71 l2 x21_1).f1) ((rd_T71 l2 x21_1).f2) ((rd_T71 l2 x21_1).f3) ((rd_T71 l2 x21_1).f4)).bind fun t526 => (impl_tableOf_impl_rankerOf_1.j1 k1 x9_1 t523 t524 l2 (l2.length : Int) x21_1 (!t526) a0_0 a0_1 a0_2 l0_3 a0_4 ((rd_T71 l2 x21_1).f0) ((rd_T71 l2 x21_1).f1) ((rd_T71 l2 x21_1).f2) ((rd_T71 l2 x21_1).f3) ((rd_T71 l2 x21_1).f4))) else (impl_tableOf_impl_rankerOf_1.j1 k1 x9_1 t523 t524 l2 (l2.length : Int) x21_1 true a0_0 a0_1 a0_2 l0_3 a0_4 ((rd_T71 l2 x21_1).f0) ((rd_T71 l2 x21_1).f1) ((rd_T71 l2 x21_1).f2) ((rd_T71 l2 x21_1).f3) ((rd_T71 l2 x21_1).f4))) = some r := H
                have A13 := am A130
                clear A130
                have HC14 := am H
                clear H
                have p521 : 0 ≤ (x21_1 : Int) := asm
                have q521 : x21_1 < (l2.length : Int) := asm
                obtain ⟨ad521, e521, hx521_0, hx521_1, hx521_2, hx521_3, hx521_4⟩ := at_T71 HR2.out x21_1 p521 q521
                cases e521
                replace hx521_0 := hcl HB.out hx521_0
                replace hx521_1 := hcl HB.out hx521_1
                replace hx521_2 := hcl HB.out hx521_2
                replace hx521_3 := hcl HB.out hx521_3
                replace hx521_4 := hcl HB.out hx521_4
                replace p521 := eq_true p521
                replace q521 := eq_true q521
                go_upto_region 6 with (first | ((with_reducible refine gate_dst (N := 11) rfl ?_); refine box_event ?hg (N := 11) ?hd (cs := #[.int .i64 0, .int .i64 0, .int .i64 0, .int .i64 0, .int .i64 0]) (t := 71) ?hr ?_; (case hd => rfl); (case hg => rfl); (case hr => first | (go_simp; done) | (go_simp; rfl)); intro gb522 hg w15 hbox hb; have BK522 := am (hbox); have GW522 := am ((bsz hg : w.heap.size ≤ gb522)); have GE522 := am ((bsz hg : w.heap.size ≤ gb522)); have NB517_522 := am ((nlt hg BK517.out : gb517 ≠ gb522)); have NB522_517 := am ((ngt hg BK517.out : gb522 ≠ gb517)); replace HO_9 := am (Kd.R_below (rk HO_9.out) hb); replace BK517 := am (bb BK517.out hb); replace HB := am (below_step bel hb); clear hb hbox hg; have hnb16 := NB522_517.out; have hnc16 := NB517_522.out; obtain ⟨hcz17_0, hcz17_1, hcz17_2, hcz17_3, hcz17_4, hfz17_0, hfz17_1, hfz17_2, hfz17_3, hfz17_4⟩ := cf5 BK522.out) | ((with_reducible refine gate_callee (f := 145) rfl ?_); refine goesL_ (some 27) rfl rfl Try.func145 (by kernel_rfl) rfl #[.agg #[.int .i64 ((rd_T71 l2 x21_1).f0), .int .i64 ((rd_T71 l2 x21_1).f1), .int .i64 ((rd_T71 l2 x21_1).f2), .int .i64 ((rd_T71 l2 x21_1).f3), .int .i64 ((rd_T71 l2 x21_1).f4)]] rfl ga ?_; (with_reducible refine (impl_GoalsOf.calls ((rd_T71 l2 x21_1).f0) ((rd_T71 l2 x21_1).f1) ((rd_T71 l2 x21_1).f2) ((rd_T71 l2 x21_1).f3) ((rd_T71 l2 x21_1).f4) t523 t524 t525 _ A13.out).mono ?_); rintro e w18 ⟨rfl, hb⟩; refine ⟨_, rfl, ?_⟩; replace HO_9 := am (Kd.R_below (by exact rk (Kd.R_mono (Kd.R_far (p := ⟨gb522, 4, none⟩) (Kd.R_far (p := ⟨gb522, 3, none⟩) (Kd.R_far (p := ⟨gb522, 2, none⟩) (Kd.R_far (p := ⟨gb522, 1, none⟩) (Kd.R_far (p := ⟨gb522, 0, none⟩) (Kd.R_types HO_9.out BK522.out (by decide)) (fun _ hk => hk.2) (.int .i64 ((rd_T71 l2 x21_1).f0))) (fun _ hk => hk.2) (.int .i64 ((rd_T71 l2 x21_1).f1))) (fun _ hk => hk.2) (.int .i64 ((rd_T71 l2 x21_1).f2))) (fun _ hk => hk.2) (.int .i64 ((rd_T71 l2 x21_1).f3))) (fun _ hk => hk.2) (.int .i64 ((rd_T71 l2 x21_1).f4))) (fun _ h_ => h_.1))) hb); replace BK517 := am (bb BK517.out hb); replace BK522 := am (blk_below (g := gb522) (o := .cells #[.int .i64 ((rd_T71 l2 x21_1).f0), .int .i64 ((rd_T71 l2 x21_1).f1), .int .i64 ((rd_T71 l2 x21_1).f2), .int .i64 ((rd_T71 l2 x21_1).f3), .int .i64 ((rd_T71 l2 x21_1).f4)] 71 (0, 0)) (by (with_reducible repeat (first | refine blk_drewN ?_ _ | refine blk_drew ?_ | refine blk_alloc ?_ _)); refine blk_put (cs := #[.int .i64 ((rd_T71 l2 x21_1).f0), .int .i64 ((rd_T71 l2 x21_1).f1), .int .i64 ((rd_T71 l2 x21_1).f2), .int .i64 ((rd_T71 l2 x21_1).f3), .int .i64 0]) ?_ 4 _ rfl; (with_reducible repeat (first | refine blk_drewN ?_ _ | refine blk_drew ?_ | refine blk_alloc ?_ _)); refine blk_put (cs := #[.int .i64 ((rd_T71 l2 x21_1).f0), .int .i64 ((rd_T71 l2 x21_1).f1), .int .i64 ((rd_T71 l2 x21_1).f2), .int .i64 0, .int .i64 0]) ?_ 3 _ rfl; (with_reducible repeat (first | refine blk_drewN ?_ _ | refine blk_drew ?_ | refine blk_alloc ?_ _)); refine blk_put (cs := #[.int .i64 ((rd_T71 l2 x21_1).f0), .int .i64 ((rd_T71 l2 x21_1).f1), .int .i64 0, .int .i64 0, .int .i64 0]) ?_ 2 _ rfl; (with_reducible repeat (first | refine blk_drewN ?_ _ | refine blk_drew ?_ | refine blk_alloc ?_ _)); refine blk_put (cs := #[.int .i64 ((rd_T71 l2 x21_1).f0), .int .i64 0, .int .i64 0, .int .i64 0, .int .i64 0]) ?_ 1 _ rfl; (with_reducible repeat (first | refine blk_drewN ?_ _ | refine blk_drew ?_ | refine blk_alloc ?_ _)); refine blk_put (cs := #[.int .i64 0, .int .i64 0, .int .i64 0, .int .i64 0, .int .i64 0]) ?_ 0 _ rfl; (with_reducible repeat (first | refine blk_drewN ?_ _ | refine blk_drew ?_ | refine blk_alloc ?_ _)); exact BK522.out) hb); replace HB := am (below_step bel hb); (try clear hb)))
                (try simp only [Act.put, List.setIfInBounds_toArray, List.set_cons_zero, List.set_cons_succ])
                go_cut [38] (fun v38 wc => ∃ (kq : Nat) (x38_13 : Bool), v38 = .bool x38_13 ∧ Aside0 (impl_tableOf_impl_rankerOf_1.j1 kq x9_1 t523 t524 l2 (l2.length : Int) x21_1 x38_13 a0_0 a0_1 a0_2 l0_3 a0_4 ((rd_T71 l2 x21_1).f0) ((rd_T71 l2 x21_1).f1) ((rd_T71 l2 x21_1).f2) ((rd_T71 l2 x21_1).f3) ((rd_T71 l2 x21_1).f4) = some r) ∧ Aside0 (kq ≤ k1) ∧ Aside0 (Kd.R k129 129 wc w.heap.size (fun _ => True) v519 x9_1) ∧ Aside0 (wc.heap[gb517]? = some (.cells #[.int .i64 a0_0, .int .i64 a0_1, .int .i64 a0_2, (.slice A0_3 l0_3.length c0_3), .bool a0_4] 34 (0, 0))) ∧ Aside0 (wc.heap[gb522]? = some (.cells #[.int .i64 ((rd_T71 l2 x21_1).f0), .int .i64 ((rd_T71 l2 x21_1).f1), .int .i64 ((rd_T71 l2 x21_1).f2), .int .i64 ((rd_T71 l2 x21_1).f3), .int .i64 ((rd_T71 l2 x21_1).f4)] 71 (0, 0))) ∧ Aside0 (Below w.heap.size w wc))
                case first =>
                  have H := HC14.out
                  clear HC14
                  by_cases c19 : t525 = true
                  · subst c19
                    have H1 : ((impl_rankerOf_1.f ((rd_T71 l2 x21_1).f0) ((rd_T71 l2 x21_1).f1) ((rd_T71 l2 x21_1).f2) ((rd_T71 l2 x21_1).f3) ((rd_T71 l2 x21_1).f4)).bind fun t526 => (impl_tableOf_impl_rankerOf_1.j1 k1 x9_1 t523 t524 l2 (l2.length : Int) x21_1 (!t526) a0_0 a0_1 a0_2 l0_3 a0_4 ((rd_T71 l2 x21_1).f0) ((rd_T71 l2 x21_1).f1) ((rd_T71 l2 x21_1).f2) ((rd_T71 l2 x21_1).f3) ((rd_T71 l2 x21_1).f4))) = some r := by rw [if_pos rfl] at H; exact H
                    clear H
                    have H := H1
                    clear H1
                    replace H := Option.bind_eq_some_iff.mp H
                    obtain ⟨t526, A200, H⟩ := H
                    replace H : (impl_tableOf_impl_rankerOf_1.j1 k1 x9_1 t523 t524 l2 (l2.length : Int) x21_1 (!t526) a0_0 a0_1 a0_2 l0_3 a0_4 ((rd_T71 l2 x21_1).f0) ((rd_T71 l2 x21_1).f1) ((rd_T71 l2 x21_1).f2) ((rd_T71 l2 x21_1).f3) ((rd_T71 l2 x21_1).f4)) = some r := H
                    have A20 := am A200
                    clear A200
                    have H' := am H
                    clear H
                    have hnb21 := NB522_517.out
                    have hnc21 := NB517_522.out
                    obtain ⟨hcz22_0, hcz22_1, hcz22_2, hcz22_3, hcz22_4, hfz22_0, hfz22_1, hfz22_2, hfz22_3, hfz22_4⟩ := cf5 BK522.out
                    go_wp2_with (first | (go_at_call 132; (with_reducible refine (impl_rankerOf_1.calls ((rd_T71 l2 x21_1).f0) ((rd_T71 l2 x21_1).f1) ((rd_T71 l2 x21_1).f2) ((rd_T71 l2 x21_1).f3) ((rd_T71 l2 x21_1).f4) t526 _ A20.out).mono ?_); rintro e w23 ⟨rfl, hb⟩; replace HO_9 := am (Kd.R_below (rk HO_9.out) hb); replace BK517 := am (bb BK517.out hb); replace BK522 := am (bb BK522.out hb); replace HB := am (below_step bel hb); (try clear hb); (try clear hb2); (try clear hk); (try clear hi)))
                    go_meet
                    case rel => exact ⟨_, (!t526), (es), H', ⟨by have := HK1.out; first | omega | exact Nat.le_refl _⟩, ⟨rk HO_9.out⟩, ⟨bk BK517.out⟩, ⟨bk BK522.out⟩, ⟨bel⟩⟩
                  · replace c19 := Bool.eq_false_iff.mpr c19
                    subst c19
                    have H1 : (impl_tableOf_impl_rankerOf_1.j1 k1 x9_1 t523 t524 l2 (l2.length : Int) x21_1 true a0_0 a0_1 a0_2 l0_3 a0_4 ((rd_T71 l2 x21_1).f0) ((rd_T71 l2 x21_1).f1) ((rd_T71 l2 x21_1).f2) ((rd_T71 l2 x21_1).f3) ((rd_T71 l2 x21_1).f4)) = some r := by rw [if_neg (show ¬ (false = true) by decide)] at H; exact H
                    clear H
                    have H := H1
                    clear H1
                    have H' := am H
                    clear H
                    go_wp2
                    go_meet
                    case rel => exact ⟨_, (true), (es), H', ⟨by have := HK1.out; first | omega | exact Nat.le_refl _⟩, ⟨rk HO_9.out⟩, ⟨bk BK517.out⟩, ⟨bk BK522.out⟩, ⟨bel⟩⟩
                case rest =>
                  clear HC14
                  try clear c1; try clear c2; try clear p2; try clear c5; try clear c5b0; try clear c5b1; try clear p5; try clear q5; try clear hx5; try clear c6; try clear c6b0; try clear c6b1; try clear c10; try clear c10b0; try clear c11; try clear c11b0; try clear c12; try clear c12b0; try clear c13; try clear c14; try clear c16; try clear c19; try clear c21; try clear hcz17_0; try clear hcz17_1; try clear hcz17_2; try clear hcz17_3; try clear hcz17_4; try clear hcz22_0; try clear hcz22_1; try clear hcz22_2; try clear hcz22_3; try clear hcz22_4; try clear hfz17_0; try clear hfz17_1; try clear hfz17_2; try clear hfz17_3; try clear hfz17_4; try clear hfz22_0; try clear hfz22_1; try clear hfz22_2; try clear hfz22_3; try clear hfz22_4; try clear hx521_0; try clear hx521_1; try clear hx521_2; try clear hx521_3; try clear hx521_4; try clear p2; try clear p521; try clear q521
                  obtain ⟨kq, x38_13, rfl, HA, HJ13, HO_9, BK517, BK522, HB⟩ := hcut
                  cases kq with
                  | zero => exact absurd HA.out (by simp [impl_tableOf_impl_rankerOf_1.j1])
                  | succ kj13 =>
                    have H := HA.out
                    clear HA
                    simp only [impl_tableOf_impl_rankerOf_1.j1] at H
                    by_cases c24 : x38_13 = true
                    · subst c24
                      have H1 : (impl_tableOf_impl_rankerOf_1.l0 kj13 x9_1 l2 (l2.length : Int) (wrap64 (x21_1 + 1)) a0_0 a0_1 a0_2 l0_3 a0_4) = some r := by rw [if_pos rfl] at H; exact H
                      clear H
                      have H := H1
                      clear H1
                      have H' := am H
                      clear H
                      go_wp2
                      go_roundg kj13
                      case measure => have := HK1.out; have := HJ13.out; omega
                      case rel => exact ⟨(x9_1), (wrap64 (x21_1 + 1)), (es), H', ⟨by have := HK1.out; have := HJ13.out; omega⟩, ⟨rk HO_9.out⟩, ⟨bk BK517.out⟩, ⟨bel⟩⟩
                    · replace c24 := Bool.eq_false_iff.mpr c24
                      subst c24
                      have H1 := H
                      rw [if_neg (show ¬ (false = true) by decide)] at H1
                      clear H
                      have H := H1
                      clear H1
                      by_cases c25 : 0 ≤ ((rd_T71 l2 x21_1).f0)
                      · rw [if_pos c25] at H
                        have c25b0 : decide (0 ≤ ((rd_T71 l2 x21_1).f0)) = true := decide_eq_true c25
                        clear c25
                        by_cases c26 : ((rd_T71 l2 x21_1).f0) < (x9_1.length : Int)
                        · rw [if_pos c26] at H
                          have c26b0 : decide (((rd_T71 l2 x21_1).f0) < (x9_1.length : Int)) = true := decide_eq_true c26
                          clear c26
                          by_cases c27 : 0 ≤ ((rd_T71 l2 x21_1).f1)
                          · rw [if_pos c27] at H
                            have c27b0 : decide (0 ≤ ((rd_T71 l2 x21_1).f1)) = true := decide_eq_true c27
                            clear c27
                            by_cases c28 : ((rd_T71 l2 x21_1).f1) < (x9_1.length : Int)
                            · rw [if_pos c28] at H
                              have c28b0 : decide (((rd_T71 l2 x21_1).f1) < (x9_1.length : Int)) = true := decide_eq_true c28
                              clear c28
                              obtain ⟨hz0, hz1, hz2, hz3, hz4, hy0, hy1, hy2, hy3, hy4⟩ := cf5 BK522.out
                              have e4 : 0 < x9_1.length := by
                                have h1 := of_decide_eq_true c25b0
                                have h2 := of_decide_eq_true c26b0
                                omega
                              obtain ⟨go, co, eo, gb, gl, cl, HG⟩ := Kd.R_form HO_9.out e4
                              subst eo
                              have e0 := of_decide_eq_true c25b0
                              have e1 := of_decide_eq_true c26b0
                              have e2 := of_decide_eq_true c27b0
                              have e3 := of_decide_eq_true c28b0
                              have E0 := am e0
                              have E1 := am e1
                              have E2 := am e2
                              have E3 := am e3
                              replace e0 := eq_true e0
                              replace e1 := eq_true e1
                              replace e2 := eq_true e2
                              replace e3 := eq_true e3
                              have HL := am H
                              clear H
                              have GB := am gb
                              have GB2 := am gb
                              go_wp2
                              go_region
                              have T0 := am (Kd.R_drew HO_9.out)
                              have A0 := am (blk_drew BK517.out)
                              have B0 := am (blk_drew BK522.out)
                              have C0 := am (below_drew1 HB.out)
                              clear HO_9 BK517 BK522 HB hz0 hz1 hz2 hz3 hz4 hy0 hy1 hy2 hy3 hy4 HG cl gl
                              generalize wc.drew = w0_ at T0 A0 B0 C0 ⊢
                              have hc0 := tb.cell T0.out (by simp only [tb.add_len]) E0.out E1.out 0 (by decide); have hx0 := hc0.1; have hf0 := hc0.2; clear hc0; simp only [Nat.add_zero] at hx0 hf0
                              by_cases c35 : t523 > t524
                              · have c35b0 : decide (t524 < t523) = true := decide_eq_true c35
                                go_wp2_with (first | ((with_reducible refine gate_store (t := 3) (p := 53) rfl ?_); refine store_event (t := 3) (p := 53) (v := ?vo53) (w1 := (w0_.setCell ⟨go, ((rd_T71 l2 x21_1).f0).toNat * 7, none⟩ (.int .i64 (wrap64 (tb.fld (rd_T129 x9_1 ((rd_T71 l2 x21_1).f0)) 0 + 1))))) ?hg ?ho ?hn ?hr ?_; (case ho => rfl); (case hg => rfl); (case hn => rfl); (case hr => first | (go_simp; done) | (go_simp; rfl)); intro w1_ hw; have hs := tb.seg T0.out (by simp only [tb.add_len]) E0.out E1.out 0 (by decide) 1; have hg : w0_.grownBy w1_ (some go) := (by rw [hw]; exact hs.2); have T1 := am (by rw [hw]; exact hs.1 : Kd.R k129 129 w1_ w.heap.size (fun _ => True) (.slice (some ⟨go, 0, none⟩) x9_1.length co) (tb.add x9_1 ((rd_T71 l2 x21_1).f0) 0 1)); have A1 := am (blk_grown A0.out hg (Kd.R_ne T0.out A0.out (by decide))); have B1 := am (blk_grown B0.out hg (Kd.R_ne T0.out B0.out (by decide))); have C1 := am ((by rw [hw]; exact below_set C0.out GB.out) : Below w.heap.size w w1_); clear hs hg hw hx0 hf0 T0 A0 B0 C0; have hc1 := tb.cell T1.out (by simp only [tb.add_len]) E2.out E3.out 0 (by decide); have hx1 := hc1.1; have hf1 := hc1.2; clear hc1; simp only [Nat.add_zero] at hx1 hf1) | ((with_reducible refine gate_store (t := 3) (p := 60) rfl ?_); refine store_event (t := 3) (p := 60) (v := ?vo60) (w1 := (w1_.setCell ⟨go, ((rd_T71 l2 x21_1).f1).toNat * 7, none⟩ (.int .i64 (wrap64 (tb.fld (rd_T129 (tb.add x9_1 ((rd_T71 l2 x21_1).f0) 0 1) ((rd_T71 l2 x21_1).f1)) 0 + 1))))) ?hg ?ho ?hn ?hr ?_; (case ho => rfl); (case hg => rfl); (case hn => rfl); (case hr => first | (go_simp; done) | (go_simp; rfl)); intro w2_ hw; have hs := tb.seg T1.out (by simp only [tb.add_len]) E2.out E3.out 0 (by decide) 1; have hg : w1_.grownBy w2_ (some go) := (by rw [hw]; exact hs.2); have T2 := am (by rw [hw]; exact hs.1 : Kd.R k129 129 w2_ w.heap.size (fun _ => True) (.slice (some ⟨go, 0, none⟩) x9_1.length co) (tb.add (tb.add x9_1 ((rd_T71 l2 x21_1).f0) 0 1) ((rd_T71 l2 x21_1).f1) 0 1)); have A2 := am (blk_grown A1.out hg (Kd.R_ne T1.out A1.out (by decide))); have B2 := am (blk_grown B1.out hg (Kd.R_ne T1.out B1.out (by decide))); have C2 := am ((by rw [hw]; exact below_set C1.out GB.out) : Below w.heap.size w w2_); clear hs hg hw hx1 hf1 T1 A1 B1 C1; have hc2 := tb.cell T2.out (by simp only [tb.add_len]) E0.out E1.out 4 (by decide); have hx2 := hc2.1; have hf2 := hc2.2; clear hc2) | ((with_reducible refine gate_store (t := 3) (p := 68) rfl ?_); refine store_event (t := 3) (p := 68) (v := ?vo68) (w1 := (w2_.setCell ⟨go, ((rd_T71 l2 x21_1).f0).toNat * 7 + 4, none⟩ (.int .i64 (wrap64 (tb.fld (rd_T129 (tb.add (tb.add x9_1 ((rd_T71 l2 x21_1).f0) 0 1) ((rd_T71 l2 x21_1).f1) 0 1) ((rd_T71 l2 x21_1).f0)) 4 + t523))))) ?hg ?ho ?hn ?hr ?_; (case ho => rfl); (case hg => rfl); (case hn => rfl); (case hr => first | (go_simp; done) | (go_simp; rfl)); intro w3_ hw; have hs := tb.seg T2.out (by simp only [tb.add_len]) E0.out E1.out 4 (by decide) t523; have hg : w2_.grownBy w3_ (some go) := (by rw [hw]; exact hs.2); have T3 := am (by rw [hw]; exact hs.1 : Kd.R k129 129 w3_ w.heap.size (fun _ => True) (.slice (some ⟨go, 0, none⟩) x9_1.length co) (tb.add (tb.add (tb.add x9_1 ((rd_T71 l2 x21_1).f0) 0 1) ((rd_T71 l2 x21_1).f1) 0 1) ((rd_T71 l2 x21_1).f0) 4 t523)); have A3 := am (blk_grown A2.out hg (Kd.R_ne T2.out A2.out (by decide))); have B3 := am (blk_grown B2.out hg (Kd.R_ne T2.out B2.out (by decide))); have C3 := am ((by rw [hw]; exact below_set C2.out GB.out) : Below w.heap.size w w3_); clear hs hg hw hx2 hf2 T2 A2 B2 C2; have hc3 := tb.cell T3.out (by simp only [tb.add_len]) E0.out E1.out 5 (by decide); have hx3 := hc3.1; have hf3 := hc3.2; clear hc3) | ((with_reducible refine gate_store (t := 3) (p := 76) rfl ?_); refine store_event (t := 3) (p := 76) (v := ?vo76) (w1 := (w3_.setCell ⟨go, ((rd_T71 l2 x21_1).f0).toNat * 7 + 5, none⟩ (.int .i64 (wrap64 (tb.fld (rd_T129 (tb.add (tb.add (tb.add x9_1 ((rd_T71 l2 x21_1).f0) 0 1) ((rd_T71 l2 x21_1).f1) 0 1) ((rd_T71 l2 x21_1).f0) 4 t523) ((rd_T71 l2 x21_1).f0)) 5 + t524))))) ?hg ?ho ?hn ?hr ?_; (case ho => rfl); (case hg => rfl); (case hn => rfl); (case hr => first | (go_simp; done) | (go_simp; rfl)); intro w4_ hw; have hs := tb.seg T3.out (by simp only [tb.add_len]) E0.out E1.out 5 (by decide) t524; have hg : w3_.grownBy w4_ (some go) := (by rw [hw]; exact hs.2); have T4 := am (by rw [hw]; exact hs.1 : Kd.R k129 129 w4_ w.heap.size (fun _ => True) (.slice (some ⟨go, 0, none⟩) x9_1.length co) (tb.add (tb.add (tb.add (tb.add x9_1 ((rd_T71 l2 x21_1).f0) 0 1) ((rd_T71 l2 x21_1).f1) 0 1) ((rd_T71 l2 x21_1).f0) 4 t523) ((rd_T71 l2 x21_1).f0) 5 t524)); have A4 := am (blk_grown A3.out hg (Kd.R_ne T3.out A3.out (by decide))); have B4 := am (blk_grown B3.out hg (Kd.R_ne T3.out B3.out (by decide))); have C4 := am ((by rw [hw]; exact below_set C3.out GB.out) : Below w.heap.size w w4_); clear hs hg hw hx3 hf3 T3 A3 B3 C3; have hc4 := tb.cell T4.out (by simp only [tb.add_len]) E2.out E3.out 4 (by decide); have hx4 := hc4.1; have hf4 := hc4.2; clear hc4) | ((with_reducible refine gate_store (t := 3) (p := 84) rfl ?_); refine store_event (t := 3) (p := 84) (v := ?vo84) (w1 := (w4_.setCell ⟨go, ((rd_T71 l2 x21_1).f1).toNat * 7 + 4, none⟩ (.int .i64 (wrap64 (tb.fld (rd_T129 (tb.add (tb.add (tb.add (tb.add x9_1 ((rd_T71 l2 x21_1).f0) 0 1) ((rd_T71 l2 x21_1).f1) 0 1) ((rd_T71 l2 x21_1).f0) 4 t523) ((rd_T71 l2 x21_1).f0) 5 t524) ((rd_T71 l2 x21_1).f1)) 4 + t524))))) ?hg ?ho ?hn ?hr ?_; (case ho => rfl); (case hg => rfl); (case hn => rfl); (case hr => first | (go_simp; done) | (go_simp; rfl)); intro w5_ hw; have hs := tb.seg T4.out (by simp only [tb.add_len]) E2.out E3.out 4 (by decide) t524; have hg : w4_.grownBy w5_ (some go) := (by rw [hw]; exact hs.2); have T5 := am (by rw [hw]; exact hs.1 : Kd.R k129 129 w5_ w.heap.size (fun _ => True) (.slice (some ⟨go, 0, none⟩) x9_1.length co) (tb.add (tb.add (tb.add (tb.add (tb.add x9_1 ((rd_T71 l2 x21_1).f0) 0 1) ((rd_T71 l2 x21_1).f1) 0 1) ((rd_T71 l2 x21_1).f0) 4 t523) ((rd_T71 l2 x21_1).f0) 5 t524) ((rd_T71 l2 x21_1).f1) 4 t524)); have A5 := am (blk_grown A4.out hg (Kd.R_ne T4.out A4.out (by decide))); have B5 := am (blk_grown B4.out hg (Kd.R_ne T4.out B4.out (by decide))); have C5 := am ((by rw [hw]; exact below_set C4.out GB.out) : Below w.heap.size w w5_); clear hs hg hw hx4 hf4 T4 A4 B4 C4; have hc5 := tb.cell T5.out (by simp only [tb.add_len]) E2.out E3.out 5 (by decide); have hx5 := hc5.1; have hf5 := hc5.2; clear hc5) | ((with_reducible refine gate_store (t := 3) (p := 92) rfl ?_); refine store_event (t := 3) (p := 92) (v := ?vo92) (w1 := (w5_.setCell ⟨go, ((rd_T71 l2 x21_1).f1).toNat * 7 + 5, none⟩ (.int .i64 (wrap64 (tb.fld (rd_T129 (tb.add (tb.add (tb.add (tb.add (tb.add x9_1 ((rd_T71 l2 x21_1).f0) 0 1) ((rd_T71 l2 x21_1).f1) 0 1) ((rd_T71 l2 x21_1).f0) 4 t523) ((rd_T71 l2 x21_1).f0) 5 t524) ((rd_T71 l2 x21_1).f1) 4 t524) ((rd_T71 l2 x21_1).f1)) 5 + t523))))) ?hg ?ho ?hn ?hr ?_; (case ho => rfl); (case hg => rfl); (case hn => rfl); (case hr => first | (go_simp; done) | (go_simp; rfl)); intro w6_ hw; have hs := tb.seg T5.out (by simp only [tb.add_len]) E2.out E3.out 5 (by decide) t523; have hg : w5_.grownBy w6_ (some go) := (by rw [hw]; exact hs.2); have T6 := am (by rw [hw]; exact hs.1 : Kd.R k129 129 w6_ w.heap.size (fun _ => True) (.slice (some ⟨go, 0, none⟩) x9_1.length co) (tb.add (tb.add (tb.add (tb.add (tb.add (tb.add x9_1 ((rd_T71 l2 x21_1).f0) 0 1) ((rd_T71 l2 x21_1).f1) 0 1) ((rd_T71 l2 x21_1).f0) 4 t523) ((rd_T71 l2 x21_1).f0) 5 t524) ((rd_T71 l2 x21_1).f1) 4 t524) ((rd_T71 l2 x21_1).f1) 5 t523)); have A6 := am (blk_grown A5.out hg (Kd.R_ne T5.out A5.out (by decide))); have B6 := am (blk_grown B5.out hg (Kd.R_ne T5.out B5.out (by decide))); have C6 := am ((by rw [hw]; exact below_set C5.out GB.out) : Below w.heap.size w w6_); clear hs hg hw hx5 hf5 T5 A5 B5 C5; have hc6 := tb.cell T6.out (by simp only [tb.add_len]) E0.out E1.out 1 (by decide); have hx6 := hc6.1; have hf6 := hc6.2; clear hc6) | ((with_reducible refine gate_store (t := 3) (p := 135) rfl ?_); refine store_event (t := 3) (p := 135) (v := ?vo135) (w1 := (w6_.setCell ⟨go, ((rd_T71 l2 x21_1).f0).toNat * 7 + 1, none⟩ (.int .i64 (wrap64 (tb.fld (rd_T129 (tb.add (tb.add (tb.add (tb.add (tb.add (tb.add x9_1 ((rd_T71 l2 x21_1).f0) 0 1) ((rd_T71 l2 x21_1).f1) 0 1) ((rd_T71 l2 x21_1).f0) 4 t523) ((rd_T71 l2 x21_1).f0) 5 t524) ((rd_T71 l2 x21_1).f1) 4 t524) ((rd_T71 l2 x21_1).f1) 5 t523) ((rd_T71 l2 x21_1).f0)) 1 + 1))))) ?hg ?ho ?hn ?hr ?_; (case ho => rfl); (case hg => rfl); (case hn => rfl); (case hr => first | (go_simp; done) | (go_simp; rfl)); intro w7_ hw; have hs := tb.seg T6.out (by simp only [tb.add_len]) E0.out E1.out 1 (by decide) 1; have hg : w6_.grownBy w7_ (some go) := (by rw [hw]; exact hs.2); have T7 := am (by rw [hw]; exact hs.1 : Kd.R k129 129 w7_ w.heap.size (fun _ => True) (.slice (some ⟨go, 0, none⟩) x9_1.length co) (tb.add (tb.add (tb.add (tb.add (tb.add (tb.add (tb.add x9_1 ((rd_T71 l2 x21_1).f0) 0 1) ((rd_T71 l2 x21_1).f1) 0 1) ((rd_T71 l2 x21_1).f0) 4 t523) ((rd_T71 l2 x21_1).f0) 5 t524) ((rd_T71 l2 x21_1).f1) 4 t524) ((rd_T71 l2 x21_1).f1) 5 t523) ((rd_T71 l2 x21_1).f0) 1 1)); have A7 := am (blk_grown A6.out hg (Kd.R_ne T6.out A6.out (by decide))); have B7 := am (blk_grown B6.out hg (Kd.R_ne T6.out B6.out (by decide))); have C7 := am ((by rw [hw]; exact below_set C6.out GB.out) : Below w.heap.size w w7_); clear hs hg hw hx6 hf6 T6 A6 B6 C6; have hc7 := tb.cell T7.out (by simp only [tb.add_len]) E2.out E3.out 3 (by decide); have hx7 := hc7.1; have hf7 := hc7.2; clear hc7) | ((with_reducible refine gate_store (t := 3) (p := 142) rfl ?_); refine store_event (t := 3) (p := 142) (v := ?vo142) (w1 := (w7_.setCell ⟨go, ((rd_T71 l2 x21_1).f1).toNat * 7 + 3, none⟩ (.int .i64 (wrap64 (tb.fld (rd_T129 (tb.add (tb.add (tb.add (tb.add (tb.add (tb.add (tb.add x9_1 ((rd_T71 l2 x21_1).f0) 0 1) ((rd_T71 l2 x21_1).f1) 0 1) ((rd_T71 l2 x21_1).f0) 4 t523) ((rd_T71 l2 x21_1).f0) 5 t524) ((rd_T71 l2 x21_1).f1) 4 t524) ((rd_T71 l2 x21_1).f1) 5 t523) ((rd_T71 l2 x21_1).f0) 1 1) ((rd_T71 l2 x21_1).f1)) 3 + 1))))) ?hg ?ho ?hn ?hr ?_; (case ho => rfl); (case hg => rfl); (case hn => rfl); (case hr => first | (go_simp; done) | (go_simp; rfl)); intro w8_ hw; have hs := tb.seg T7.out (by simp only [tb.add_len]) E2.out E3.out 3 (by decide) 1; have hg : w7_.grownBy w8_ (some go) := (by rw [hw]; exact hs.2); have T8 := am (by rw [hw]; exact hs.1 : Kd.R k129 129 w8_ w.heap.size (fun _ => True) (.slice (some ⟨go, 0, none⟩) x9_1.length co) (tb.add (tb.add (tb.add (tb.add (tb.add (tb.add (tb.add (tb.add x9_1 ((rd_T71 l2 x21_1).f0) 0 1) ((rd_T71 l2 x21_1).f1) 0 1) ((rd_T71 l2 x21_1).f0) 4 t523) ((rd_T71 l2 x21_1).f0) 5 t524) ((rd_T71 l2 x21_1).f1) 4 t524) ((rd_T71 l2 x21_1).f1) 5 t523) ((rd_T71 l2 x21_1).f0) 1 1) ((rd_T71 l2 x21_1).f1) 3 1)); have A8 := am (blk_grown A7.out hg (Kd.R_ne T7.out A7.out (by decide))); have B8 := am (blk_grown B7.out hg (Kd.R_ne T7.out B7.out (by decide))); have C8 := am ((by rw [hw]; exact below_set C7.out GB.out) : Below w.heap.size w w8_); clear hs hg hw hx7 hf7 T7 A7 B7 C7))
                                have hc8 := tb.cell T8.out (by simp only [tb.add_len]) E0.out E1.out 6 (by decide); have hx8 := hc8.1; have hf8 := hc8.2; clear hc8
                                obtain ⟨hr0, hr1, hr2, hr3, hr4, hq0, hq1, hq2, hq3, hq4⟩ := cf5 A8.out
                                go_region
                                have hs := tb.seg T8.out (by simp only [tb.add_len]) E0.out E1.out 6 (by decide) a0_0
                                have T9 := am (Kd.R_drew hs.1)
                                have A9 := am (blk_drew (blk_grown A8.out hs.2 (Kd.R_ne T8.out A8.out (by decide))))
                                have C9 := am (below_drew1 (below_set C8.out GB.out : Below w.heap.size w (w8_.setCell ⟨go, ((rd_T71 l2 x21_1).f0).toNat * 7 + 6, none⟩ (.int .i64 (wrap64 (tb.fld (rd_T129 (tb.add (tb.add (tb.add (tb.add (tb.add (tb.add (tb.add (tb.add x9_1 ((rd_T71 l2 x21_1).f0) 0 1) ((rd_T71 l2 x21_1).f1) 0 1) ((rd_T71 l2 x21_1).f0) 4 t523) ((rd_T71 l2 x21_1).f0) 5 t524) ((rd_T71 l2 x21_1).f1) 4 t524) ((rd_T71 l2 x21_1).f1) 5 t523) ((rd_T71 l2 x21_1).f0) 1 1) ((rd_T71 l2 x21_1).f1) 3 1) ((rd_T71 l2 x21_1).f0)) 6 + a0_0))))))
                                clear hs hx8 hf8 T8 A8 C8 hr0 hr1 hr2 hr3 hr4 hq0 hq1 hq2 hq3 hq4
                                generalize (w8_.setCell ⟨go, ((rd_T71 l2 x21_1).f0).toNat * 7 + 6, none⟩ (.int .i64 (wrap64 (tb.fld (rd_T129 (tb.add (tb.add (tb.add (tb.add (tb.add (tb.add (tb.add (tb.add x9_1 ((rd_T71 l2 x21_1).f0) 0 1) ((rd_T71 l2 x21_1).f1) 0 1) ((rd_T71 l2 x21_1).f0) 4 t523) ((rd_T71 l2 x21_1).f0) 5 t524) ((rd_T71 l2 x21_1).f1) 4 t524) ((rd_T71 l2 x21_1).f1) 5 t523) ((rd_T71 l2 x21_1).f0) 1 1) ((rd_T71 l2 x21_1).f1) 3 1) ((rd_T71 l2 x21_1).f0)) 6 + a0_0)))).drew = w9_ at T9 A9 C9 ⊢
                                have hc9 := tb.cell T9.out (by simp only [tb.add_len]) E2.out E3.out 6 (by decide); have hx9 := hc9.1; have hf9 := hc9.2; clear hc9
                                obtain ⟨hr0, hr1, hr2, hr3, hr4, hq0, hq1, hq2, hq3, hq4⟩ := cf5 A9.out
                                go_wp2
                                go_region
                                have hs := tb.seg T9.out (by simp only [tb.add_len]) E2.out E3.out 6 (by decide) a0_2
                                have T10 := am (Kd.R_drew hs.1)
                                have A10 := am (blk_drew (blk_grown A9.out hs.2 (Kd.R_ne T9.out A9.out (by decide))))
                                have C10 := am (below_drew1 (below_set C9.out GB.out : Below w.heap.size w (w9_.setCell ⟨go, ((rd_T71 l2 x21_1).f1).toNat * 7 + 6, none⟩ (.int .i64 (wrap64 (tb.fld (rd_T129 (tb.add (tb.add (tb.add (tb.add (tb.add (tb.add (tb.add (tb.add (tb.add x9_1 ((rd_T71 l2 x21_1).f0) 0 1) ((rd_T71 l2 x21_1).f1) 0 1) ((rd_T71 l2 x21_1).f0) 4 t523) ((rd_T71 l2 x21_1).f0) 5 t524) ((rd_T71 l2 x21_1).f1) 4 t524) ((rd_T71 l2 x21_1).f1) 5 t523) ((rd_T71 l2 x21_1).f0) 1 1) ((rd_T71 l2 x21_1).f1) 3 1) ((rd_T71 l2 x21_1).f0) 6 a0_0) ((rd_T71 l2 x21_1).f1)) 6 + a0_2))))))
                                clear hs hx9 hf9 T9 A9 C9 hr0 hr1 hr2 hr3 hr4 hq0 hq1 hq2 hq3 hq4
                                generalize (w9_.setCell ⟨go, ((rd_T71 l2 x21_1).f1).toNat * 7 + 6, none⟩ (.int .i64 (wrap64 (tb.fld (rd_T129 (tb.add (tb.add (tb.add (tb.add (tb.add (tb.add (tb.add (tb.add (tb.add x9_1 ((rd_T71 l2 x21_1).f0) 0 1) ((rd_T71 l2 x21_1).f1) 0 1) ((rd_T71 l2 x21_1).f0) 4 t523) ((rd_T71 l2 x21_1).f0) 5 t524) ((rd_T71 l2 x21_1).f1) 4 t524) ((rd_T71 l2 x21_1).f1) 5 t523) ((rd_T71 l2 x21_1).f0) 1 1) ((rd_T71 l2 x21_1).f1) 3 1) ((rd_T71 l2 x21_1).f0) 6 a0_0) ((rd_T71 l2 x21_1).f1)) 6 + a0_2)))).drew = w10_ at T10 A10 C10 ⊢
                                have H := HL.out
                                rw [if_pos (of_decide_eq_true c35b0)] at H
                                have H' := am H
                                clear H
                                go_wp2
                                go_roundg kj13
                                case measure => have := HK1.out; have := HJ13.out; omega
                                case rel => exact ⟨(tb.add (tb.add (tb.add (tb.add (tb.add (tb.add (tb.add (tb.add (tb.add (tb.add x9_1 ((rd_T71 l2 x21_1).f0) 0 1) ((rd_T71 l2 x21_1).f1) 0 1) ((rd_T71 l2 x21_1).f0) 4 t523) ((rd_T71 l2 x21_1).f0) 5 t524) ((rd_T71 l2 x21_1).f1) 4 t524) ((rd_T71 l2 x21_1).f1) 5 t523) ((rd_T71 l2 x21_1).f0) 1 1) ((rd_T71 l2 x21_1).f1) 3 1) ((rd_T71 l2 x21_1).f0) 6 a0_0) ((rd_T71 l2 x21_1).f1) 6 a0_2), (wrap64 (x21_1 + 1)), (es), H', ⟨by have := HK1.out; have := HJ13.out; omega⟩, ⟨T10.out⟩, ⟨A10.out⟩, ⟨C10.out⟩⟩
                              · have c35b0 : decide (t524 < t523) = false := decide_eq_false c35
                                by_cases c36 : t523 < t524
                                · have c36b0 : decide (t523 < t524) = true := decide_eq_true c36
                                  go_wp2_with (first | ((with_reducible refine gate_store (t := 3) (p := 53) rfl ?_); refine store_event (t := 3) (p := 53) (v := ?vo53) (w1 := (w0_.setCell ⟨go, ((rd_T71 l2 x21_1).f0).toNat * 7, none⟩ (.int .i64 (wrap64 (tb.fld (rd_T129 x9_1 ((rd_T71 l2 x21_1).f0)) 0 + 1))))) ?hg ?ho ?hn ?hr ?_; (case ho => rfl); (case hg => rfl); (case hn => rfl); (case hr => first | (go_simp; done) | (go_simp; rfl)); intro w1_ hw; have hs := tb.seg T0.out (by simp only [tb.add_len]) E0.out E1.out 0 (by decide) 1; have hg : w0_.grownBy w1_ (some go) := (by rw [hw]; exact hs.2); have T1 := am (by rw [hw]; exact hs.1 : Kd.R k129 129 w1_ w.heap.size (fun _ => True) (.slice (some ⟨go, 0, none⟩) x9_1.length co) (tb.add x9_1 ((rd_T71 l2 x21_1).f0) 0 1)); have A1 := am (blk_grown A0.out hg (Kd.R_ne T0.out A0.out (by decide))); have B1 := am (blk_grown B0.out hg (Kd.R_ne T0.out B0.out (by decide))); have C1 := am ((by rw [hw]; exact below_set C0.out GB.out) : Below w.heap.size w w1_); clear hs hg hw hx0 hf0 T0 A0 B0 C0; have hc1 := tb.cell T1.out (by simp only [tb.add_len]) E2.out E3.out 0 (by decide); have hx1 := hc1.1; have hf1 := hc1.2; clear hc1; simp only [Nat.add_zero] at hx1 hf1) | ((with_reducible refine gate_store (t := 3) (p := 60) rfl ?_); refine store_event (t := 3) (p := 60) (v := ?vo60) (w1 := (w1_.setCell ⟨go, ((rd_T71 l2 x21_1).f1).toNat * 7, none⟩ (.int .i64 (wrap64 (tb.fld (rd_T129 (tb.add x9_1 ((rd_T71 l2 x21_1).f0) 0 1) ((rd_T71 l2 x21_1).f1)) 0 + 1))))) ?hg ?ho ?hn ?hr ?_; (case ho => rfl); (case hg => rfl); (case hn => rfl); (case hr => first | (go_simp; done) | (go_simp; rfl)); intro w2_ hw; have hs := tb.seg T1.out (by simp only [tb.add_len]) E2.out E3.out 0 (by decide) 1; have hg : w1_.grownBy w2_ (some go) := (by rw [hw]; exact hs.2); have T2 := am (by rw [hw]; exact hs.1 : Kd.R k129 129 w2_ w.heap.size (fun _ => True) (.slice (some ⟨go, 0, none⟩) x9_1.length co) (tb.add (tb.add x9_1 ((rd_T71 l2 x21_1).f0) 0 1) ((rd_T71 l2 x21_1).f1) 0 1)); have A2 := am (blk_grown A1.out hg (Kd.R_ne T1.out A1.out (by decide))); have B2 := am (blk_grown B1.out hg (Kd.R_ne T1.out B1.out (by decide))); have C2 := am ((by rw [hw]; exact below_set C1.out GB.out) : Below w.heap.size w w2_); clear hs hg hw hx1 hf1 T1 A1 B1 C1; have hc2 := tb.cell T2.out (by simp only [tb.add_len]) E0.out E1.out 4 (by decide); have hx2 := hc2.1; have hf2 := hc2.2; clear hc2) | ((with_reducible refine gate_store (t := 3) (p := 68) rfl ?_); refine store_event (t := 3) (p := 68) (v := ?vo68) (w1 := (w2_.setCell ⟨go, ((rd_T71 l2 x21_1).f0).toNat * 7 + 4, none⟩ (.int .i64 (wrap64 (tb.fld (rd_T129 (tb.add (tb.add x9_1 ((rd_T71 l2 x21_1).f0) 0 1) ((rd_T71 l2 x21_1).f1) 0 1) ((rd_T71 l2 x21_1).f0)) 4 + t523))))) ?hg ?ho ?hn ?hr ?_; (case ho => rfl); (case hg => rfl); (case hn => rfl); (case hr => first | (go_simp; done) | (go_simp; rfl)); intro w3_ hw; have hs := tb.seg T2.out (by simp only [tb.add_len]) E0.out E1.out 4 (by decide) t523; have hg : w2_.grownBy w3_ (some go) := (by rw [hw]; exact hs.2); have T3 := am (by rw [hw]; exact hs.1 : Kd.R k129 129 w3_ w.heap.size (fun _ => True) (.slice (some ⟨go, 0, none⟩) x9_1.length co) (tb.add (tb.add (tb.add x9_1 ((rd_T71 l2 x21_1).f0) 0 1) ((rd_T71 l2 x21_1).f1) 0 1) ((rd_T71 l2 x21_1).f0) 4 t523)); have A3 := am (blk_grown A2.out hg (Kd.R_ne T2.out A2.out (by decide))); have B3 := am (blk_grown B2.out hg (Kd.R_ne T2.out B2.out (by decide))); have C3 := am ((by rw [hw]; exact below_set C2.out GB.out) : Below w.heap.size w w3_); clear hs hg hw hx2 hf2 T2 A2 B2 C2; have hc3 := tb.cell T3.out (by simp only [tb.add_len]) E0.out E1.out 5 (by decide); have hx3 := hc3.1; have hf3 := hc3.2; clear hc3) | ((with_reducible refine gate_store (t := 3) (p := 76) rfl ?_); refine store_event (t := 3) (p := 76) (v := ?vo76) (w1 := (w3_.setCell ⟨go, ((rd_T71 l2 x21_1).f0).toNat * 7 + 5, none⟩ (.int .i64 (wrap64 (tb.fld (rd_T129 (tb.add (tb.add (tb.add x9_1 ((rd_T71 l2 x21_1).f0) 0 1) ((rd_T71 l2 x21_1).f1) 0 1) ((rd_T71 l2 x21_1).f0) 4 t523) ((rd_T71 l2 x21_1).f0)) 5 + t524))))) ?hg ?ho ?hn ?hr ?_; (case ho => rfl); (case hg => rfl); (case hn => rfl); (case hr => first | (go_simp; done) | (go_simp; rfl)); intro w4_ hw; have hs := tb.seg T3.out (by simp only [tb.add_len]) E0.out E1.out 5 (by decide) t524; have hg : w3_.grownBy w4_ (some go) := (by rw [hw]; exact hs.2); have T4 := am (by rw [hw]; exact hs.1 : Kd.R k129 129 w4_ w.heap.size (fun _ => True) (.slice (some ⟨go, 0, none⟩) x9_1.length co) (tb.add (tb.add (tb.add (tb.add x9_1 ((rd_T71 l2 x21_1).f0) 0 1) ((rd_T71 l2 x21_1).f1) 0 1) ((rd_T71 l2 x21_1).f0) 4 t523) ((rd_T71 l2 x21_1).f0) 5 t524)); have A4 := am (blk_grown A3.out hg (Kd.R_ne T3.out A3.out (by decide))); have B4 := am (blk_grown B3.out hg (Kd.R_ne T3.out B3.out (by decide))); have C4 := am ((by rw [hw]; exact below_set C3.out GB.out) : Below w.heap.size w w4_); clear hs hg hw hx3 hf3 T3 A3 B3 C3; have hc4 := tb.cell T4.out (by simp only [tb.add_len]) E2.out E3.out 4 (by decide); have hx4 := hc4.1; have hf4 := hc4.2; clear hc4) | ((with_reducible refine gate_store (t := 3) (p := 84) rfl ?_); refine store_event (t := 3) (p := 84) (v := ?vo84) (w1 := (w4_.setCell ⟨go, ((rd_T71 l2 x21_1).f1).toNat * 7 + 4, none⟩ (.int .i64 (wrap64 (tb.fld (rd_T129 (tb.add (tb.add (tb.add (tb.add x9_1 ((rd_T71 l2 x21_1).f0) 0 1) ((rd_T71 l2 x21_1).f1) 0 1) ((rd_T71 l2 x21_1).f0) 4 t523) ((rd_T71 l2 x21_1).f0) 5 t524) ((rd_T71 l2 x21_1).f1)) 4 + t524))))) ?hg ?ho ?hn ?hr ?_; (case ho => rfl); (case hg => rfl); (case hn => rfl); (case hr => first | (go_simp; done) | (go_simp; rfl)); intro w5_ hw; have hs := tb.seg T4.out (by simp only [tb.add_len]) E2.out E3.out 4 (by decide) t524; have hg : w4_.grownBy w5_ (some go) := (by rw [hw]; exact hs.2); have T5 := am (by rw [hw]; exact hs.1 : Kd.R k129 129 w5_ w.heap.size (fun _ => True) (.slice (some ⟨go, 0, none⟩) x9_1.length co) (tb.add (tb.add (tb.add (tb.add (tb.add x9_1 ((rd_T71 l2 x21_1).f0) 0 1) ((rd_T71 l2 x21_1).f1) 0 1) ((rd_T71 l2 x21_1).f0) 4 t523) ((rd_T71 l2 x21_1).f0) 5 t524) ((rd_T71 l2 x21_1).f1) 4 t524)); have A5 := am (blk_grown A4.out hg (Kd.R_ne T4.out A4.out (by decide))); have B5 := am (blk_grown B4.out hg (Kd.R_ne T4.out B4.out (by decide))); have C5 := am ((by rw [hw]; exact below_set C4.out GB.out) : Below w.heap.size w w5_); clear hs hg hw hx4 hf4 T4 A4 B4 C4; have hc5 := tb.cell T5.out (by simp only [tb.add_len]) E2.out E3.out 5 (by decide); have hx5 := hc5.1; have hf5 := hc5.2; clear hc5) | ((with_reducible refine gate_store (t := 3) (p := 92) rfl ?_); refine store_event (t := 3) (p := 92) (v := ?vo92) (w1 := (w5_.setCell ⟨go, ((rd_T71 l2 x21_1).f1).toNat * 7 + 5, none⟩ (.int .i64 (wrap64 (tb.fld (rd_T129 (tb.add (tb.add (tb.add (tb.add (tb.add x9_1 ((rd_T71 l2 x21_1).f0) 0 1) ((rd_T71 l2 x21_1).f1) 0 1) ((rd_T71 l2 x21_1).f0) 4 t523) ((rd_T71 l2 x21_1).f0) 5 t524) ((rd_T71 l2 x21_1).f1) 4 t524) ((rd_T71 l2 x21_1).f1)) 5 + t523))))) ?hg ?ho ?hn ?hr ?_; (case ho => rfl); (case hg => rfl); (case hn => rfl); (case hr => first | (go_simp; done) | (go_simp; rfl)); intro w6_ hw; have hs := tb.seg T5.out (by simp only [tb.add_len]) E2.out E3.out 5 (by decide) t523; have hg : w5_.grownBy w6_ (some go) := (by rw [hw]; exact hs.2); have T6 := am (by rw [hw]; exact hs.1 : Kd.R k129 129 w6_ w.heap.size (fun _ => True) (.slice (some ⟨go, 0, none⟩) x9_1.length co) (tb.add (tb.add (tb.add (tb.add (tb.add (tb.add x9_1 ((rd_T71 l2 x21_1).f0) 0 1) ((rd_T71 l2 x21_1).f1) 0 1) ((rd_T71 l2 x21_1).f0) 4 t523) ((rd_T71 l2 x21_1).f0) 5 t524) ((rd_T71 l2 x21_1).f1) 4 t524) ((rd_T71 l2 x21_1).f1) 5 t523)); have A6 := am (blk_grown A5.out hg (Kd.R_ne T5.out A5.out (by decide))); have B6 := am (blk_grown B5.out hg (Kd.R_ne T5.out B5.out (by decide))); have C6 := am ((by rw [hw]; exact below_set C5.out GB.out) : Below w.heap.size w w6_); clear hs hg hw hx5 hf5 T5 A5 B5 C5; have hc6 := tb.cell T6.out (by simp only [tb.add_len]) E2.out E3.out 1 (by decide); have hx6 := hc6.1; have hf6 := hc6.2; clear hc6) | ((with_reducible refine gate_store (t := 3) (p := 171) rfl ?_); refine store_event (t := 3) (p := 171) (v := ?vo171) (w1 := (w6_.setCell ⟨go, ((rd_T71 l2 x21_1).f1).toNat * 7 + 1, none⟩ (.int .i64 (wrap64 (tb.fld (rd_T129 (tb.add (tb.add (tb.add (tb.add (tb.add (tb.add x9_1 ((rd_T71 l2 x21_1).f0) 0 1) ((rd_T71 l2 x21_1).f1) 0 1) ((rd_T71 l2 x21_1).f0) 4 t523) ((rd_T71 l2 x21_1).f0) 5 t524) ((rd_T71 l2 x21_1).f1) 4 t524) ((rd_T71 l2 x21_1).f1) 5 t523) ((rd_T71 l2 x21_1).f1)) 1 + 1))))) ?hg ?ho ?hn ?hr ?_; (case ho => rfl); (case hg => rfl); (case hn => rfl); (case hr => first | (go_simp; done) | (go_simp; rfl)); intro w7_ hw; have hs := tb.seg T6.out (by simp only [tb.add_len]) E2.out E3.out 1 (by decide) 1; have hg : w6_.grownBy w7_ (some go) := (by rw [hw]; exact hs.2); have T7 := am (by rw [hw]; exact hs.1 : Kd.R k129 129 w7_ w.heap.size (fun _ => True) (.slice (some ⟨go, 0, none⟩) x9_1.length co) (tb.add (tb.add (tb.add (tb.add (tb.add (tb.add (tb.add x9_1 ((rd_T71 l2 x21_1).f0) 0 1) ((rd_T71 l2 x21_1).f1) 0 1) ((rd_T71 l2 x21_1).f0) 4 t523) ((rd_T71 l2 x21_1).f0) 5 t524) ((rd_T71 l2 x21_1).f1) 4 t524) ((rd_T71 l2 x21_1).f1) 5 t523) ((rd_T71 l2 x21_1).f1) 1 1)); have A7 := am (blk_grown A6.out hg (Kd.R_ne T6.out A6.out (by decide))); have B7 := am (blk_grown B6.out hg (Kd.R_ne T6.out B6.out (by decide))); have C7 := am ((by rw [hw]; exact below_set C6.out GB.out) : Below w.heap.size w w7_); clear hs hg hw hx6 hf6 T6 A6 B6 C6; have hc7 := tb.cell T7.out (by simp only [tb.add_len]) E0.out E1.out 3 (by decide); have hx7 := hc7.1; have hf7 := hc7.2; clear hc7) | ((with_reducible refine gate_store (t := 3) (p := 178) rfl ?_); refine store_event (t := 3) (p := 178) (v := ?vo178) (w1 := (w7_.setCell ⟨go, ((rd_T71 l2 x21_1).f0).toNat * 7 + 3, none⟩ (.int .i64 (wrap64 (tb.fld (rd_T129 (tb.add (tb.add (tb.add (tb.add (tb.add (tb.add (tb.add x9_1 ((rd_T71 l2 x21_1).f0) 0 1) ((rd_T71 l2 x21_1).f1) 0 1) ((rd_T71 l2 x21_1).f0) 4 t523) ((rd_T71 l2 x21_1).f0) 5 t524) ((rd_T71 l2 x21_1).f1) 4 t524) ((rd_T71 l2 x21_1).f1) 5 t523) ((rd_T71 l2 x21_1).f1) 1 1) ((rd_T71 l2 x21_1).f0)) 3 + 1))))) ?hg ?ho ?hn ?hr ?_; (case ho => rfl); (case hg => rfl); (case hn => rfl); (case hr => first | (go_simp; done) | (go_simp; rfl)); intro w8_ hw; have hs := tb.seg T7.out (by simp only [tb.add_len]) E0.out E1.out 3 (by decide) 1; have hg : w7_.grownBy w8_ (some go) := (by rw [hw]; exact hs.2); have T8 := am (by rw [hw]; exact hs.1 : Kd.R k129 129 w8_ w.heap.size (fun _ => True) (.slice (some ⟨go, 0, none⟩) x9_1.length co) (tb.add (tb.add (tb.add (tb.add (tb.add (tb.add (tb.add (tb.add x9_1 ((rd_T71 l2 x21_1).f0) 0 1) ((rd_T71 l2 x21_1).f1) 0 1) ((rd_T71 l2 x21_1).f0) 4 t523) ((rd_T71 l2 x21_1).f0) 5 t524) ((rd_T71 l2 x21_1).f1) 4 t524) ((rd_T71 l2 x21_1).f1) 5 t523) ((rd_T71 l2 x21_1).f1) 1 1) ((rd_T71 l2 x21_1).f0) 3 1)); have A8 := am (blk_grown A7.out hg (Kd.R_ne T7.out A7.out (by decide))); have B8 := am (blk_grown B7.out hg (Kd.R_ne T7.out B7.out (by decide))); have C8 := am ((by rw [hw]; exact below_set C7.out GB.out) : Below w.heap.size w w8_); clear hs hg hw hx7 hf7 T7 A7 B7 C7))
                                  have hc8 := tb.cell T8.out (by simp only [tb.add_len]) E2.out E3.out 6 (by decide); have hx8 := hc8.1; have hf8 := hc8.2; clear hc8
                                  obtain ⟨hr0, hr1, hr2, hr3, hr4, hq0, hq1, hq2, hq3, hq4⟩ := cf5 A8.out
                                  go_region
                                  have hs := tb.seg T8.out (by simp only [tb.add_len]) E2.out E3.out 6 (by decide) a0_0
                                  have T9 := am (Kd.R_drew hs.1)
                                  have A9 := am (blk_drew (blk_grown A8.out hs.2 (Kd.R_ne T8.out A8.out (by decide))))
                                  have C9 := am (below_drew1 (below_set C8.out GB.out : Below w.heap.size w (w8_.setCell ⟨go, ((rd_T71 l2 x21_1).f1).toNat * 7 + 6, none⟩ (.int .i64 (wrap64 (tb.fld (rd_T129 (tb.add (tb.add (tb.add (tb.add (tb.add (tb.add (tb.add (tb.add x9_1 ((rd_T71 l2 x21_1).f0) 0 1) ((rd_T71 l2 x21_1).f1) 0 1) ((rd_T71 l2 x21_1).f0) 4 t523) ((rd_T71 l2 x21_1).f0) 5 t524) ((rd_T71 l2 x21_1).f1) 4 t524) ((rd_T71 l2 x21_1).f1) 5 t523) ((rd_T71 l2 x21_1).f1) 1 1) ((rd_T71 l2 x21_1).f0) 3 1) ((rd_T71 l2 x21_1).f1)) 6 + a0_0))))))
                                  clear hs hx8 hf8 T8 A8 C8 hr0 hr1 hr2 hr3 hr4 hq0 hq1 hq2 hq3 hq4
                                  generalize (w8_.setCell ⟨go, ((rd_T71 l2 x21_1).f1).toNat * 7 + 6, none⟩ (.int .i64 (wrap64 (tb.fld (rd_T129 (tb.add (tb.add (tb.add (tb.add (tb.add (tb.add (tb.add (tb.add x9_1 ((rd_T71 l2 x21_1).f0) 0 1) ((rd_T71 l2 x21_1).f1) 0 1) ((rd_T71 l2 x21_1).f0) 4 t523) ((rd_T71 l2 x21_1).f0) 5 t524) ((rd_T71 l2 x21_1).f1) 4 t524) ((rd_T71 l2 x21_1).f1) 5 t523) ((rd_T71 l2 x21_1).f1) 1 1) ((rd_T71 l2 x21_1).f0) 3 1) ((rd_T71 l2 x21_1).f1)) 6 + a0_0)))).drew = w9_ at T9 A9 C9 ⊢
                                  have hc9 := tb.cell T9.out (by simp only [tb.add_len]) E0.out E1.out 6 (by decide); have hx9 := hc9.1; have hf9 := hc9.2; clear hc9
                                  obtain ⟨hr0, hr1, hr2, hr3, hr4, hq0, hq1, hq2, hq3, hq4⟩ := cf5 A9.out
                                  go_wp2
                                  go_region
                                  have hs := tb.seg T9.out (by simp only [tb.add_len]) E0.out E1.out 6 (by decide) a0_2
                                  have T10 := am (Kd.R_drew hs.1)
                                  have A10 := am (blk_drew (blk_grown A9.out hs.2 (Kd.R_ne T9.out A9.out (by decide))))
                                  have C10 := am (below_drew1 (below_set C9.out GB.out : Below w.heap.size w (w9_.setCell ⟨go, ((rd_T71 l2 x21_1).f0).toNat * 7 + 6, none⟩ (.int .i64 (wrap64 (tb.fld (rd_T129 (tb.add (tb.add (tb.add (tb.add (tb.add (tb.add (tb.add (tb.add (tb.add x9_1 ((rd_T71 l2 x21_1).f0) 0 1) ((rd_T71 l2 x21_1).f1) 0 1) ((rd_T71 l2 x21_1).f0) 4 t523) ((rd_T71 l2 x21_1).f0) 5 t524) ((rd_T71 l2 x21_1).f1) 4 t524) ((rd_T71 l2 x21_1).f1) 5 t523) ((rd_T71 l2 x21_1).f1) 1 1) ((rd_T71 l2 x21_1).f0) 3 1) ((rd_T71 l2 x21_1).f1) 6 a0_0) ((rd_T71 l2 x21_1).f0)) 6 + a0_2))))))
                                  clear hs hx9 hf9 T9 A9 C9 hr0 hr1 hr2 hr3 hr4 hq0 hq1 hq2 hq3 hq4
                                  generalize (w9_.setCell ⟨go, ((rd_T71 l2 x21_1).f0).toNat * 7 + 6, none⟩ (.int .i64 (wrap64 (tb.fld (rd_T129 (tb.add (tb.add (tb.add (tb.add (tb.add (tb.add (tb.add (tb.add (tb.add x9_1 ((rd_T71 l2 x21_1).f0) 0 1) ((rd_T71 l2 x21_1).f1) 0 1) ((rd_T71 l2 x21_1).f0) 4 t523) ((rd_T71 l2 x21_1).f0) 5 t524) ((rd_T71 l2 x21_1).f1) 4 t524) ((rd_T71 l2 x21_1).f1) 5 t523) ((rd_T71 l2 x21_1).f1) 1 1) ((rd_T71 l2 x21_1).f0) 3 1) ((rd_T71 l2 x21_1).f1) 6 a0_0) ((rd_T71 l2 x21_1).f0)) 6 + a0_2)))).drew = w10_ at T10 A10 C10 ⊢
                                  have H := HL.out
                                  rw [if_neg (of_decide_eq_false c35b0)] at H
                                  rw [if_pos (of_decide_eq_true c36b0)] at H
                                  have H' := am H
                                  clear H
                                  go_wp2
                                  go_roundg kj13
                                  case measure => have := HK1.out; have := HJ13.out; omega
                                  case rel => exact ⟨(tb.add (tb.add (tb.add (tb.add (tb.add (tb.add (tb.add (tb.add (tb.add (tb.add x9_1 ((rd_T71 l2 x21_1).f0) 0 1) ((rd_T71 l2 x21_1).f1) 0 1) ((rd_T71 l2 x21_1).f0) 4 t523) ((rd_T71 l2 x21_1).f0) 5 t524) ((rd_T71 l2 x21_1).f1) 4 t524) ((rd_T71 l2 x21_1).f1) 5 t523) ((rd_T71 l2 x21_1).f1) 1 1) ((rd_T71 l2 x21_1).f0) 3 1) ((rd_T71 l2 x21_1).f1) 6 a0_0) ((rd_T71 l2 x21_1).f0) 6 a0_2), (wrap64 (x21_1 + 1)), (es), H', ⟨by have := HK1.out; have := HJ13.out; omega⟩, ⟨T10.out⟩, ⟨A10.out⟩, ⟨C10.out⟩⟩
                                · have c36b0 : decide (t523 < t524) = false := decide_eq_false c36
                                  go_wp2_with (first | ((with_reducible refine gate_store (t := 3) (p := 53) rfl ?_); refine store_event (t := 3) (p := 53) (v := ?vo53) (w1 := (w0_.setCell ⟨go, ((rd_T71 l2 x21_1).f0).toNat * 7, none⟩ (.int .i64 (wrap64 (tb.fld (rd_T129 x9_1 ((rd_T71 l2 x21_1).f0)) 0 + 1))))) ?hg ?ho ?hn ?hr ?_; (case ho => rfl); (case hg => rfl); (case hn => rfl); (case hr => first | (go_simp; done) | (go_simp; rfl)); intro w1_ hw; have hs := tb.seg T0.out (by simp only [tb.add_len]) E0.out E1.out 0 (by decide) 1; have hg : w0_.grownBy w1_ (some go) := (by rw [hw]; exact hs.2); have T1 := am (by rw [hw]; exact hs.1 : Kd.R k129 129 w1_ w.heap.size (fun _ => True) (.slice (some ⟨go, 0, none⟩) x9_1.length co) (tb.add x9_1 ((rd_T71 l2 x21_1).f0) 0 1)); have A1 := am (blk_grown A0.out hg (Kd.R_ne T0.out A0.out (by decide))); have B1 := am (blk_grown B0.out hg (Kd.R_ne T0.out B0.out (by decide))); have C1 := am ((by rw [hw]; exact below_set C0.out GB.out) : Below w.heap.size w w1_); clear hs hg hw hx0 hf0 T0 A0 B0 C0; have hc1 := tb.cell T1.out (by simp only [tb.add_len]) E2.out E3.out 0 (by decide); have hx1 := hc1.1; have hf1 := hc1.2; clear hc1; simp only [Nat.add_zero] at hx1 hf1) | ((with_reducible refine gate_store (t := 3) (p := 60) rfl ?_); refine store_event (t := 3) (p := 60) (v := ?vo60) (w1 := (w1_.setCell ⟨go, ((rd_T71 l2 x21_1).f1).toNat * 7, none⟩ (.int .i64 (wrap64 (tb.fld (rd_T129 (tb.add x9_1 ((rd_T71 l2 x21_1).f0) 0 1) ((rd_T71 l2 x21_1).f1)) 0 + 1))))) ?hg ?ho ?hn ?hr ?_; (case ho => rfl); (case hg => rfl); (case hn => rfl); (case hr => first | (go_simp; done) | (go_simp; rfl)); intro w2_ hw; have hs := tb.seg T1.out (by simp only [tb.add_len]) E2.out E3.out 0 (by decide) 1; have hg : w1_.grownBy w2_ (some go) := (by rw [hw]; exact hs.2); have T2 := am (by rw [hw]; exact hs.1 : Kd.R k129 129 w2_ w.heap.size (fun _ => True) (.slice (some ⟨go, 0, none⟩) x9_1.length co) (tb.add (tb.add x9_1 ((rd_T71 l2 x21_1).f0) 0 1) ((rd_T71 l2 x21_1).f1) 0 1)); have A2 := am (blk_grown A1.out hg (Kd.R_ne T1.out A1.out (by decide))); have B2 := am (blk_grown B1.out hg (Kd.R_ne T1.out B1.out (by decide))); have C2 := am ((by rw [hw]; exact below_set C1.out GB.out) : Below w.heap.size w w2_); clear hs hg hw hx1 hf1 T1 A1 B1 C1; have hc2 := tb.cell T2.out (by simp only [tb.add_len]) E0.out E1.out 4 (by decide); have hx2 := hc2.1; have hf2 := hc2.2; clear hc2) | ((with_reducible refine gate_store (t := 3) (p := 68) rfl ?_); refine store_event (t := 3) (p := 68) (v := ?vo68) (w1 := (w2_.setCell ⟨go, ((rd_T71 l2 x21_1).f0).toNat * 7 + 4, none⟩ (.int .i64 (wrap64 (tb.fld (rd_T129 (tb.add (tb.add x9_1 ((rd_T71 l2 x21_1).f0) 0 1) ((rd_T71 l2 x21_1).f1) 0 1) ((rd_T71 l2 x21_1).f0)) 4 + t523))))) ?hg ?ho ?hn ?hr ?_; (case ho => rfl); (case hg => rfl); (case hn => rfl); (case hr => first | (go_simp; done) | (go_simp; rfl)); intro w3_ hw; have hs := tb.seg T2.out (by simp only [tb.add_len]) E0.out E1.out 4 (by decide) t523; have hg : w2_.grownBy w3_ (some go) := (by rw [hw]; exact hs.2); have T3 := am (by rw [hw]; exact hs.1 : Kd.R k129 129 w3_ w.heap.size (fun _ => True) (.slice (some ⟨go, 0, none⟩) x9_1.length co) (tb.add (tb.add (tb.add x9_1 ((rd_T71 l2 x21_1).f0) 0 1) ((rd_T71 l2 x21_1).f1) 0 1) ((rd_T71 l2 x21_1).f0) 4 t523)); have A3 := am (blk_grown A2.out hg (Kd.R_ne T2.out A2.out (by decide))); have B3 := am (blk_grown B2.out hg (Kd.R_ne T2.out B2.out (by decide))); have C3 := am ((by rw [hw]; exact below_set C2.out GB.out) : Below w.heap.size w w3_); clear hs hg hw hx2 hf2 T2 A2 B2 C2; have hc3 := tb.cell T3.out (by simp only [tb.add_len]) E0.out E1.out 5 (by decide); have hx3 := hc3.1; have hf3 := hc3.2; clear hc3) | ((with_reducible refine gate_store (t := 3) (p := 76) rfl ?_); refine store_event (t := 3) (p := 76) (v := ?vo76) (w1 := (w3_.setCell ⟨go, ((rd_T71 l2 x21_1).f0).toNat * 7 + 5, none⟩ (.int .i64 (wrap64 (tb.fld (rd_T129 (tb.add (tb.add (tb.add x9_1 ((rd_T71 l2 x21_1).f0) 0 1) ((rd_T71 l2 x21_1).f1) 0 1) ((rd_T71 l2 x21_1).f0) 4 t523) ((rd_T71 l2 x21_1).f0)) 5 + t524))))) ?hg ?ho ?hn ?hr ?_; (case ho => rfl); (case hg => rfl); (case hn => rfl); (case hr => first | (go_simp; done) | (go_simp; rfl)); intro w4_ hw; have hs := tb.seg T3.out (by simp only [tb.add_len]) E0.out E1.out 5 (by decide) t524; have hg : w3_.grownBy w4_ (some go) := (by rw [hw]; exact hs.2); have T4 := am (by rw [hw]; exact hs.1 : Kd.R k129 129 w4_ w.heap.size (fun _ => True) (.slice (some ⟨go, 0, none⟩) x9_1.length co) (tb.add (tb.add (tb.add (tb.add x9_1 ((rd_T71 l2 x21_1).f0) 0 1) ((rd_T71 l2 x21_1).f1) 0 1) ((rd_T71 l2 x21_1).f0) 4 t523) ((rd_T71 l2 x21_1).f0) 5 t524)); have A4 := am (blk_grown A3.out hg (Kd.R_ne T3.out A3.out (by decide))); have B4 := am (blk_grown B3.out hg (Kd.R_ne T3.out B3.out (by decide))); have C4 := am ((by rw [hw]; exact below_set C3.out GB.out) : Below w.heap.size w w4_); clear hs hg hw hx3 hf3 T3 A3 B3 C3; have hc4 := tb.cell T4.out (by simp only [tb.add_len]) E2.out E3.out 4 (by decide); have hx4 := hc4.1; have hf4 := hc4.2; clear hc4) | ((with_reducible refine gate_store (t := 3) (p := 84) rfl ?_); refine store_event (t := 3) (p := 84) (v := ?vo84) (w1 := (w4_.setCell ⟨go, ((rd_T71 l2 x21_1).f1).toNat * 7 + 4, none⟩ (.int .i64 (wrap64 (tb.fld (rd_T129 (tb.add (tb.add (tb.add (tb.add x9_1 ((rd_T71 l2 x21_1).f0) 0 1) ((rd_T71 l2 x21_1).f1) 0 1) ((rd_T71 l2 x21_1).f0) 4 t523) ((rd_T71 l2 x21_1).f0) 5 t524) ((rd_T71 l2 x21_1).f1)) 4 + t524))))) ?hg ?ho ?hn ?hr ?_; (case ho => rfl); (case hg => rfl); (case hn => rfl); (case hr => first | (go_simp; done) | (go_simp; rfl)); intro w5_ hw; have hs := tb.seg T4.out (by simp only [tb.add_len]) E2.out E3.out 4 (by decide) t524; have hg : w4_.grownBy w5_ (some go) := (by rw [hw]; exact hs.2); have T5 := am (by rw [hw]; exact hs.1 : Kd.R k129 129 w5_ w.heap.size (fun _ => True) (.slice (some ⟨go, 0, none⟩) x9_1.length co) (tb.add (tb.add (tb.add (tb.add (tb.add x9_1 ((rd_T71 l2 x21_1).f0) 0 1) ((rd_T71 l2 x21_1).f1) 0 1) ((rd_T71 l2 x21_1).f0) 4 t523) ((rd_T71 l2 x21_1).f0) 5 t524) ((rd_T71 l2 x21_1).f1) 4 t524)); have A5 := am (blk_grown A4.out hg (Kd.R_ne T4.out A4.out (by decide))); have B5 := am (blk_grown B4.out hg (Kd.R_ne T4.out B4.out (by decide))); have C5 := am ((by rw [hw]; exact below_set C4.out GB.out) : Below w.heap.size w w5_); clear hs hg hw hx4 hf4 T4 A4 B4 C4; have hc5 := tb.cell T5.out (by simp only [tb.add_len]) E2.out E3.out 5 (by decide); have hx5 := hc5.1; have hf5 := hc5.2; clear hc5) | ((with_reducible refine gate_store (t := 3) (p := 92) rfl ?_); refine store_event (t := 3) (p := 92) (v := ?vo92) (w1 := (w5_.setCell ⟨go, ((rd_T71 l2 x21_1).f1).toNat * 7 + 5, none⟩ (.int .i64 (wrap64 (tb.fld (rd_T129 (tb.add (tb.add (tb.add (tb.add (tb.add x9_1 ((rd_T71 l2 x21_1).f0) 0 1) ((rd_T71 l2 x21_1).f1) 0 1) ((rd_T71 l2 x21_1).f0) 4 t523) ((rd_T71 l2 x21_1).f0) 5 t524) ((rd_T71 l2 x21_1).f1) 4 t524) ((rd_T71 l2 x21_1).f1)) 5 + t523))))) ?hg ?ho ?hn ?hr ?_; (case ho => rfl); (case hg => rfl); (case hn => rfl); (case hr => first | (go_simp; done) | (go_simp; rfl)); intro w6_ hw; have hs := tb.seg T5.out (by simp only [tb.add_len]) E2.out E3.out 5 (by decide) t523; have hg : w5_.grownBy w6_ (some go) := (by rw [hw]; exact hs.2); have T6 := am (by rw [hw]; exact hs.1 : Kd.R k129 129 w6_ w.heap.size (fun _ => True) (.slice (some ⟨go, 0, none⟩) x9_1.length co) (tb.add (tb.add (tb.add (tb.add (tb.add (tb.add x9_1 ((rd_T71 l2 x21_1).f0) 0 1) ((rd_T71 l2 x21_1).f1) 0 1) ((rd_T71 l2 x21_1).f0) 4 t523) ((rd_T71 l2 x21_1).f0) 5 t524) ((rd_T71 l2 x21_1).f1) 4 t524) ((rd_T71 l2 x21_1).f1) 5 t523)); have A6 := am (blk_grown A5.out hg (Kd.R_ne T5.out A5.out (by decide))); have B6 := am (blk_grown B5.out hg (Kd.R_ne T5.out B5.out (by decide))); have C6 := am ((by rw [hw]; exact below_set C5.out GB.out) : Below w.heap.size w w6_); clear hs hg hw hx5 hf5 T5 A5 B5 C5; have hc6 := tb.cell T6.out (by simp only [tb.add_len]) E0.out E1.out 2 (by decide); have hx6 := hc6.1; have hf6 := hc6.2; clear hc6) | ((with_reducible refine gate_store (t := 3) (p := 99) rfl ?_); refine store_event (t := 3) (p := 99) (v := ?vo99) (w1 := (w6_.setCell ⟨go, ((rd_T71 l2 x21_1).f0).toNat * 7 + 2, none⟩ (.int .i64 (wrap64 (tb.fld (rd_T129 (tb.add (tb.add (tb.add (tb.add (tb.add (tb.add x9_1 ((rd_T71 l2 x21_1).f0) 0 1) ((rd_T71 l2 x21_1).f1) 0 1) ((rd_T71 l2 x21_1).f0) 4 t523) ((rd_T71 l2 x21_1).f0) 5 t524) ((rd_T71 l2 x21_1).f1) 4 t524) ((rd_T71 l2 x21_1).f1) 5 t523) ((rd_T71 l2 x21_1).f0)) 2 + 1))))) ?hg ?ho ?hn ?hr ?_; (case ho => rfl); (case hg => rfl); (case hn => rfl); (case hr => first | (go_simp; done) | (go_simp; rfl)); intro w7_ hw; have hs := tb.seg T6.out (by simp only [tb.add_len]) E0.out E1.out 2 (by decide) 1; have hg : w6_.grownBy w7_ (some go) := (by rw [hw]; exact hs.2); have T7 := am (by rw [hw]; exact hs.1 : Kd.R k129 129 w7_ w.heap.size (fun _ => True) (.slice (some ⟨go, 0, none⟩) x9_1.length co) (tb.add (tb.add (tb.add (tb.add (tb.add (tb.add (tb.add x9_1 ((rd_T71 l2 x21_1).f0) 0 1) ((rd_T71 l2 x21_1).f1) 0 1) ((rd_T71 l2 x21_1).f0) 4 t523) ((rd_T71 l2 x21_1).f0) 5 t524) ((rd_T71 l2 x21_1).f1) 4 t524) ((rd_T71 l2 x21_1).f1) 5 t523) ((rd_T71 l2 x21_1).f0) 2 1)); have A7 := am (blk_grown A6.out hg (Kd.R_ne T6.out A6.out (by decide))); have B7 := am (blk_grown B6.out hg (Kd.R_ne T6.out B6.out (by decide))); have C7 := am ((by rw [hw]; exact below_set C6.out GB.out) : Below w.heap.size w w7_); clear hs hg hw hx6 hf6 T6 A6 B6 C6; have hc7 := tb.cell T7.out (by simp only [tb.add_len]) E2.out E3.out 2 (by decide); have hx7 := hc7.1; have hf7 := hc7.2; clear hc7) | ((with_reducible refine gate_store (t := 3) (p := 106) rfl ?_); refine store_event (t := 3) (p := 106) (v := ?vo106) (w1 := (w7_.setCell ⟨go, ((rd_T71 l2 x21_1).f1).toNat * 7 + 2, none⟩ (.int .i64 (wrap64 (tb.fld (rd_T129 (tb.add (tb.add (tb.add (tb.add (tb.add (tb.add (tb.add x9_1 ((rd_T71 l2 x21_1).f0) 0 1) ((rd_T71 l2 x21_1).f1) 0 1) ((rd_T71 l2 x21_1).f0) 4 t523) ((rd_T71 l2 x21_1).f0) 5 t524) ((rd_T71 l2 x21_1).f1) 4 t524) ((rd_T71 l2 x21_1).f1) 5 t523) ((rd_T71 l2 x21_1).f0) 2 1) ((rd_T71 l2 x21_1).f1)) 2 + 1))))) ?hg ?ho ?hn ?hr ?_; (case ho => rfl); (case hg => rfl); (case hn => rfl); (case hr => first | (go_simp; done) | (go_simp; rfl)); intro w8_ hw; have hs := tb.seg T7.out (by simp only [tb.add_len]) E2.out E3.out 2 (by decide) 1; have hg : w7_.grownBy w8_ (some go) := (by rw [hw]; exact hs.2); have T8 := am (by rw [hw]; exact hs.1 : Kd.R k129 129 w8_ w.heap.size (fun _ => True) (.slice (some ⟨go, 0, none⟩) x9_1.length co) (tb.add (tb.add (tb.add (tb.add (tb.add (tb.add (tb.add (tb.add x9_1 ((rd_T71 l2 x21_1).f0) 0 1) ((rd_T71 l2 x21_1).f1) 0 1) ((rd_T71 l2 x21_1).f0) 4 t523) ((rd_T71 l2 x21_1).f0) 5 t524) ((rd_T71 l2 x21_1).f1) 4 t524) ((rd_T71 l2 x21_1).f1) 5 t523) ((rd_T71 l2 x21_1).f0) 2 1) ((rd_T71 l2 x21_1).f1) 2 1)); have A8 := am (blk_grown A7.out hg (Kd.R_ne T7.out A7.out (by decide))); have B8 := am (blk_grown B7.out hg (Kd.R_ne T7.out B7.out (by decide))); have C8 := am ((by rw [hw]; exact below_set C7.out GB.out) : Below w.heap.size w w8_); clear hs hg hw hx7 hf7 T7 A7 B7 C7))
                                  have hc8 := tb.cell T8.out (by simp only [tb.add_len]) E0.out E1.out 6 (by decide); have hx8 := hc8.1; have hf8 := hc8.2; clear hc8
                                  obtain ⟨hr0, hr1, hr2, hr3, hr4, hq0, hq1, hq2, hq3, hq4⟩ := cf5 A8.out
                                  go_region
                                  have hs := tb.seg T8.out (by simp only [tb.add_len]) E0.out E1.out 6 (by decide) a0_1
                                  have T9 := am (Kd.R_drew hs.1)
                                  have A9 := am (blk_drew (blk_grown A8.out hs.2 (Kd.R_ne T8.out A8.out (by decide))))
                                  have C9 := am (below_drew1 (below_set C8.out GB.out : Below w.heap.size w (w8_.setCell ⟨go, ((rd_T71 l2 x21_1).f0).toNat * 7 + 6, none⟩ (.int .i64 (wrap64 (tb.fld (rd_T129 (tb.add (tb.add (tb.add (tb.add (tb.add (tb.add (tb.add (tb.add x9_1 ((rd_T71 l2 x21_1).f0) 0 1) ((rd_T71 l2 x21_1).f1) 0 1) ((rd_T71 l2 x21_1).f0) 4 t523) ((rd_T71 l2 x21_1).f0) 5 t524) ((rd_T71 l2 x21_1).f1) 4 t524) ((rd_T71 l2 x21_1).f1) 5 t523) ((rd_T71 l2 x21_1).f0) 2 1) ((rd_T71 l2 x21_1).f1) 2 1) ((rd_T71 l2 x21_1).f0)) 6 + a0_1))))))
                                  clear hs hx8 hf8 T8 A8 C8 hr0 hr1 hr2 hr3 hr4 hq0 hq1 hq2 hq3 hq4
                                  generalize (w8_.setCell ⟨go, ((rd_T71 l2 x21_1).f0).toNat * 7 + 6, none⟩ (.int .i64 (wrap64 (tb.fld (rd_T129 (tb.add (tb.add (tb.add (tb.add (tb.add (tb.add (tb.add (tb.add x9_1 ((rd_T71 l2 x21_1).f0) 0 1) ((rd_T71 l2 x21_1).f1) 0 1) ((rd_T71 l2 x21_1).f0) 4 t523) ((rd_T71 l2 x21_1).f0) 5 t524) ((rd_T71 l2 x21_1).f1) 4 t524) ((rd_T71 l2 x21_1).f1) 5 t523) ((rd_T71 l2 x21_1).f0) 2 1) ((rd_T71 l2 x21_1).f1) 2 1) ((rd_T71 l2 x21_1).f0)) 6 + a0_1)))).drew = w9_ at T9 A9 C9 ⊢
                                  have hc9 := tb.cell T9.out (by simp only [tb.add_len]) E2.out E3.out 6 (by decide); have hx9 := hc9.1; have hf9 := hc9.2; clear hc9
                                  obtain ⟨hr0, hr1, hr2, hr3, hr4, hq0, hq1, hq2, hq3, hq4⟩ := cf5 A9.out
                                  go_wp2
                                  go_region
                                  have hs := tb.seg T9.out (by simp only [tb.add_len]) E2.out E3.out 6 (by decide) a0_1
                                  have T10 := am (Kd.R_drew hs.1)
                                  have A10 := am (blk_drew (blk_grown A9.out hs.2 (Kd.R_ne T9.out A9.out (by decide))))
                                  have C10 := am (below_drew1 (below_set C9.out GB.out : Below w.heap.size w (w9_.setCell ⟨go, ((rd_T71 l2 x21_1).f1).toNat * 7 + 6, none⟩ (.int .i64 (wrap64 (tb.fld (rd_T129 (tb.add (tb.add (tb.add (tb.add (tb.add (tb.add (tb.add (tb.add (tb.add x9_1 ((rd_T71 l2 x21_1).f0) 0 1) ((rd_T71 l2 x21_1).f1) 0 1) ((rd_T71 l2 x21_1).f0) 4 t523) ((rd_T71 l2 x21_1).f0) 5 t524) ((rd_T71 l2 x21_1).f1) 4 t524) ((rd_T71 l2 x21_1).f1) 5 t523) ((rd_T71 l2 x21_1).f0) 2 1) ((rd_T71 l2 x21_1).f1) 2 1) ((rd_T71 l2 x21_1).f0) 6 a0_1) ((rd_T71 l2 x21_1).f1)) 6 + a0_1))))))
                                  clear hs hx9 hf9 T9 A9 C9 hr0 hr1 hr2 hr3 hr4 hq0 hq1 hq2 hq3 hq4
                                  generalize (w9_.setCell ⟨go, ((rd_T71 l2 x21_1).f1).toNat * 7 + 6, none⟩ (.int .i64 (wrap64 (tb.fld (rd_T129 (tb.add (tb.add (tb.add (tb.add (tb.add (tb.add (tb.add (tb.add (tb.add x9_1 ((rd_T71 l2 x21_1).f0) 0 1) ((rd_T71 l2 x21_1).f1) 0 1) ((rd_T71 l2 x21_1).f0) 4 t523) ((rd_T71 l2 x21_1).f0) 5 t524) ((rd_T71 l2 x21_1).f1) 4 t524) ((rd_T71 l2 x21_1).f1) 5 t523) ((rd_T71 l2 x21_1).f0) 2 1) ((rd_T71 l2 x21_1).f1) 2 1) ((rd_T71 l2 x21_1).f0) 6 a0_1) ((rd_T71 l2 x21_1).f1)) 6 + a0_1)))).drew = w10_ at T10 A10 C10 ⊢
                                  have H := HL.out
                                  rw [if_neg (of_decide_eq_false c35b0)] at H
                                  rw [if_neg (of_decide_eq_false c36b0)] at H
                                  have H' := am H
                                  clear H
                                  go_wp2
                                  go_roundg kj13
                                  case measure => have := HK1.out; have := HJ13.out; omega
                                  case rel => exact ⟨(tb.add (tb.add (tb.add (tb.add (tb.add (tb.add (tb.add (tb.add (tb.add (tb.add x9_1 ((rd_T71 l2 x21_1).f0) 0 1) ((rd_T71 l2 x21_1).f1) 0 1) ((rd_T71 l2 x21_1).f0) 4 t523) ((rd_T71 l2 x21_1).f0) 5 t524) ((rd_T71 l2 x21_1).f1) 4 t524) ((rd_T71 l2 x21_1).f1) 5 t523) ((rd_T71 l2 x21_1).f0) 2 1) ((rd_T71 l2 x21_1).f1) 2 1) ((rd_T71 l2 x21_1).f0) 6 a0_1) ((rd_T71 l2 x21_1).f1) 6 a0_1), (wrap64 (x21_1 + 1)), (es), H', ⟨by have := HK1.out; have := HJ13.out; omega⟩, ⟨T10.out⟩, ⟨A10.out⟩, ⟨C10.out⟩⟩
                            · rw [if_neg c28] at H
                              exact absurd H (by simp)
                          · rw [if_neg c27] at H
                            exact absurd H (by simp)
                        · rw [if_neg c26] at H
                          exact absurd H (by simp)
                      · rw [if_neg c25] at H
                        exact absurd H (by simp)
              · rw [if_neg c12] at H
                exact absurd H (by simp)
            · rw [if_neg c11] at H
              exact absurd H (by simp)
          · rw [if_neg c10] at H
            have c10b0 : decide (x21_1 < (l2.length : Int)) = false := decide_eq_false c10
            clear c10
            obtain rfl := Option.some.inj H
            go_wp2
            go_ret
            exact ⟨_, er, rk HO_9.out, bel⟩
    · rw [if_neg c6] at H
      exact absurd H (by simp)
  · rw [if_neg c5] at H
    exact absurd H (by simp)
def impl_rankerOf.f (k : Nat) (l0_0 : List (S101)) (a0_1 : Int) (a0_2 : Int) (a0_3 : Int) (l0_4 : List Int) (a0_5 : Bool) (l0_6 : List (S71)) (l0_7 : List Int) (l0_8 : List Int) : Option (List (S129)) := impl_tableOf_impl_rankerOf_1.f k a0_1 a0_2 a0_3 l0_4 a0_5 (l0_0.length : Int) l0_6
def impl_rankerOf.T1 : Bool × List (List Nat × List Nat) := (true, [([], []), ([], []), ([1], [1]), ([], []), ([3], [3]), ([4], [4]), ([], []), ([6], [6]), ([2, 5, 7], [2, 5, 7]), ([0, 8], [0, 8]), ([9, 8, 0, 1, 2, 3, 4, 5, 6, 7, 8, 9], [9])])
def impl_rankerOf.B1 : List Nat := [0, 0, 2, 0, 8, 24, 0, 64, 254, 511, 1023]
theorem impl_rankerOf.tab1 : rtab .any (opsOf Try.f115 1) = impl_rankerOf.T1 := by kernel_rfl
theorem impl_rankerOf.bits1 : waitsOk impl_rankerOf.T1.2 impl_rankerOf.B1 = true := by kernel_rfl
set_option maxHeartbeats 8000000 in
set_option maxRecDepth 100000 in
theorem impl_rankerOf.calls (k : Nat) (A0_0 : Option Addr) (c0_0 : Nat) (l0_0 : List (S101)) (a0_1 : Int) (a0_2 : Int) (a0_3 : Int) (A0_4 : Option Addr) (c0_4 : Nat) (l0_4 : List Int) (a0_5 : Bool) (A0_6 : Option Addr) (c0_6 : Nat) (l0_6 : List (S71)) (A0_7 : Option Addr) (c0_7 : Nat) (l0_7 : List Int) (A0_8 : Option Addr) (c0_8 : Nat) (l0_8 : List Int) (r : List (S129)) (w : World) (hr0_0 : Kd.C k101 w A0_0 l0_0.length l0_0) (hc0_0 : l0_0.length ≤ c0_0) (hr0_4 : Kd.C (Kd.int .i64) w A0_4 l0_4.length l0_4) (hc0_4 : l0_4.length ≤ c0_4) (hr0_6 : Kd.C k71 w A0_6 l0_6.length l0_6) (hc0_6 : l0_6.length ≤ c0_6) (hr0_7 : Kd.C (Kd.int .i64) w A0_7 l0_7.length l0_7) (hc0_7 : l0_7.length ≤ c0_7) (hr0_8 : Kd.C (Kd.int .i64) w A0_8 l0_8.length l0_8) (hc0_8 : l0_8.length ≤ c0_8) (h : impl_rankerOf.f k l0_0 a0_1 a0_2 a0_3 l0_4 a0_5 l0_6 l0_7 l0_8 = some r) :
    Calls Try.prog 115 #[.agg #[.slice A0_0 l0_0.length c0_0, .int .i64 a0_1, .int .i64 a0_2, .int .i64 a0_3, .slice A0_4 l0_4.length c0_4, .bool a0_5, .slice A0_6 l0_6.length c0_6, .slice A0_7 l0_7.length c0_7, .slice A0_8 l0_8.length c0_8]] w fun e w' => ∃ v0_ : Value, e = .returned (.agg #[.slice A0_0 l0_0.length c0_0, .int .i64 a0_1, .int .i64 a0_2, .int .i64 a0_3, .slice A0_4 l0_4.length c0_4, .bool a0_5, .slice A0_6 l0_6.length c0_6, .slice A0_7 l0_7.length c0_7, .slice A0_8 l0_8.length c0_8, v0_]) ∧ Kd.R k129 129 w' w.heap.size (fun _ => True) v0_ r ∧ Below w.heap.size w w' := by
  have hu37 := Try.underlying37
  have hu119 := Try.underlying119
  have hu34 := Try.underlying34
  have HR0_0 := Aside0.mk hr0_0
  have HC0_0 := Aside0.mk hc0_0
  clear hr0_0 hc0_0
  have HR0_4 := Aside0.mk hr0_4
  have HC0_4 := Aside0.mk hc0_4
  clear hr0_4 hc0_4
  have HR0_6 := Aside0.mk hr0_6
  have HC0_6 := Aside0.mk hc0_6
  clear hr0_6 hc0_6
  have HR0_7 := Aside0.mk hr0_7
  have HC0_7 := Aside0.mk hc0_7
  clear hr0_7 hc0_7
  have HR0_8 := Aside0.mk hr0_8
  have HC0_8 := Aside0.mk hc0_8
  clear hr0_8 hc0_8
  have HB := Aside0.mk (Below.refl w.heap.size w)
  have A2 := Aside0.mk (show impl_tableOf_impl_rankerOf_1.f k a0_1 a0_2 a0_3 l0_4 a0_5 (l0_0.length : Int) l0_6 = some r from h)
  clear h
  go_enter Try.func115, Try.ntmps115
  try go_wp2_with (first | ((with_reducible refine gate_dst (N := 1) rfl ?_); refine box_event ?hg (N := 1) ?hd (cs := #[.slice A0_0 l0_0.length c0_0, .int .i64 a0_1, .int .i64 a0_2, .int .i64 a0_3, .slice A0_4 l0_4.length c0_4, .bool a0_5, .slice A0_6 l0_6.length c0_6, .slice A0_7 l0_7.length c0_7, .slice A0_8 l0_8.length c0_8]) (t := 37) ?hr ?_; (case hd => rfl); (case hg => rfl); (case hr => first | (go_simp; done) | (go_simp; rfl)); intro gb516 hg w8 hbox hb; have BK516 := Aside0.mk (hbox); have GE516 := Aside0.mk ((bsz hg : w.heap.size ≤ gb516)); replace HB := Aside0.mk (below_step bel hb); clear hb hbox hg) | ((with_reducible refine gate_dst (N := 2) rfl ?_); refine box_event ?hg (N := 2) ?hd (cs := #[.slice none 0 0, .int .i64 0, .int .i64 0, .int .i64 0, .slice none 0 0, .bool false, .slice none 0 0, .slice none 0 0, .slice none 0 0, .slice none 0 0]) (t := 119) ?hr ?_; (case hd => rfl); (case hg => rfl); (case hr => first | (go_simp; done) | (go_simp; rfl)); intro gb517 hg w9 hbox hb; have BK517 := Aside0.mk (hbox); have GE517 := Aside0.mk ((bsz hg : w.heap.size ≤ gb517)); have NB516_517 := Aside0.mk ((nlt hg BK516.out : gb516 ≠ gb517)); have NB517_516 := Aside0.mk ((ngt hg BK516.out : gb517 ≠ gb516)); replace BK516 := Aside0.mk (bb BK516.out hb); replace HB := Aside0.mk (below_step bel hb); clear hb hbox hg))
  replace BK516 := Aside0.mk (blk_drew BK516.out)
  replace BK517 := Aside0.mk (blk_drew BK517.out)
  replace HB := Aside0.mk (below_drew1 HB.out)
  refine start_ (n := 11) (S := fun w' => w'.cell? ⟨gb516, 0, none⟩ = some (.slice A0_0 l0_0.length c0_0) ∧ w'.cell? ⟨gb516, 1, none⟩ = some (.int .i64 a0_1) ∧ w'.cell? ⟨gb516, 2, none⟩ = some (.int .i64 a0_2) ∧ w'.cell? ⟨gb516, 3, none⟩ = some (.int .i64 a0_3) ∧ w'.cell? ⟨gb516, 4, none⟩ = some (.slice A0_4 l0_4.length c0_4) ∧ w'.cell? ⟨gb516, 5, none⟩ = some (.bool a0_5) ∧ w'.cell? ⟨gb516, 6, none⟩ = some (.slice A0_6 l0_6.length c0_6) ∧ w'.cell? ⟨gb516, 7, none⟩ = some (.slice A0_7 l0_7.length c0_7) ∧ w'.cell? ⟨gb516, 8, none⟩ = some (.slice A0_8 l0_8.length c0_8)) (ds := []) #[false, false, false, false, false, false, false, false, false, false, false] (by kernel_rfl) rfl rfl ⟨(blk_cell BK516.out 0).trans rfl, (blk_cell BK516.out 1).trans rfl, (blk_cell BK516.out 2).trans rfl, (blk_cell BK516.out 3).trans rfl, (blk_cell BK516.out 4).trans rfl, (blk_cell BK516.out 5).trans rfl, (blk_cell BK516.out 6).trans rfl, (blk_cell BK516.out 7).trans rfl, (blk_cell BK516.out 8).trans rfl⟩ (fun hHeld => ?_); refine with_tabW impl_rankerOf.tab1 impl_rankerOf.bits1 (fun HT_ HW_ => ?_)
  generalize w9.drew = w10 at BK516 BK517 HB hHeld ⊢
  refine pure_ (i := 1) (N := some 4) (v := ?_) (a' := ?_) #[false, true, false, false, false, false, false, false, false, false, false] rfl rfl (any_of HT_.out (by kernel_rfl)) (fun _ _ _ h => h) (Or.inl ⟨by rfl, ?_⟩) ?_ ?_
  rotate_left
  · intro w'
    go_simp
    with_reducible rfl
  rotate_left
  · simp only [Act.put, List.setIfInBounds_toArray, List.set_cons_zero, List.set_cons_succ, i64_w, i32_w]
    rfl
  refine pure_ (i := 3) (N := some 6) (v := ?_) (a' := ?_) #[false, true, false, true, false, false, false, false, false, false, false] rfl rfl (any_of HT_.out (by kernel_rfl)) (fun _ _ _ h => h) (Or.inl ⟨by rfl, ?_⟩) ?_ ?_
  rotate_left
  · intro w'
    go_simp
    with_reducible rfl
  rotate_left
  · simp only [Act.put, List.setIfInBounds_toArray, List.set_cons_zero, List.set_cons_succ, i64_w, i32_w]
    rfl
  refine pure_ (i := 6) (N := some 9) (v := ?_) (a' := ?_) #[false, true, false, true, false, false, true, false, false, false, false] rfl rfl (any_of HT_.out (by kernel_rfl)) (fun _ _ _ h => h) (Or.inl ⟨by rfl, ?_⟩) ?_ ?_
  rotate_left
  · intro w'
    go_simp
    with_reducible rfl
  rotate_left
  · simp only [Act.put, List.setIfInBounds_toArray, List.set_cons_zero, List.set_cons_succ, i64_w, i32_w]
    rfl
  refine take_ (i := 0) (N := some 3) (v := ?_) (a' := ?_) #[true, true, false, true, false, false, true, false, false, false, false] rfl rfl (take_ofW HT_.out HW_.out (by kernel_rfl)) (fun _ _ _ h => h) (Or.inl ⟨by rfl, ?_⟩) hHeld ?_ ?_
  rotate_left
  · rintro w' ⟨s0, s1, s2, s3, s4, s5, s6, s7, s8⟩
    go_simp
    with_reducible rfl
  rotate_left
  · simp only [Act.put, List.setIfInBounds_toArray, List.set_cons_zero, List.set_cons_succ, i64_w, i32_w]
    rfl
  refine take_ (i := 2) (N := some 5) (v := ?_) (a' := ?_) #[true, true, true, true, false, false, true, false, false, false, false] rfl rfl (take_ofW HT_.out HW_.out (by kernel_rfl)) (fun _ _ _ h => h) (Or.inl ⟨by rfl, ?_⟩) hHeld ?_ ?_
  rotate_left
  · rintro w' ⟨s0, s1, s2, s3, s4, s5, s6, s7, s8⟩
    go_simp
    with_reducible rfl
  rotate_left
  · simp only [Act.put, List.setIfInBounds_toArray, List.set_cons_zero, List.set_cons_succ, i64_w, i32_w]
    rfl
  refine take_ (i := 4) (N := some 7) (v := ?_) (a' := ?_) #[true, true, true, true, true, false, true, false, false, false, false] rfl rfl (take_ofW HT_.out HW_.out (by kernel_rfl)) (fun _ _ _ h => h) (Or.inl ⟨by rfl, ?_⟩) hHeld ?_ ?_
  rotate_left
  · rintro w' ⟨s0, s1, s2, s3, s4, s5, s6, s7, s8⟩
    go_simp
    with_reducible rfl
  rotate_left
  · simp only [Act.put, List.setIfInBounds_toArray, List.set_cons_zero, List.set_cons_succ, i64_w, i32_w]
    rfl
  refine pure_ (i := 5) (N := some 8) (v := ?_) (a' := ?_) #[true, true, true, true, true, true, true, false, false, false, false] rfl rfl (any_of HT_.out (by kernel_rfl)) (fun _ _ _ h => h) (Or.inl ⟨by rfl, ?_⟩) ?_ ?_
  rotate_left
  · intro w'
    go_simp
    with_reducible rfl
  rotate_left
  · simp only [Act.put, List.setIfInBounds_toArray, List.set_cons_zero, List.set_cons_succ, i64_w, i32_w]
    rfl
  refine take_ (i := 7) (N := some 10) (v := ?_) (a' := ?_) #[true, true, true, true, true, true, true, true, false, false, false] rfl rfl (take_ofW HT_.out HW_.out (by kernel_rfl)) (fun _ _ _ h => h) (Or.inl ⟨by rfl, ?_⟩) hHeld ?_ ?_
  rotate_left
  · rintro w' ⟨s0, s1, s2, s3, s4, s5, s6, s7, s8⟩
    go_simp
    with_reducible rfl
  rotate_left
  · simp only [Act.put, List.setIfInBounds_toArray, List.set_cons_zero, List.set_cons_succ, i64_w, i32_w]
    rfl
  refine one_ (i := 8) (N := some 11) #[true, true, true, true, true, true, true, true, true, false, false] rfl rfl (one_of HT_.out (by kernel_rfl)) (by decide) (fun K hK => ?_)
  refine goes_ Try.func131 (by kernel_rfl) rfl #[.agg #[.int .i64 a0_1, .int .i64 a0_2, .int .i64 a0_3, .slice A0_4 l0_4.length c0_4, .bool a0_5], .int .i64 (l0_0.length : Int), .slice A0_6 l0_6.length c0_6, .func (.func 132) #[] #[]] (by rfl) rfl rfl ga ?_
  with_reducible refine (impl_tableOf_impl_rankerOf_1.calls k a0_1 a0_2 a0_3 _ _ l0_4 a0_5 (l0_0.length : Int) _ _ l0_6 r _ ?side1 ?side2 ?side3 ?side4 A2.out).mono ?_
  (case side1 => exact ck (Kd.C_below HR0_4.out bel))
  (case side2 => exact HC0_4.out)
  (case side3 => exact ck (Kd.C_below HR0_6.out bel))
  (case side4 => exact HC0_6.out)
  rintro e w11 ⟨v519, rfl, ho0, hb⟩
  refine ⟨_, rfl, ?_⟩
  have HO520 := Aside0.mk (Kd.R_lower (base' := w.heap.size) ho0 (below_size bel))
  replace BK516 := Aside0.mk (bb BK516.out hb)
  replace BK517 := Aside0.mk (bb BK517.out hb)
  replace HB := Aside0.mk (below_step bel hb)
  (try clear hb)
  (try clear hb2)
  (try clear hk)
  (try clear hi)
  (try clear ho0)
  obtain ⟨Ao12, co12, eo12⟩ := Kd.R_slice HO520.out
  (first | subst eo12 | (injection eo12 with f1_ f2_ f3_; have f4_ := f1_.symm; have f5_ := f3_.symm; clear f1_ f2_ f3_; subst f4_; subst f5_))
  refine hK.out _ _ ⟨(blk_cell BK516.out 0).trans rfl, (blk_cell BK516.out 1).trans rfl, (blk_cell BK516.out 2).trans rfl, (blk_cell BK516.out 3).trans rfl, (blk_cell BK516.out 4).trans rfl, (blk_cell BK516.out 5).trans rfl, (blk_cell BK516.out 6).trans rfl, (blk_cell BK516.out 7).trans rfl, (blk_cell BK516.out 8).trans rfl⟩ (fun hHeld => ?_)
  clear hK K
  refine norm_ (a' := ?_) ?_ ?_
  rotate_left
  · show Act.put _ (some 11) _ = _
    simp only [Act.put, List.setIfInBounds_toArray, List.set_cons_zero, List.set_cons_succ, i64_w, i32_w]
    rfl
  refine pure_ (i := 9) (N := some 12) (v := ?_) (a' := ?_) #[true, true, true, true, true, true, true, true, true, true, false] rfl rfl (any_of HT_.out (by kernel_rfl)) (fun _ _ _ h => h) (Or.inl ⟨by rfl, ?_⟩) ?_ ?_
  rotate_left
  · intro w'
    go_simp
    with_reducible rfl
  rotate_left
  · simp only [Act.put, List.setIfInBounds_toArray, List.set_cons_zero, List.set_cons_succ, i64_w, i32_w]
    rfl
  refine one_ (i := 10) (N := none) #[true, true, true, true, true, true, true, true, true, true, true] rfl rfl (one_of HT_.out (by kernel_rfl)) (by decide) (fun K hK => ?_)
  have hs13 : w11.cell? ⟨gb517, 0, none⟩ = some (.slice none 0 0) := (blk_cell BK517.out 0).trans rfl
  have hfs13 := blk_frozen BK517.out 0
  have hns13_0 := NB516_517.out
  have hms13_0 := NB517_516.out
  have hs14 : w11.cell? ⟨gb517, 1, none⟩ = some (.int .i64 0) := (blk_cell BK517.out 1).trans rfl
  have hfs14 := blk_frozen BK517.out 1
  have hns14_0 := NB516_517.out
  have hms14_0 := NB517_516.out
  have hs15 : w11.cell? ⟨gb517, 2, none⟩ = some (.int .i64 0) := (blk_cell BK517.out 2).trans rfl
  have hfs15 := blk_frozen BK517.out 2
  have hns15_0 := NB516_517.out
  have hms15_0 := NB517_516.out
  have hs16 : w11.cell? ⟨gb517, 3, none⟩ = some (.int .i64 0) := (blk_cell BK517.out 3).trans rfl
  have hfs16 := blk_frozen BK517.out 3
  have hns16_0 := NB516_517.out
  have hms16_0 := NB517_516.out
  have hs17 : w11.cell? ⟨gb517, 4, none⟩ = some (.slice none 0 0) := (blk_cell BK517.out 4).trans rfl
  have hfs17 := blk_frozen BK517.out 4
  have hns17_0 := NB516_517.out
  have hms17_0 := NB517_516.out
  have hs18 : w11.cell? ⟨gb517, 5, none⟩ = some (.bool false) := (blk_cell BK517.out 5).trans rfl
  have hfs18 := blk_frozen BK517.out 5
  have hns18_0 := NB516_517.out
  have hms18_0 := NB517_516.out
  have hs19 : w11.cell? ⟨gb517, 6, none⟩ = some (.slice none 0 0) := (blk_cell BK517.out 6).trans rfl
  have hfs19 := blk_frozen BK517.out 6
  have hns19_0 := NB516_517.out
  have hms19_0 := NB517_516.out
  have hs20 : w11.cell? ⟨gb517, 7, none⟩ = some (.slice none 0 0) := (blk_cell BK517.out 7).trans rfl
  have hfs20 := blk_frozen BK517.out 7
  have hns20_0 := NB516_517.out
  have hms20_0 := NB517_516.out
  have hs21 : w11.cell? ⟨gb517, 8, none⟩ = some (.slice none 0 0) := (blk_cell BK517.out 8).trans rfl
  have hfs21 := blk_frozen BK517.out 8
  have hns21_0 := NB516_517.out
  have hms21_0 := NB517_516.out
  have hs22 : w11.cell? ⟨gb517, 9, none⟩ = some (.slice none 0 0) := (blk_cell BK517.out 9).trans rfl
  have hfs22 := blk_frozen BK517.out 9
  have hns22_0 := NB516_517.out
  have hms22_0 := NB517_516.out
  refine skip_ (w1 := ?_) (by rfl) rfl ?_ ?_
  rotate_left
  · go_simp
    rfl
  refine hK.out _ _ ⟨((cell_far (p := ⟨gb517, _, none⟩) NB516_517.out _).trans (((cell_far (p := ⟨gb517, _, none⟩) NB516_517.out _).trans (((cell_far (p := ⟨gb517, _, none⟩) NB516_517.out _).trans (((cell_far (p := ⟨gb517, _, none⟩) NB516_517.out _).trans (((cell_far (p := ⟨gb517, _, none⟩) NB516_517.out _).trans (((cell_far (p := ⟨gb517, _, none⟩) NB516_517.out _).trans (((cell_far (p := ⟨gb517, _, none⟩) NB516_517.out _).trans (((cell_far (p := ⟨gb517, _, none⟩) NB516_517.out _).trans (((cell_far (p := ⟨gb517, _, none⟩) NB516_517.out _).trans (((cell_far (p := ⟨gb517, _, none⟩) NB516_517.out _).trans (hHeld.1)))))))))))))))))))), ((cell_far (p := ⟨gb517, _, none⟩) NB516_517.out _).trans (((cell_far (p := ⟨gb517, _, none⟩) NB516_517.out _).trans (((cell_far (p := ⟨gb517, _, none⟩) NB516_517.out _).trans (((cell_far (p := ⟨gb517, _, none⟩) NB516_517.out _).trans (((cell_far (p := ⟨gb517, _, none⟩) NB516_517.out _).trans (((cell_far (p := ⟨gb517, _, none⟩) NB516_517.out _).trans (((cell_far (p := ⟨gb517, _, none⟩) NB516_517.out _).trans (((cell_far (p := ⟨gb517, _, none⟩) NB516_517.out _).trans (((cell_far (p := ⟨gb517, _, none⟩) NB516_517.out _).trans (((cell_far (p := ⟨gb517, _, none⟩) NB516_517.out _).trans (hHeld.2.1)))))))))))))))))))), ((cell_far (p := ⟨gb517, _, none⟩) NB516_517.out _).trans (((cell_far (p := ⟨gb517, _, none⟩) NB516_517.out _).trans (((cell_far (p := ⟨gb517, _, none⟩) NB516_517.out _).trans (((cell_far (p := ⟨gb517, _, none⟩) NB516_517.out _).trans (((cell_far (p := ⟨gb517, _, none⟩) NB516_517.out _).trans (((cell_far (p := ⟨gb517, _, none⟩) NB516_517.out _).trans (((cell_far (p := ⟨gb517, _, none⟩) NB516_517.out _).trans (((cell_far (p := ⟨gb517, _, none⟩) NB516_517.out _).trans (((cell_far (p := ⟨gb517, _, none⟩) NB516_517.out _).trans (((cell_far (p := ⟨gb517, _, none⟩) NB516_517.out _).trans (hHeld.2.2.1)))))))))))))))))))), ((cell_far (p := ⟨gb517, _, none⟩) NB516_517.out _).trans (((cell_far (p := ⟨gb517, _, none⟩) NB516_517.out _).trans (((cell_far (p := ⟨gb517, _, none⟩) NB516_517.out _).trans (((cell_far (p := ⟨gb517, _, none⟩) NB516_517.out _).trans (((cell_far (p := ⟨gb517, _, none⟩) NB516_517.out _).trans (((cell_far (p := ⟨gb517, _, none⟩) NB516_517.out _).trans (((cell_far (p := ⟨gb517, _, none⟩) NB516_517.out _).trans (((cell_far (p := ⟨gb517, _, none⟩) NB516_517.out _).trans (((cell_far (p := ⟨gb517, _, none⟩) NB516_517.out _).trans (((cell_far (p := ⟨gb517, _, none⟩) NB516_517.out _).trans (hHeld.2.2.2.1)))))))))))))))))))), ((cell_far (p := ⟨gb517, _, none⟩) NB516_517.out _).trans (((cell_far (p := ⟨gb517, _, none⟩) NB516_517.out _).trans (((cell_far (p := ⟨gb517, _, none⟩) NB516_517.out _).trans (((cell_far (p := ⟨gb517, _, none⟩) NB516_517.out _).trans (((cell_far (p := ⟨gb517, _, none⟩) NB516_517.out _).trans (((cell_far (p := ⟨gb517, _, none⟩) NB516_517.out _).trans (((cell_far (p := ⟨gb517, _, none⟩) NB516_517.out _).trans (((cell_far (p := ⟨gb517, _, none⟩) NB516_517.out _).trans (((cell_far (p := ⟨gb517, _, none⟩) NB516_517.out _).trans (((cell_far (p := ⟨gb517, _, none⟩) NB516_517.out _).trans (hHeld.2.2.2.2.1)))))))))))))))))))), ((cell_far (p := ⟨gb517, _, none⟩) NB516_517.out _).trans (((cell_far (p := ⟨gb517, _, none⟩) NB516_517.out _).trans (((cell_far (p := ⟨gb517, _, none⟩) NB516_517.out _).trans (((cell_far (p := ⟨gb517, _, none⟩) NB516_517.out _).trans (((cell_far (p := ⟨gb517, _, none⟩) NB516_517.out _).trans (((cell_far (p := ⟨gb517, _, none⟩) NB516_517.out _).trans (((cell_far (p := ⟨gb517, _, none⟩) NB516_517.out _).trans (((cell_far (p := ⟨gb517, _, none⟩) NB516_517.out _).trans (((cell_far (p := ⟨gb517, _, none⟩) NB516_517.out _).trans (((cell_far (p := ⟨gb517, _, none⟩) NB516_517.out _).trans (hHeld.2.2.2.2.2.1)))))))))))))))))))), ((cell_far (p := ⟨gb517, _, none⟩) NB516_517.out _).trans (((cell_far (p := ⟨gb517, _, none⟩) NB516_517.out _).trans (((cell_far (p := ⟨gb517, _, none⟩) NB516_517.out _).trans (((cell_far (p := ⟨gb517, _, none⟩) NB516_517.out _).trans (((cell_far (p := ⟨gb517, _, none⟩) NB516_517.out _).trans (((cell_far (p := ⟨gb517, _, none⟩) NB516_517.out _).trans (((cell_far (p := ⟨gb517, _, none⟩) NB516_517.out _).trans (((cell_far (p := ⟨gb517, _, none⟩) NB516_517.out _).trans (((cell_far (p := ⟨gb517, _, none⟩) NB516_517.out _).trans (((cell_far (p := ⟨gb517, _, none⟩) NB516_517.out _).trans (hHeld.2.2.2.2.2.2.1)))))))))))))))))))), ((cell_far (p := ⟨gb517, _, none⟩) NB516_517.out _).trans (((cell_far (p := ⟨gb517, _, none⟩) NB516_517.out _).trans (((cell_far (p := ⟨gb517, _, none⟩) NB516_517.out _).trans (((cell_far (p := ⟨gb517, _, none⟩) NB516_517.out _).trans (((cell_far (p := ⟨gb517, _, none⟩) NB516_517.out _).trans (((cell_far (p := ⟨gb517, _, none⟩) NB516_517.out _).trans (((cell_far (p := ⟨gb517, _, none⟩) NB516_517.out _).trans (((cell_far (p := ⟨gb517, _, none⟩) NB516_517.out _).trans (((cell_far (p := ⟨gb517, _, none⟩) NB516_517.out _).trans (((cell_far (p := ⟨gb517, _, none⟩) NB516_517.out _).trans (hHeld.2.2.2.2.2.2.2.1)))))))))))))))))))), ((cell_far (p := ⟨gb517, _, none⟩) NB516_517.out _).trans (((cell_far (p := ⟨gb517, _, none⟩) NB516_517.out _).trans (((cell_far (p := ⟨gb517, _, none⟩) NB516_517.out _).trans (((cell_far (p := ⟨gb517, _, none⟩) NB516_517.out _).trans (((cell_far (p := ⟨gb517, _, none⟩) NB516_517.out _).trans (((cell_far (p := ⟨gb517, _, none⟩) NB516_517.out _).trans (((cell_far (p := ⟨gb517, _, none⟩) NB516_517.out _).trans (((cell_far (p := ⟨gb517, _, none⟩) NB516_517.out _).trans (((cell_far (p := ⟨gb517, _, none⟩) NB516_517.out _).trans (((cell_far (p := ⟨gb517, _, none⟩) NB516_517.out _).trans (hHeld.2.2.2.2.2.2.2.2))))))))))))))))))))⟩ (fun hHeld => ?_)
  clear hK K
  refine done_ (done_of HT_.out (by kernel_rfl)) ?_
  try go_wp2
  refine bodyPost_ret (results_cell_row rfl _ _ gb517 119 #[.slice A0_0 l0_0.length c0_0, .int .i64 a0_1, .int .i64 a0_2, .int .i64 a0_3, .slice A0_4 l0_4.length c0_4, .bool a0_5, .slice A0_6 l0_6.length c0_6, .slice A0_7 l0_7.length c0_7, .slice A0_8 l0_8.length c0_8, .slice Ao12 r.length co12] (0, 0) _ rfl (by (with_reducible repeat (first | refine blk_drewN ?_ _ | refine blk_drew ?_ | refine blk_alloc ?_ _)); refine blk_put (cs := #[.slice A0_0 l0_0.length c0_0, .int .i64 a0_1, .int .i64 a0_2, .int .i64 a0_3, .slice A0_4 l0_4.length c0_4, .bool a0_5, .slice A0_6 l0_6.length c0_6, .slice A0_7 l0_7.length c0_7, .slice A0_8 l0_8.length c0_8, .slice none 0 0]) ?_ 9 _ rfl; (with_reducible repeat (first | refine blk_drewN ?_ _ | refine blk_drew ?_ | refine blk_alloc ?_ _)); refine blk_put (cs := #[.slice A0_0 l0_0.length c0_0, .int .i64 a0_1, .int .i64 a0_2, .int .i64 a0_3, .slice A0_4 l0_4.length c0_4, .bool a0_5, .slice A0_6 l0_6.length c0_6, .slice A0_7 l0_7.length c0_7, .slice none 0 0, .slice none 0 0]) ?_ 8 _ rfl; (with_reducible repeat (first | refine blk_drewN ?_ _ | refine blk_drew ?_ | refine blk_alloc ?_ _)); refine blk_put (cs := #[.slice A0_0 l0_0.length c0_0, .int .i64 a0_1, .int .i64 a0_2, .int .i64 a0_3, .slice A0_4 l0_4.length c0_4, .bool a0_5, .slice A0_6 l0_6.length c0_6, .slice none 0 0, .slice none 0 0, .slice none 0 0]) ?_ 7 _ rfl; (with_reducible repeat (first | refine blk_drewN ?_ _ | refine blk_drew ?_ | refine blk_alloc ?_ _)); refine blk_put (cs := #[.slice A0_0 l0_0.length c0_0, .int .i64 a0_1, .int .i64 a0_2, .int .i64 a0_3, .slice A0_4 l0_4.length c0_4, .bool a0_5, .slice none 0 0, .slice none 0 0, .slice none 0 0, .slice none 0 0]) ?_ 6 _ rfl; (with_reducible repeat (first | refine blk_drewN ?_ _ | refine blk_drew ?_ | refine blk_alloc ?_ _)); refine blk_put (cs := #[.slice A0_0 l0_0.length c0_0, .int .i64 a0_1, .int .i64 a0_2, .int .i64 a0_3, .slice A0_4 l0_4.length c0_4, .bool false, .slice none 0 0, .slice none 0 0, .slice none 0 0, .slice none 0 0]) ?_ 5 _ rfl; (with_reducible repeat (first | refine blk_drewN ?_ _ | refine blk_drew ?_ | refine blk_alloc ?_ _)); refine blk_put (cs := #[.slice A0_0 l0_0.length c0_0, .int .i64 a0_1, .int .i64 a0_2, .int .i64 a0_3, .slice none 0 0, .bool false, .slice none 0 0, .slice none 0 0, .slice none 0 0, .slice none 0 0]) ?_ 4 _ rfl; (with_reducible repeat (first | refine blk_drewN ?_ _ | refine blk_drew ?_ | refine blk_alloc ?_ _)); refine blk_put (cs := #[.slice A0_0 l0_0.length c0_0, .int .i64 a0_1, .int .i64 a0_2, .int .i64 0, .slice none 0 0, .bool false, .slice none 0 0, .slice none 0 0, .slice none 0 0, .slice none 0 0]) ?_ 3 _ rfl; (with_reducible repeat (first | refine blk_drewN ?_ _ | refine blk_drew ?_ | refine blk_alloc ?_ _)); refine blk_put (cs := #[.slice A0_0 l0_0.length c0_0, .int .i64 a0_1, .int .i64 0, .int .i64 0, .slice none 0 0, .bool false, .slice none 0 0, .slice none 0 0, .slice none 0 0, .slice none 0 0]) ?_ 2 _ rfl; (with_reducible repeat (first | refine blk_drewN ?_ _ | refine blk_drew ?_ | refine blk_alloc ?_ _)); refine blk_put (cs := #[.slice A0_0 l0_0.length c0_0, .int .i64 0, .int .i64 0, .int .i64 0, .slice none 0 0, .bool false, .slice none 0 0, .slice none 0 0, .slice none 0 0, .slice none 0 0]) ?_ 1 _ rfl; (with_reducible repeat (first | refine blk_drewN ?_ _ | refine blk_drew ?_ | refine blk_alloc ?_ _)); refine blk_put (cs := #[.slice none 0 0, .int .i64 0, .int .i64 0, .int .i64 0, .slice none 0 0, .bool false, .slice none 0 0, .slice none 0 0, .slice none 0 0, .slice none 0 0]) ?_ 0 _ rfl; (with_reducible repeat (first | refine blk_drewN ?_ _ | refine blk_drew ?_ | refine blk_alloc ?_ _)); exact BK517.out) Try.underlying119 rfl (by kernel_rfl)) rfl ?_
  exact ⟨_, er, by (with_reducible repeat (first | apply Kd.R_alloc | apply Kd.R_drewN | apply Kd.R_drew)); exact Kd.R_mono (Kd.R_far (p := ⟨gb517, 9, none⟩) (Kd.R_far (p := ⟨gb517, 8, none⟩) (Kd.R_far (p := ⟨gb517, 7, none⟩) (Kd.R_far (p := ⟨gb517, 6, none⟩) (Kd.R_far (p := ⟨gb517, 5, none⟩) (Kd.R_far (p := ⟨gb517, 4, none⟩) (Kd.R_far (p := ⟨gb517, 3, none⟩) (Kd.R_far (p := ⟨gb517, 2, none⟩) (Kd.R_far (p := ⟨gb517, 1, none⟩) (Kd.R_far (p := ⟨gb517, 0, none⟩) (Kd.R_types HO520.out BK517.out (by decide)) (fun _ hk => hk.2) (.slice A0_0 l0_0.length c0_0)) (fun _ hk => hk.2) (.int .i64 a0_1)) (fun _ hk => hk.2) (.int .i64 a0_2)) (fun _ hk => hk.2) (.int .i64 a0_3)) (fun _ hk => hk.2) (.slice A0_4 l0_4.length c0_4)) (fun _ hk => hk.2) (.bool a0_5)) (fun _ hk => hk.2) (.slice A0_6 l0_6.length c0_6)) (fun _ hk => hk.2) (.slice A0_7 l0_7.length c0_7)) (fun _ hk => hk.2) (.slice A0_8 l0_8.length c0_8)) (fun _ hk => hk.2) (.slice Ao12 r.length co12)) (fun _ _ => trivial), bel⟩

end Go.Proofs.Ytgalpgakdcfilaa.Q
