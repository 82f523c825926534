-- Written by a program of this session (wip/xp.py).
import Derived.Test.YtgalpgakdcfilaaQ0
import Derived.Test.YtgalpgakdcfilaaQ42
import Derived.Test.YtgalpgakdcfilaaQ39
namespace Go.Proofs.Ytgalpgakdcfilaa.Q
open Go.RowKit Go.Proofs.YtgalpgakdcfilaaW.PrintWords Go.Proofs.YtgalpgakdcfilaaW.PrintLast Go.Proofs.YtgalpgakdcfilaaW.PrintMore
attribute [local go_sem] max2_int min2_int max_two min_two max_three min_three max_four min_four   -- for this text's walks alone
set_option linter.unusedVariables false
set_option linter.unusedSimpArgs false
set_option maxHeartbeats 8000000
set_option maxRecDepth 100000

def impl_points.l0 : Nat → List Int → List (S129) → Int → Int → List (S101) → Int → Int → Int → List Int → Bool → List (S71) → List Int → List Int → Option (List Int)
  | 0, _, _, _, _, _, _, _, _, _, _, _, _, _ => none
  | k + 1, x3, x9, x10, x11, x522000, x522001, x522002, x522003, x522004, x522005, x522006, x522007, x522008 => if x11 < x10 then (if 0 ≤ x11 then (if x11 < (x9.length : Int) then (if x11 < (x522008.length : Int) then (if x3.length < 17592186044416 then (impl_points.l0 k (x3 ++ [wrap64 (((rd_T129 x9 x11).f6) - (rd x522008 x11))]) x9 x10 (wrap64 (x11 + 1)) x522000 x522001 x522002 x522003 x522004 x522005 x522006 x522007 x522008) else (none)) else (none)) else (none)) else (none)) else (some x3)
def impl_points.f (k : Nat) (l0_0 : List (S101)) (a0_1 : Int) (a0_2 : Int) (a0_3 : Int) (l0_4 : List Int) (a0_5 : Bool) (l0_6 : List (S71)) (l0_7 : List Int) (l0_8 : List Int) : Option (List Int) := (impl_rankerOf.f k l0_0 a0_1 a0_2 a0_3 l0_4 a0_5 l0_6 l0_7 l0_8).bind fun t525 => (impl_points.l0 k (([] : List Int)) t525 (t525.length : Int) 0 l0_0 a0_1 a0_2 a0_3 l0_4 a0_5 l0_6 l0_7 l0_8)
def impl_points.T5 : Bool × List (List Nat × List Nat) := (true, [([], []), ([], []), ([1], [1]), ([], []), ([3], [3]), ([], []), ([4, 5], [4, 5]), ([6], [6]), ([2, 7], [2, 7]), ([8], [8]), ([0, 9], [0, 9]), ([10, 10, 0, 1, 2, 3, 4, 5, 6, 7, 8, 9, 10], [0, 10])])
def impl_points.B5 : List Nat := [0, 0, 2, 0, 8, 0, 56, 120, 254, 510, 1023, 2047]
theorem impl_points.tab5 : rtab .any (opsOf Try.f110 5) = impl_points.T5 := by kernel_rfl
theorem impl_points.bits5 : waitsOk impl_points.T5.2 impl_points.B5 = true := by kernel_rfl
theorem impl_points.calls (k : Nat) (A0_0 : Option Addr) (c0_0 : Nat) (l0_0 : List (S101)) (a0_1 : Int) (a0_2 : Int) (a0_3 : Int) (A0_4 : Option Addr) (c0_4 : Nat) (l0_4 : List Int) (a0_5 : Bool) (A0_6 : Option Addr) (c0_6 : Nat) (l0_6 : List (S71)) (A0_7 : Option Addr) (c0_7 : Nat) (l0_7 : List Int) (A0_8 : Option Addr) (c0_8 : Nat) (l0_8 : List Int) (r : List Int) (w : World) (hr0_0 : Kd.C k101 w A0_0 l0_0.length l0_0) (hc0_0 : l0_0.length ≤ c0_0) (hr0_4 : Kd.C (Kd.int .i64) w A0_4 l0_4.length l0_4) (hc0_4 : l0_4.length ≤ c0_4) (hr0_6 : Kd.C k71 w A0_6 l0_6.length l0_6) (hc0_6 : l0_6.length ≤ c0_6) (hr0_7 : Kd.C (Kd.int .i64) w A0_7 l0_7.length l0_7) (hc0_7 : l0_7.length ≤ c0_7) (hr0_8 : Kd.C (Kd.int .i64) w A0_8 l0_8.length l0_8) (hc0_8 : l0_8.length ≤ c0_8) (h : impl_points.f k l0_0 a0_1 a0_2 a0_3 l0_4 a0_5 l0_6 l0_7 l0_8 = some r) : Calls Try.prog 110 #[.agg #[.slice A0_0 l0_0.length c0_0, .int .i64 a0_1, .int .i64 a0_2, .int .i64 a0_3, .slice A0_4 l0_4.length c0_4, .bool a0_5, .slice A0_6 l0_6.length c0_6, .slice A0_7 l0_7.length c0_7, .slice A0_8 l0_8.length c0_8]] w fun e w' => ∃ v0_ : Value, e = .returned (v0_) ∧ Kd.R (Kd.int .i64) 3 w' w.heap.size (fun _ => True) v0_ r ∧ Below w.heap.size w w' := by
 have hfd_ : ∀ (x0 x1 x2 x3 x4 x5 x6 x7 x8 x9 : Value) (W_ : World), (Instr.field 119 (.agg #[x0, x1, x2, x3, x4, x5, x6, x7, x8, x9]) 1).run Try.prog W_ = .ok x9 W_ := fun _ _ _ _ _ _ _ _ _ _ _ => by kernel_rfl
 have hu37 := Try.underlying37
 have hu129 := Try.underlying129
 have HR0_0 := am hr0_0
 have HC0_0 := am hc0_0
 clear hr0_0 hc0_0
 have HR0_4 := am hr0_4
 have HC0_4 := am hc0_4
 clear hr0_4 hc0_4
 have HR0_6 := am hr0_6
 have HC0_6 := am hc0_6
 clear hr0_6 hc0_6
 have HR0_7 := am hr0_7
 have HC0_7 := am hc0_7
 clear hr0_7 hc0_7
 have HR0_8 := am hr0_8
 have HC0_8 := am hc0_8
 clear hr0_8 hc0_8
 have HB := am (Below.refl w.heap.size w)
 have H : ((impl_rankerOf.f k l0_0 a0_1 a0_2 a0_3 l0_4 a0_5 l0_6 l0_7 l0_8).bind fun t525 => (impl_points.l0 k (([] : List Int)) t525 (t525.length : Int) 0 l0_0 a0_1 a0_2 a0_3 l0_4 a0_5 l0_6 l0_7 l0_8)) = some r := h
 clear h
 obtain ⟨y522, hy522⟩ : ∃ y_ : List Int, y_ = (([] : List Int)) := ⟨_, rfl⟩
 replace H : ((impl_rankerOf.f k l0_0 a0_1 a0_2 a0_3 l0_4 a0_5 l0_6 l0_7 l0_8).bind fun t525 => (impl_points.l0 k y522 t525 (t525.length : Int) 0 l0_0 a0_1 a0_2 a0_3 l0_4 a0_5 l0_6 l0_7 l0_8)) = some r := by first | (rw [hy522]; with_reducible exact H) | (have H2_ := (Option.bind_some _ _).symm.trans H; rw [hy522]; with_reducible exact H2_) | (have H2_ := (Option.bind_some _ _).symm.trans H; with_reducible exact H2_) | with_reducible exact H | (rw [hy522]; exact H) | exact H
 have Ny522 := am hy522
 clear hy522
 replace H := bm H; obtain ⟨t525, A2, H⟩ := H
 have H' := am H
 clear H
 go_enter Try.func110, Try.ntmps110
 go_wp2_with (first | ((with_reducible refine gd 1 ?_); refine bx w 1 #[.slice A0_0 l0_0.length c0_0, .int .i64 a0_1, .int .i64 a0_2, .int .i64 a0_3, .slice A0_4 l0_4.length c0_4, .bool a0_5, .slice A0_6 l0_6.length c0_6, .slice A0_7 l0_7.length c0_7, .slice A0_8 l0_8.length c0_8] 37 ?_; clear HB; intro gb521 w3 BK521 GE521 HB) | ((with_reducible refine gate_dst (N := 6) rfl ?_); refine Kd.R_lit (Kd.int .i64) _ 3 ?hg (N := 6) ?hd (xs := ([] : List Int)) (inner := []) (ok := fun _ => True) (okp := fun _ => True) ?hr ?hp (fun _ hk => hk) trivial (Below.refl _ _) (Nat.le_refl _) (by simp) ?_; (case hd => rfl); (case hg => rfl); (case hr => first | (go_simp; done) | (go_simp; rfl)); (case hp => exact (Reps.none _ _)); intro v523 w4 ho5 hb hg_ hnew_; clear hg_ hnew_; (first | rw [← Ny522.out] at ho5 | (simp only [Int.reduceToNat] at ho5; rw [← Ny522.out] at ho5)); have HO524 := am (Kd.R_lower ho5 (below_size bel)); replace BK521 := b1 BK521 hb; replace HB := b2 hb; clear hb ho5; obtain ⟨hcz6_0, hcz6_1, hcz6_2, hcz6_3, hcz6_4, hcz6_5, hcz6_6, hcz6_7, hcz6_8, hfz6_0, hfz6_1, hfz6_2, hfz6_3, hfz6_4, hfz6_5, hfz6_6, hfz6_7, hfz6_8⟩ := cf9 BK521.out) | ((with_reducible refine gc 115 ?_); refine gl 8 Try.func115 (impl_rankerOf.calls k _ _ l0_0 a0_1 a0_2 a0_3 _ _ l0_4 a0_5 _ _ l0_6 _ _ l0_7 _ _ l0_8 t525 _ (cb HR0_0 HB) HC0_0.out (cb HR0_4 HB) HC0_4.out (cb HR0_6 HB) HC0_6.out (cb HR0_7 HB) HC0_7.out (cb HR0_8 HB) HC0_8.out A2.out) ?_; rintro e w7 ⟨v526, rfl, ho0, hb⟩; refine ⟨_, rfl, ?_⟩; have HO527 := am (Kd.R_lower ho0 (below_size bel)); replace HO524 := am (Kd.R_below (rk HO524.out) hb); replace BK521 := b1 BK521 hb; replace HB := b2 hb; clear hb; (try clear ho0); obtain ⟨Ao8, co8, eo8⟩ := Kd.R_slice HO527.out; subst eo8))
 go_loopg [3, 11] k (fun kq v3 v11 w' => ∃ (x3_1 : List Int) (x11_1 : Int), v11 = .int .i64 x11_1 ∧ Aside0 (impl_points.l0 kq x3_1 t525 (t525.length : Int) x11_1 l0_0 a0_1 a0_2 a0_3 l0_4 a0_5 l0_6 l0_7 l0_8 = some r) ∧ Aside0 (kq ≤ k) ∧ Aside0 (Kd.R (Kd.int .i64) 3 w' w.heap.size (fun _ => True) v3 x3_1) ∧ Aside0 (Kd.R k129 129 w' w.heap.size (fun _ => True) (.slice Ao8 t525.length co8) t525) ∧ Aside0 (w'.heap[gb521]? = some (.cells #[(.slice A0_0 l0_0.length c0_0), .int .i64 a0_1, .int .i64 a0_2, .int .i64 a0_3, (.slice A0_4 l0_4.length c0_4), .bool a0_5, (.slice A0_6 l0_6.length c0_6), (.slice A0_7 l0_7.length c0_7), (.slice A0_8 l0_8.length c0_8)] 37 (0, 0))) ∧ Aside0 (Below w.heap.size w w'))
 case atStart => exact ⟨(y522), (0), (es), H', ⟨Nat.le_refl _⟩, ⟨rk HO524.out⟩, ⟨rk HO527.out⟩, ⟨bk BK521.out⟩, ⟨bel⟩⟩
 case round =>
  clear H'
  try clear hcz6_0; try clear hcz6_1; try clear hcz6_2; try clear hcz6_3; try clear hcz6_4; try clear hcz6_5; try clear hcz6_6; try clear hcz6_7; try clear hcz6_8; try clear hfz6_0; try clear hfz6_1; try clear hfz6_2; try clear hfz6_3; try clear hfz6_4; try clear hfz6_5; try clear hfz6_6; try clear hfz6_7; try clear hfz6_8
  obtain ⟨x3_1, x11_1, rfl, HA, HK1, HO_3, HO_9, BK521, HB⟩ := hrel
  cases gk with
  | zero => exact absurd HA.out (by simp [impl_points.l0])
  | succ k1 =>
   have H := HA.out
   clear HA
   simp only [impl_points.l0] at H
   replace H := i1 H; obtain ⟨c9b0, H⟩ | ⟨c9b0, H⟩ := H
   ·replace H := i0 H; obtain ⟨c10b0, H⟩ := H
    replace H := i0 H; obtain ⟨c11b0, H⟩ := H
    replace H := i0 H; obtain ⟨c12b0, H⟩ := H
    replace H := i0 H; obtain ⟨c13, H⟩ := H
    have LMc13 := am (of_decide_eq_true c13)
    clear c13
    obtain ⟨y531, hy531⟩ : ∃ y_ : List Int, y_ = (x3_1 ++ [wrap64 (((rd_T129 t525 x11_1).f6) - (rd l0_8 x11_1))]) := ⟨_, rfl⟩
    replace H : (impl_points.l0 k1 y531 t525 (t525.length : Int) (wrap64 (x11_1 + 1)) l0_0 a0_1 a0_2 a0_3 l0_4 a0_5 l0_6 l0_7 l0_8) = some r := by first | (rw [hy531]; with_reducible exact H) | (have H2_ := (Option.bind_some _ _).symm.trans H; rw [hy531]; with_reducible exact H2_) | (have H2_ := (Option.bind_some _ _).symm.trans H; with_reducible exact H2_) | with_reducible exact H | (rw [hy531]; exact H) | exact H
    have Ny531 := am hy531
    clear hy531
    have H' := am H
    clear H
    have p528 : 0 ≤ (x11_1 : Int) := asm
    have q528 : x11_1 < (t525.length : Int) := asm
    obtain ⟨ad528, e528, hx528_0, hx528_1, hx528_2, hx528_3, hx528_4, hx528_5, hx528_6⟩ := at_T129 (Kd.R_reads' HO_9.out).2.2 x11_1 p528 q528
    cases e528
    replace p528 := eq_true p528
    replace q528 := eq_true q528
    try go_wp2_with (first | ((with_reducible refine gd 5 ?_); refine by_ w 5 #[.int .i64 0, .int .i64 0, .int .i64 0, .int .i64 0, .int .i64 0, .int .i64 0, .int .i64 0] 129 ?_; clear HB; intro gb529 hg w14 BK529 GE529 hb HB; have NB521_529 := am ((nlt hg BK521.out : gb521 ≠ gb529)); have NB529_521 := am ((ngt hg BK521.out : gb529 ≠ gb521)); replace HO_3 := am (Kd.R_below (rk HO_3.out) hb); replace HO_9 := am (Kd.R_below (Kd.R_elderB (rk HO_9.out) gb529 (Nat.le_of_eq hg.symm)) hb); replace BK521 := b1 BK521 hb; clear hb hg; have hnb15 := NB529_521.out; have hnc15 := NB521_529.out; obtain ⟨_, _, _, _, _, _, _, _, _, _, _, _, _, _⟩ := cf7 BK529.out))
    have n0_ : Aside0 (Kd.R (Kd.int .i64) 3 (((((((w14.setCell ⟨gb529, 0, none⟩ (.int .i64 ((rd_T129 t525 x11_1).f0))).setCell ⟨gb529, 1, none⟩ (.int .i64 ((rd_T129 t525 x11_1).f1))).setCell ⟨gb529, 2, none⟩ (.int .i64 ((rd_T129 t525 x11_1).f2))).setCell ⟨gb529, 3, none⟩ (.int .i64 ((rd_T129 t525 x11_1).f3))).setCell ⟨gb529, 4, none⟩ (.int .i64 ((rd_T129 t525 x11_1).f4))).setCell ⟨gb529, 5, none⟩ (.int .i64 ((rd_T129 t525 x11_1).f5))).setCell ⟨gb529, 6, none⟩ (.int .i64 ((rd_T129 t525 x11_1).f6))) w.heap.size (fun _ => True) u3 x3_1) := ⟨(kf (Kd.R_types HO_3.out BK529.out (by decide)))⟩
    have n1_ : Aside0 (Kd.R k129 129 (((((((w14.setCell ⟨gb529, 0, none⟩ (.int .i64 ((rd_T129 t525 x11_1).f0))).setCell ⟨gb529, 1, none⟩ (.int .i64 ((rd_T129 t525 x11_1).f1))).setCell ⟨gb529, 2, none⟩ (.int .i64 ((rd_T129 t525 x11_1).f2))).setCell ⟨gb529, 3, none⟩ (.int .i64 ((rd_T129 t525 x11_1).f3))).setCell ⟨gb529, 4, none⟩ (.int .i64 ((rd_T129 t525 x11_1).f4))).setCell ⟨gb529, 5, none⟩ (.int .i64 ((rd_T129 t525 x11_1).f5))).setCell ⟨gb529, 6, none⟩ (.int .i64 ((rd_T129 t525 x11_1).f6))) w.heap.size (fun k_ => k_ ≠ gb529) (.slice (some ad528) t525.length co8) t525) := ⟨(kf (Kd.R_mono HO_9.out (fun k_ hk => (⟨hk, hk.2⟩ : _ ∧ k_ ≠ gb529))) (m := fun _ hk => hk.1.2))⟩
    have n2_ : Aside0 ((((((((w14.setCell ⟨gb529, 0, none⟩ (.int .i64 ((rd_T129 t525 x11_1).f0))).setCell ⟨gb529, 1, none⟩ (.int .i64 ((rd_T129 t525 x11_1).f1))).setCell ⟨gb529, 2, none⟩ (.int .i64 ((rd_T129 t525 x11_1).f2))).setCell ⟨gb529, 3, none⟩ (.int .i64 ((rd_T129 t525 x11_1).f3))).setCell ⟨gb529, 4, none⟩ (.int .i64 ((rd_T129 t525 x11_1).f4))).setCell ⟨gb529, 5, none⟩ (.int .i64 ((rd_T129 t525 x11_1).f5))).setCell ⟨gb529, 6, none⟩ (.int .i64 ((rd_T129 t525 x11_1).f6))).heap[gb521]? = some (.cells #[.slice A0_0 l0_0.length c0_0, .int .i64 a0_1, .int .i64 a0_2, .int .i64 a0_3, .slice A0_4 l0_4.length c0_4, .bool a0_5, .slice A0_6 l0_6.length c0_6, .slice A0_7 l0_7.length c0_7, .slice A0_8 l0_8.length c0_8] 37 (0, 0))) := ⟨bk BK521.out⟩
    have n3_ : Aside0 ((((((((w14.setCell ⟨gb529, 0, none⟩ (.int .i64 ((rd_T129 t525 x11_1).f0))).setCell ⟨gb529, 1, none⟩ (.int .i64 ((rd_T129 t525 x11_1).f1))).setCell ⟨gb529, 2, none⟩ (.int .i64 ((rd_T129 t525 x11_1).f2))).setCell ⟨gb529, 3, none⟩ (.int .i64 ((rd_T129 t525 x11_1).f3))).setCell ⟨gb529, 4, none⟩ (.int .i64 ((rd_T129 t525 x11_1).f4))).setCell ⟨gb529, 5, none⟩ (.int .i64 ((rd_T129 t525 x11_1).f5))).setCell ⟨gb529, 6, none⟩ (.int .i64 ((rd_T129 t525 x11_1).f6))).heap[gb529]? = some (.cells #[.int .i64 ((rd_T129 t525 x11_1).f0), .int .i64 ((rd_T129 t525 x11_1).f1), .int .i64 ((rd_T129 t525 x11_1).f2), .int .i64 ((rd_T129 t525 x11_1).f3), .int .i64 ((rd_T129 t525 x11_1).f4), .int .i64 ((rd_T129 t525 x11_1).f5), .int .i64 ((rd_T129 t525 x11_1).f6)] 129 (0, 0))) := ⟨(bz BK529)⟩
    have n4_ : Aside0 (Below w.heap.size w (((((((w14.setCell ⟨gb529, 0, none⟩ (.int .i64 ((rd_T129 t525 x11_1).f0))).setCell ⟨gb529, 1, none⟩ (.int .i64 ((rd_T129 t525 x11_1).f1))).setCell ⟨gb529, 2, none⟩ (.int .i64 ((rd_T129 t525 x11_1).f2))).setCell ⟨gb529, 3, none⟩ (.int .i64 ((rd_T129 t525 x11_1).f3))).setCell ⟨gb529, 4, none⟩ (.int .i64 ((rd_T129 t525 x11_1).f4))).setCell ⟨gb529, 5, none⟩ (.int .i64 ((rd_T129 t525 x11_1).f5))).setCell ⟨gb529, 6, none⟩ (.int .i64 ((rd_T129 t525 x11_1).f6)))) := ⟨bel⟩
    (try clear HO_3)
    (try clear HO_9)
    (try clear BK521)
    (try clear BK529)
    (try clear HB)
    generalize (((((((w14.setCell ⟨gb529, 0, none⟩ (.int .i64 ((rd_T129 t525 x11_1).f0))).setCell ⟨gb529, 1, none⟩ (.int .i64 ((rd_T129 t525 x11_1).f1))).setCell ⟨gb529, 2, none⟩ (.int .i64 ((rd_T129 t525 x11_1).f2))).setCell ⟨gb529, 3, none⟩ (.int .i64 ((rd_T129 t525 x11_1).f3))).setCell ⟨gb529, 4, none⟩ (.int .i64 ((rd_T129 t525 x11_1).f4))).setCell ⟨gb529, 5, none⟩ (.int .i64 ((rd_T129 t525 x11_1).f5))).setCell ⟨gb529, 6, none⟩ (.int .i64 ((rd_T129 t525 x11_1).f6))) = w17 at n0_ n1_ n2_ n3_ n4_ ⊢
    have HO_3 := n0_
    have HO_9 := n1_
    have BK521 := n2_
    have BK529 := n3_
    have HB := n4_
    clear n0_ n1_ n2_ n3_ n4_
    replace HO_3 := am (Kd.R_drew HO_3.out)
    replace HO_9 := am (Kd.R_drew HO_9.out)
    replace BK521 := am (blk_drew BK521.out)
    replace BK529 := am (blk_drew BK529.out)
    replace HB := am (below_drew1 HB.out)
    have p530 : 0 ≤ (x11_1 : Int) := asm
    have q530 : x11_1 < (l0_8.length : Int) := asm
    obtain ⟨ad530, e530, hx530_0⟩ := Kd.at_int HR0_8.out x11_1 p530 q530
    have hw530_0 := hx530_0
    cases e530
    replace hx530_0 := hcl HB.out hx530_0
    replace p530 := eq_true p530
    replace q530 := eq_true q530
    refine start_ (n := 12) (S := fun w' => w'.cell? ⟨gb529, 0, none⟩ = some (.int .i64 ((rd_T129 t525 x11_1).f0)) ∧ w'.cell? ⟨gb529, 1, none⟩ = some (.int .i64 ((rd_T129 t525 x11_1).f1)) ∧ w'.cell? ⟨gb529, 2, none⟩ = some (.int .i64 ((rd_T129 t525 x11_1).f2)) ∧ w'.cell? ⟨gb529, 3, none⟩ = some (.int .i64 ((rd_T129 t525 x11_1).f3)) ∧ w'.cell? ⟨gb529, 4, none⟩ = some (.int .i64 ((rd_T129 t525 x11_1).f4)) ∧ w'.cell? ⟨gb529, 5, none⟩ = some (.int .i64 ((rd_T129 t525 x11_1).f5)) ∧ w'.cell? ⟨gb529, 6, none⟩ = some (.int .i64 ((rd_T129 t525 x11_1).f6)) ∧ w'.cell? ⟨gb521, 0, none⟩ = some (.slice A0_0 l0_0.length c0_0) ∧ w'.cell? ⟨gb521, 1, none⟩ = some (.int .i64 a0_1) ∧ w'.cell? ⟨gb521, 2, none⟩ = some (.int .i64 a0_2) ∧ w'.cell? ⟨gb521, 3, none⟩ = some (.int .i64 a0_3) ∧ w'.cell? ⟨gb521, 4, none⟩ = some (.slice A0_4 l0_4.length c0_4) ∧ w'.cell? ⟨gb521, 5, none⟩ = some (.bool a0_5) ∧ w'.cell? ⟨gb521, 6, none⟩ = some (.slice A0_6 l0_6.length c0_6) ∧ w'.cell? ⟨gb521, 7, none⟩ = some (.slice A0_7 l0_7.length c0_7) ∧ w'.cell? ⟨gb521, 8, none⟩ = some (.slice (some ad530) l0_8.length c0_8) ∧ w'.cell? (ad530.add (x11_1).toNat) = some (.int .i64 (rd l0_8 x11_1))) (ds := []) (lb 12 0) (by kernel_rfl) rfl rfl ⟨(blk_cell BK529.out 0).trans rfl, (blk_cell BK529.out 1).trans rfl, (blk_cell BK529.out 2).trans rfl, (blk_cell BK529.out 3).trans rfl, (blk_cell BK529.out 4).trans rfl, (blk_cell BK529.out 5).trans rfl, (blk_cell BK529.out 6).trans rfl, (blk_cell BK521.out 0).trans rfl, (blk_cell BK521.out 1).trans rfl, (blk_cell BK521.out 2).trans rfl, (blk_cell BK521.out 3).trans rfl, (blk_cell BK521.out 4).trans rfl, (blk_cell BK521.out 5).trans rfl, (blk_cell BK521.out 6).trans rfl, (blk_cell BK521.out 7).trans rfl, (blk_cell BK521.out 8).trans rfl, ((HB.out.cell (World.block_lt_of_cell? w _ hw530_0)).trans hw530_0)⟩ (fun hHeld => ?_); refine with_tabW impl_points.tab5 impl_points.bits5 (fun HT_ HW_ => ?_)
    generalize w17.drew = w18 at HO_3 HO_9 BK521 BK529 HB hx530_0 hHeld ⊢
    refine pu HT_ 0 16 (lb 12 1) ?_
    refine pu HT_ 1 17 (lb 12 3) ?_
    refine pu HT_ 3 19 (lb 12 11) ?_
    refine pu HT_ 5 21 (lb 12 43) ?_
    refine tk HT_ HW_ hHeld 2 18 (lb 12 47) ?_
    refine tk HT_ HW_ hHeld 4 20 (lb 12 63) ?_
    refine pu HT_ 6 22 (lb 12 127) ?_
    refine tk HT_ HW_ hHeld 7 23 (lb 12 255) ?_
    refine pu HT_ 8 24 (lb 12 511) ?_
    refine on HT_ 9 25 (lb 12 1023) fun K hK => ?_
    refine value_ (w1 := ?_) (v := ?_) (by rfl) rfl ?_ ?_
    rotate_left 2
    ·go_simp
     constructor
     ·rfl
     ·rfl
    refine hK.out _ _ ⟨(blk_cell (blk_alloc BK529.out _) 0).trans rfl, (blk_cell (blk_alloc BK529.out _) 1).trans rfl, (blk_cell (blk_alloc BK529.out _) 2).trans rfl, (blk_cell (blk_alloc BK529.out _) 3).trans rfl, (blk_cell (blk_alloc BK529.out _) 4).trans rfl, (blk_cell (blk_alloc BK529.out _) 5).trans rfl, (blk_cell (blk_alloc BK529.out _) 6).trans rfl, (blk_cell (blk_alloc BK521.out _) 0).trans rfl, (blk_cell (blk_alloc BK521.out _) 1).trans rfl, (blk_cell (blk_alloc BK521.out _) 2).trans rfl, (blk_cell (blk_alloc BK521.out _) 3).trans rfl, (blk_cell (blk_alloc BK521.out _) 4).trans rfl, (blk_cell (blk_alloc BK521.out _) 5).trans rfl, (blk_cell (blk_alloc BK521.out _) 6).trans rfl, (blk_cell (blk_alloc BK521.out _) 7).trans rfl, (blk_cell (blk_alloc BK521.out _) 8).trans rfl, (World.cell?_alloc_lt _ _ _ (World.block_lt_of_cell? _ _ (((HB.out.cell (World.block_lt_of_cell? w _ hw530_0)).trans hw530_0)))).trans (((HB.out.cell (World.block_lt_of_cell? w _ hw530_0)).trans hw530_0))⟩ (fun hHeld => ?_)
    clear hK K
    refine nm 25 ?_
    refine on HT_ 10 26 (lb 12 2047) fun K hK => ?_
    refine Kd.R_append_step (Kd.int .i64) (w0 := w) w.heap.size (by rfl) (.tmp 16) (.tmp 25) 23 3 (.int .i64 0) 8 rfl Try.underlying23 info3 rfl (by decide) (by omega) u3 x3_1 (wrap64 (((rd_T129 t525 x11_1).f6) - (rd l0_8 x11_1))) [.int .i64 (wrap64 (((rd_T129 t525 x11_1).f6) - (rd l0_8 x11_1)))] (fun _ => True) (fun _ => False) rfl rfl ?aP (fun _ hk => hk.elim) ?aF ?aO ?aB ?aS ?aL ?_
    (case aP => exact rfl)
    (case aB => exact bel)
    (case aF => exact (fun _ _ => trivial))
    (case aO => exact (rk HO_3.out))
    (case aS => exact (below_size bel))
    (case aL => have := LMc13.out; omega)
    intro v532 w19 ho hb hg hat
    rw [← Ny531.out] at ho
    have n0_ := am (Kd.R_over' (rk HO_9.out) (Kd.R_typed (rk HO_3.out)) (by decide) hg)
    have n1_ := am (blk_grown (g := gb521) (o := .cells #[.slice A0_0 l0_0.length c0_0, .int .i64 a0_1, .int .i64 a0_2, .int .i64 a0_3, .slice A0_4 l0_4.length c0_4, .bool a0_5, .slice A0_6 l0_6.length c0_6, .slice A0_7 l0_7.length c0_7, .slice (some ad530) l0_8.length c0_8] 37 (0, 0)) (bk BK521.out) hg (Kd.R_ne HO_3.out BK521.out (by decide)))
    have n2_ := am (blk_grown (g := gb529) (o := .cells #[.int .i64 ((rd_T129 t525 x11_1).f0), .int .i64 ((rd_T129 t525 x11_1).f1), .int .i64 ((rd_T129 t525 x11_1).f2), .int .i64 ((rd_T129 t525 x11_1).f3), .int .i64 ((rd_T129 t525 x11_1).f4), .int .i64 ((rd_T129 t525 x11_1).f5), .int .i64 ((rd_T129 t525 x11_1).f6)] 129 (0, 0)) (bk BK529.out) hg (Kd.R_ne HO_3.out BK529.out (by decide)))
    have n3_ := am (hb)
    have n4_ := am (ho)
    clear HO_9
    clear BK521
    clear BK529
    clear HB
    clear HO_3
    have HO_9 := n0_
    have BK521 := n1_
    have BK529 := n2_
    have HB := n3_
    have HO533 := n4_
    clear n0_ n1_ n2_ n3_ n4_
    clear ho hb hg hat
    refine hK.out _ _ ⟨(blk_cell BK529.out 0).trans rfl, (blk_cell BK529.out 1).trans rfl, (blk_cell BK529.out 2).trans rfl, (blk_cell BK529.out 3).trans rfl, (blk_cell BK529.out 4).trans rfl, (blk_cell BK529.out 5).trans rfl, (blk_cell BK529.out 6).trans rfl, (blk_cell BK521.out 0).trans rfl, (blk_cell BK521.out 1).trans rfl, (blk_cell BK521.out 2).trans rfl, (blk_cell BK521.out 3).trans rfl, (blk_cell BK521.out 4).trans rfl, (blk_cell BK521.out 5).trans rfl, (blk_cell BK521.out 6).trans rfl, (blk_cell BK521.out 7).trans rfl, (blk_cell BK521.out 8).trans rfl, ((HB.out.cell (World.block_lt_of_cell? w _ hw530_0)).trans hw530_0)⟩ (fun hHeld => ?_)
    clear hK K
    refine nm 26 ?_
    refine pu HT_ 11 3 (lb 12 4095) ?_
    refine done_ (done_of HT_.out (by kernel_rfl)) ?_
    try go_wp2
    go_roundg k1
    case measure => have := HK1.out; omega
    case rel => exact ⟨(y531), (wrap64 (x11_1 + 1)), (es), H', ⟨by have := HK1.out; omega⟩, ⟨rk HO533.out⟩, ⟨by (with_reducible repeat (first | apply Kd.R_alloc | apply Kd.R_drewN | apply Kd.R_drew)); exact Kd.R_mono HO_9.out (fun _ hk => trivial)⟩, ⟨bk BK521.out⟩, ⟨bel⟩⟩
   ·obtain rfl := Option.some.inj H
    go_wp2
    go_ret
    exact ⟨_, er, rk HO_3.out, bel⟩
def impl_best.l0 : Nat → Int → Int → List Int → Int → Int → List (S101) → Int → Int → Int → List Int → Bool → List (S71) → List Int → List Int → Option (Int)
  | 0, _, _, _, _, _, _, _, _, _, _, _, _, _, _ => none
  | k + 1, x1, x5, x15, x16, x17, x535000, x535001, x535002, x535003, x535004, x535005, x535006, x535007, x535008 => if x17 < x16 then (if 0 ≤ x17 then (if x17 < (x15.length : Int) then (if 0 ≤ (rd x15 x17) then (if (rd x15 x17) < (x535006.length : Int) then ((impl_plays.f ((rd_T71 x535006 (rd x15 x17)).f0) ((rd_T71 x535006 (rd x15 x17)).f1) ((rd_T71 x535006 (rd x15 x17)).f2) ((rd_T71 x535006 (rd x15 x17)).f3) ((rd_T71 x535006 (rd x15 x17)).f4) x1).bind fun t544 => (if t544 = true then (impl_best.l0 k x1 (wrap64 (x5 + 2)) x15 x16 (wrap64 (x17 + 1)) x535000 x535001 x535002 x535003 x535004 x535005 x535006 x535007 x535008) else (impl_best.l0 k x1 x5 x15 x16 (wrap64 (x17 + 1)) x535000 x535001 x535002 x535003 x535004 x535005 x535006 x535007 x535008))) else (none)) else (none)) else (none)) else (none)) else (some x5)
def impl_best.f (k : Nat) (l0_0 : List (S101)) (a0_1 : Int) (a0_2 : Int) (a0_3 : Int) (l0_4 : List Int) (a0_5 : Bool) (l0_6 : List (S71)) (l0_7 : List Int) (l0_8 : List Int) (a1 : Int) : Option (Int) := (impl_points.f k l0_0 a0_1 a0_2 a0_3 l0_4 a0_5 l0_6 l0_7 l0_8).bind fun t535 => (if 0 ≤ a1 then (if a1 < (t535.length : Int) then ((impl_OpenGames.f k l0_6).bind fun t539 => (impl_best.l0 k a1 (rd t535 a1) t539 (t539.length : Int) 0 l0_0 a0_1 a0_2 a0_3 l0_4 a0_5 l0_6 l0_7 l0_8)) else (none)) else (none))
theorem impl_best.calls (k : Nat) (A0_0 : Option Addr) (c0_0 : Nat) (l0_0 : List (S101)) (a0_1 : Int) (a0_2 : Int) (a0_3 : Int) (A0_4 : Option Addr) (c0_4 : Nat) (l0_4 : List Int) (a0_5 : Bool) (A0_6 : Option Addr) (c0_6 : Nat) (l0_6 : List (S71)) (A0_7 : Option Addr) (c0_7 : Nat) (l0_7 : List Int) (A0_8 : Option Addr) (c0_8 : Nat) (l0_8 : List Int) (a1 : Int) (r : Int) (w : World) (hr0_0 : Kd.C k101 w A0_0 l0_0.length l0_0) (hc0_0 : l0_0.length ≤ c0_0) (hr0_4 : Kd.C (Kd.int .i64) w A0_4 l0_4.length l0_4) (hc0_4 : l0_4.length ≤ c0_4) (hr0_6 : Kd.C k71 w A0_6 l0_6.length l0_6) (hc0_6 : l0_6.length ≤ c0_6) (hr0_7 : Kd.C (Kd.int .i64) w A0_7 l0_7.length l0_7) (hc0_7 : l0_7.length ≤ c0_7) (hr0_8 : Kd.C (Kd.int .i64) w A0_8 l0_8.length l0_8) (hc0_8 : l0_8.length ≤ c0_8) (h : impl_best.f k l0_0 a0_1 a0_2 a0_3 l0_4 a0_5 l0_6 l0_7 l0_8 a1 = some r) : Calls Try.prog 79 #[.agg #[.slice A0_0 l0_0.length c0_0, .int .i64 a0_1, .int .i64 a0_2, .int .i64 a0_3, .slice A0_4 l0_4.length c0_4, .bool a0_5, .slice A0_6 l0_6.length c0_6, .slice A0_7 l0_7.length c0_7, .slice A0_8 l0_8.length c0_8], .int .i64 a1] w fun e w' => e = .returned (.int .i64 r) ∧ Below w.heap.size w w' := by
 have hu37 := Try.underlying37
 have hu71 := Try.underlying71
 have HR0_0 := am hr0_0
 have HC0_0 := am hc0_0
 clear hr0_0 hc0_0
 have HR0_4 := am hr0_4
 have HC0_4 := am hc0_4
 clear hr0_4 hc0_4
 have HR0_6 := am hr0_6
 have HC0_6 := am hc0_6
 clear hr0_6 hc0_6
 have HR0_7 := am hr0_7
 have HC0_7 := am hc0_7
 clear hr0_7 hc0_7
 have HR0_8 := am hr0_8
 have HC0_8 := am hc0_8
 clear hr0_8 hc0_8
 have HB := am (Below.refl w.heap.size w)
 have H : ((impl_points.f k l0_0 a0_1 a0_2 a0_3 l0_4 a0_5 l0_6 l0_7 l0_8).bind fun t535 => (if 0 ≤ a1 then (if a1 < (t535.length : Int) then ((impl_OpenGames.f k l0_6).bind fun t539 => (impl_best.l0 k a1 (rd t535 a1) t539 (t539.length : Int) 0 l0_0 a0_1 a0_2 a0_3 l0_4 a0_5 l0_6 l0_7 l0_8)) else (none)) else (none))) = some r := h
 clear h
 replace H := bm H; obtain ⟨t535, A3, H⟩ := H
 by_cases c4 : 0 ≤ a1
 ·rw [if_pos c4] at H
  have c4b0 : decide (0 ≤ a1) = true := decide_eq_true c4
  clear c4
  replace H := i0 H; obtain ⟨c5b0, H⟩ := H
  replace H := bm H; obtain ⟨t539, A6, H⟩ := H
  have H' := am H
  clear H
  go_enter Try.func79, Try.ntmps79
  go_wp2_with (first | ((with_reducible refine gd 2 ?_); refine bx w 2 #[.slice A0_0 l0_0.length c0_0, .int .i64 a0_1, .int .i64 a0_2, .int .i64 a0_3, .slice A0_4 l0_4.length c0_4, .bool a0_5, .slice A0_6 l0_6.length c0_6, .slice A0_7 l0_7.length c0_7, .slice A0_8 l0_8.length c0_8] 37 ?_; clear HB; intro gb534 w7 BK534 GE534 HB; obtain ⟨hcz8_0, hcz8_1, hcz8_2, hcz8_3, hcz8_4, hcz8_5, hcz8_6, hcz8_7, hcz8_8, hfz8_0, hfz8_1, hfz8_2, hfz8_3, hfz8_4, hfz8_5, hfz8_6, hfz8_7, hfz8_8⟩ := cf9 BK534.out) | ((with_reducible refine gc 110 ?_); refine gl 9 Try.func110 (impl_points.calls k _ _ l0_0 a0_1 a0_2 a0_3 _ _ l0_4 a0_5 _ _ l0_6 _ _ l0_7 _ _ l0_8 t535 _ (cb HR0_0 HB) HC0_0.out (cb HR0_4 HB) HC0_4.out (cb HR0_6 HB) HC0_6.out (cb HR0_7 HB) HC0_7.out (cb HR0_8 HB) HC0_8.out A3.out) ?_; rintro e w9 ⟨v536, rfl, ho0, hb⟩; refine ⟨_, rfl, ?_⟩; have HO537 := am (Kd.R_lower ho0 (below_size bel)); replace BK534 := b1 BK534 hb; replace HB := b2 hb; clear hb; (try clear ho0); obtain ⟨Ao10, co10, eo10⟩ := Kd.R_slice HO537.out; subst eo10; have p538 : 0 ≤ (a1 : Int) := asm; have q538 : a1 < (t535.length : Int) := asm; obtain ⟨ad538, e538, hx538_0⟩ := Kd.at_int (Kd.R_reads' HO537.out).2.2 a1 p538 q538; cases e538; replace p538 := eq_true p538; replace q538 := eq_true q538; obtain ⟨hcz11_0, hcz11_1, hcz11_2, hcz11_3, hcz11_4, hcz11_5, hcz11_6, hcz11_7, hcz11_8, hfz11_0, hfz11_1, hfz11_2, hfz11_3, hfz11_4, hfz11_5, hfz11_6, hfz11_7, hfz11_8⟩ := cf9 BK534.out) | ((with_reducible refine gc 66 ?_); refine gl 15 Try.func66 (impl_OpenGames.calls k _ _ l0_6 t539 _ (cb HR0_6 HB) HC0_6.out A6.out) ?_; rintro e w12 ⟨v540, rfl, ho0, hb⟩; refine ⟨_, rfl, ?_⟩; have HO541 := am (Kd.R_lower (Kd.R_new' ho0 (Kd.R_lt (rk HO537.out))) (below_size bel)); replace HO537 := am (Kd.R_elder' (rk HO537.out) (Kd.R_base ho0) hb); replace BK534 := b1 BK534 hb; replace HB := b2 hb; clear hb; (try clear ho0); obtain ⟨Ao13, co13, eo13⟩ := Kd.R_slice HO541.out; subst eo13))
  go_loopg [5, 17] k (fun kq v5 v17 w' => ∃ (x5_1 : Int) (x17_1 : Int), v5 = .int .i64 x5_1 ∧ v17 = .int .i64 x17_1 ∧ Aside0 (impl_best.l0 kq a1 x5_1 t539 (t539.length : Int) x17_1 l0_0 a0_1 a0_2 a0_3 l0_4 a0_5 l0_6 l0_7 l0_8 = some r) ∧ Aside0 (kq ≤ k) ∧ Aside0 (Kd.R (Kd.int .i64) 3 w' w.heap.size (fun _ => True) (.slice Ao13 t539.length co13) t539) ∧ Aside0 (w'.heap[gb534]? = some (.cells #[(.slice A0_0 l0_0.length c0_0), .int .i64 a0_1, .int .i64 a0_2, .int .i64 a0_3, (.slice A0_4 l0_4.length c0_4), .bool a0_5, (.slice A0_6 l0_6.length c0_6), (.slice A0_7 l0_7.length c0_7), (.slice A0_8 l0_8.length c0_8)] 37 (0, 0))) ∧ Aside0 (Below w.heap.size w w'))
  case atStart => exact ⟨(rd t535 a1), (0), (es), (es), H', ⟨Nat.le_refl _⟩, ⟨by (with_reducible repeat (first | apply Kd.R_alloc | apply Kd.R_drewN | apply Kd.R_drew)); exact Kd.R_mono HO541.out (fun _ hk => trivial)⟩, ⟨bk BK534.out⟩, ⟨bel⟩⟩
  case round =>
   clear H'
   try clear c4; try clear c4b0; try clear c5; try clear c5b0; try clear hcz11_0; try clear hcz11_1; try clear hcz11_2; try clear hcz11_3; try clear hcz11_4; try clear hcz11_5; try clear hcz11_6; try clear hcz11_7; try clear hcz11_8; try clear hcz8_0; try clear hcz8_1; try clear hcz8_2; try clear hcz8_3; try clear hcz8_4; try clear hcz8_5; try clear hcz8_6; try clear hcz8_7; try clear hcz8_8; try clear hfz11_0; try clear hfz11_1; try clear hfz11_2; try clear hfz11_3; try clear hfz11_4; try clear hfz11_5; try clear hfz11_6; try clear hfz11_7; try clear hfz11_8; try clear hfz8_0; try clear hfz8_1; try clear hfz8_2; try clear hfz8_3; try clear hfz8_4; try clear hfz8_5; try clear hfz8_6; try clear hfz8_7; try clear hfz8_8; try clear hx538_0; try clear p538; try clear q538
   obtain ⟨x5_1, x17_1, rfl, rfl, HA, HK1, HO_15, BK534, HB⟩ := hrel
   cases gk with
   | zero => exact absurd HA.out (by simp [impl_best.l0])
   | succ k1 =>
    have H := HA.out
    clear HA
    simp only [impl_best.l0] at H
    replace H := i1 H; obtain ⟨c14b0, H⟩ | ⟨c14b0, H⟩ := H
    ·replace H := i0 H; obtain ⟨c15b0, H⟩ := H
     replace H := i0 H; obtain ⟨c16b0, H⟩ := H
     replace H := i0 H; obtain ⟨c17b0, H⟩ := H
     replace H := i0 H; obtain ⟨c18b0, H⟩ := H
     replace H := bm H; obtain ⟨t544, A19, H⟩ := H
     replace H := ib H; obtain ⟨rfl, H⟩ | ⟨rfl, H⟩ := H
     ·have H' := am H
      clear H
      have p542 : 0 ≤ (x17_1 : Int) := asm
      have q542 : x17_1 < (t539.length : Int) := asm
      obtain ⟨ad542, e542, hx542_0⟩ := Kd.at_int (Kd.R_reads' HO_15.out).2.2 x17_1 p542 q542
      cases e542
      replace p542 := eq_true p542
      replace q542 := eq_true q542
      obtain ⟨_, _, _, _, _, _, _, _, _, _, _, _, _, _, _, _, _, _⟩ := cf9 BK534.out
      have p543 : 0 ≤ ((rd t539 x17_1) : Int) := asm
      have q543 : (rd t539 x17_1) < (l0_6.length : Int) := asm
      obtain ⟨ad543, e543, hx543_0, hx543_1, hx543_2, hx543_3, hx543_4⟩ := hc5 HB.out (at_T71 HR0_6.out (rd t539 x17_1) p543 q543)
      cases e543
      replace p543 := eq_true p543
      replace q543 := eq_true q543
      go_wp2_with (first | ((with_reducible refine gc 56 ?_); refine gl2 27 Try.func56 (impl_plays.calls ((rd_T71 l0_6 (rd t539 x17_1)).f0) ((rd_T71 l0_6 (rd t539 x17_1)).f1) ((rd_T71 l0_6 (rd t539 x17_1)).f2) ((rd_T71 l0_6 (rd t539 x17_1)).f3) ((rd_T71 l0_6 (rd t539 x17_1)).f4) a1 true _ A19.out) ?_; intro w22 hb; replace HO_15 := am (Kd.R_below (rk HO_15.out) hb); replace BK534 := b1 BK534 hb; replace HB := b2 hb; clear hb))
      go_roundg k1
      case measure => have := HK1.out; omega
      case rel => exact ⟨(wrap64 (x5_1 + 2)), (wrap64 (x17_1 + 1)), (es), (es), H', ⟨by have := HK1.out; omega⟩, ⟨rk HO_15.out⟩, ⟨bk BK534.out⟩, ⟨bel⟩⟩
     ·have H' := am H
      clear H
      have p542 : 0 ≤ (x17_1 : Int) := asm
      have q542 : x17_1 < (t539.length : Int) := asm
      obtain ⟨ad542, e542, hx542_0⟩ := Kd.at_int (Kd.R_reads' HO_15.out).2.2 x17_1 p542 q542
      cases e542
      replace p542 := eq_true p542
      replace q542 := eq_true q542
      obtain ⟨_, _, _, _, _, _, _, _, _, _, _, _, _, _, _, _, _, _⟩ := cf9 BK534.out
      have p543 : 0 ≤ ((rd t539 x17_1) : Int) := asm
      have q543 : (rd t539 x17_1) < (l0_6.length : Int) := asm
      obtain ⟨ad543, e543, hx543_0, hx543_1, hx543_2, hx543_3, hx543_4⟩ := hc5 HB.out (at_T71 HR0_6.out (rd t539 x17_1) p543 q543)
      cases e543
      replace p543 := eq_true p543
      replace q543 := eq_true q543
      go_wp2_with (first | ((with_reducible refine gc 56 ?_); refine gl2 27 Try.func56 (impl_plays.calls ((rd_T71 l0_6 (rd t539 x17_1)).f0) ((rd_T71 l0_6 (rd t539 x17_1)).f1) ((rd_T71 l0_6 (rd t539 x17_1)).f2) ((rd_T71 l0_6 (rd t539 x17_1)).f3) ((rd_T71 l0_6 (rd t539 x17_1)).f4) a1 false _ A19.out) ?_; intro w24 hb; replace HO_15 := am (Kd.R_below (rk HO_15.out) hb); replace BK534 := b1 BK534 hb; replace HB := b2 hb; clear hb))
      go_roundg k1
      case measure => have := HK1.out; omega
      case rel => exact ⟨(x5_1), (wrap64 (x17_1 + 1)), (es), (es), H', ⟨by have := HK1.out; omega⟩, ⟨rk HO_15.out⟩, ⟨bk BK534.out⟩, ⟨bel⟩⟩
    ·obtain rfl := Option.some.inj H
     go_wp2
     go_ret
     exact ⟨er, bel⟩
 ·rw [if_neg c4] at H
  exact absurd H (by simp)
def impl_others.l0 : Nat → Int → List (S71) → List Int → Int → Int → List (S101) → Int → Int → Int → List Int → Bool → List (S71) → List Int → List Int → Option ((List (S71)))
  | 0, _, _, _, _, _, _, _, _, _, _, _, _, _, _ => none
  | k + 1, x1, x5, x11, x12, x13, x546000, x546001, x546002, x546003, x546004, x546005, x546006, x546007, x546008 => if x13 < x12 then (if 0 ≤ x13 then (if x13 < (x11.length : Int) then (if 0 ≤ (rd x11 x13) then (if (rd x11 x13) < (x546006.length : Int) then ((impl_plays.f ((rd_T71 x546006 (rd x11 x13)).f0) ((rd_T71 x546006 (rd x11 x13)).f1) ((rd_T71 x546006 (rd x11 x13)).f2) ((rd_T71 x546006 (rd x11 x13)).f3) ((rd_T71 x546006 (rd x11 x13)).f4) x1).bind fun t554 => (if t554 = true then (impl_others.l0 k x1 x5 x11 x12 (wrap64 (x13 + 1)) x546000 x546001 x546002 x546003 x546004 x546005 x546006 x546007 x546008) else (if x5.length < 3518437208883 then (impl_others.l0 k x1 (x5 ++ [(⟨(rd_T71 x546006 (rd x11 x13)).f0, (rd_T71 x546006 (rd x11 x13)).f1, (rd_T71 x546006 (rd x11 x13)).f2, (rd_T71 x546006 (rd x11 x13)).f3, (rd_T71 x546006 (rd x11 x13)).f4⟩ : S71)]) x11 x12 (wrap64 (x13 + 1)) x546000 x546001 x546002 x546003 x546004 x546005 x546006 x546007 x546008) else (none)))) else (none)) else (none)) else (none)) else (none)) else (some x5)
def impl_others.f (k : Nat) (l0_0 : List (S101)) (a0_1 : Int) (a0_2 : Int) (a0_3 : Int) (l0_4 : List Int) (a0_5 : Bool) (l0_6 : List (S71)) (l0_7 : List Int) (l0_8 : List Int) (a1 : Int) : Option ((List (S71))) := (impl_OpenGames.f k l0_6).bind fun t549 => (impl_others.l0 k a1 (([] : List (S71))) t549 (t549.length : Int) 0 l0_0 a0_1 a0_2 a0_3 l0_4 a0_5 l0_6 l0_7 l0_8)
theorem impl_others.calls (k : Nat) (A0_0 : Option Addr) (c0_0 : Nat) (l0_0 : List (S101)) (a0_1 : Int) (a0_2 : Int) (a0_3 : Int) (A0_4 : Option Addr) (c0_4 : Nat) (l0_4 : List Int) (a0_5 : Bool) (A0_6 : Option Addr) (c0_6 : Nat) (l0_6 : List (S71)) (A0_7 : Option Addr) (c0_7 : Nat) (l0_7 : List Int) (A0_8 : Option Addr) (c0_8 : Nat) (l0_8 : List Int) (a1 : Int) (r : List (S71)) (w : World) (hr0_0 : Kd.C k101 w A0_0 l0_0.length l0_0) (hc0_0 : l0_0.length ≤ c0_0) (hr0_4 : Kd.C (Kd.int .i64) w A0_4 l0_4.length l0_4) (hc0_4 : l0_4.length ≤ c0_4) (hr0_6 : Kd.C k71 w A0_6 l0_6.length l0_6) (hc0_6 : l0_6.length ≤ c0_6) (hr0_7 : Kd.C (Kd.int .i64) w A0_7 l0_7.length l0_7) (hc0_7 : l0_7.length ≤ c0_7) (hr0_8 : Kd.C (Kd.int .i64) w A0_8 l0_8.length l0_8) (hc0_8 : l0_8.length ≤ c0_8) (h : impl_others.f k l0_0 a0_1 a0_2 a0_3 l0_4 a0_5 l0_6 l0_7 l0_8 a1 = some r) : Calls Try.prog 111 #[.agg #[.slice A0_0 l0_0.length c0_0, .int .i64 a0_1, .int .i64 a0_2, .int .i64 a0_3, .slice A0_4 l0_4.length c0_4, .bool a0_5, .slice A0_6 l0_6.length c0_6, .slice A0_7 l0_7.length c0_7, .slice A0_8 l0_8.length c0_8], .int .i64 a1] w fun e w' => ∃ v0_ : Value, e = .returned (v0_) ∧ Kd.R k71 71 w' w.heap.size (fun _ => True) v0_ r ∧ Below w.heap.size w w' := by
 have hu37 := Try.underlying37
 have hu71 := Try.underlying71
 have HR0_0 := am hr0_0
 have HC0_0 := am hc0_0
 clear hr0_0 hc0_0
 have HR0_4 := am hr0_4
 have HC0_4 := am hc0_4
 clear hr0_4 hc0_4
 have HR0_6 := am hr0_6
 have HC0_6 := am hc0_6
 clear hr0_6 hc0_6
 have HR0_7 := am hr0_7
 have HC0_7 := am hc0_7
 clear hr0_7 hc0_7
 have HR0_8 := am hr0_8
 have HC0_8 := am hc0_8
 clear hr0_8 hc0_8
 have HB := am (Below.refl w.heap.size w)
 have H : ((impl_OpenGames.f k l0_6).bind fun t549 => (impl_others.l0 k a1 (([] : List (S71))) t549 (t549.length : Int) 0 l0_0 a0_1 a0_2 a0_3 l0_4 a0_5 l0_6 l0_7 l0_8)) = some r := h
 clear h
 obtain ⟨y546, hy546⟩ : ∃ y_ : List (S71), y_ = (([] : List (S71))) := ⟨_, rfl⟩
 replace H : ((impl_OpenGames.f k l0_6).bind fun t549 => (impl_others.l0 k a1 y546 t549 (t549.length : Int) 0 l0_0 a0_1 a0_2 a0_3 l0_4 a0_5 l0_6 l0_7 l0_8)) = some r := by first | (rw [hy546]; with_reducible exact H) | (have H2_ := (Option.bind_some _ _).symm.trans H; rw [hy546]; with_reducible exact H2_) | (have H2_ := (Option.bind_some _ _).symm.trans H; with_reducible exact H2_) | with_reducible exact H | (rw [hy546]; exact H) | exact H
 have Ny546 := am hy546
 clear hy546
 replace H := bm H; obtain ⟨t549, A3, H⟩ := H
 have H' := am H
 clear H
 go_enter Try.func111, Try.ntmps111
 go_wp2_with (first | ((with_reducible refine gd 2 ?_); refine bx w 2 #[.slice A0_0 l0_0.length c0_0, .int .i64 a0_1, .int .i64 a0_2, .int .i64 a0_3, .slice A0_4 l0_4.length c0_4, .bool a0_5, .slice A0_6 l0_6.length c0_6, .slice A0_7 l0_7.length c0_7, .slice A0_8 l0_8.length c0_8] 37 ?_; clear HB; intro gb545 w4 BK545 GE545 HB) | ((with_reducible refine gate_dst (N := 8) rfl ?_); refine Kd.R_lit k71 _ 71 ?hg (N := 8) ?hd (xs := ([] : List (S71))) (inner := []) (ok := fun _ => True) (okp := fun _ => True) ?hr ?hp (fun _ hk => hk) trivial (Below.refl _ _) (Nat.le_refl _) (by simp) ?_; (case hd => rfl); (case hg => rfl); (case hr => first | (go_simp; done) | (go_simp; rfl)); (case hp => exact (Reps.none _ _)); intro v547 w5 ho6 hb hg_ hnew_; clear hg_ hnew_; (first | rw [← Ny546.out] at ho6 | (simp only [Int.reduceToNat] at ho6; rw [← Ny546.out] at ho6)); have HO548 := am (Kd.R_lower ho6 (below_size bel)); replace BK545 := b1 BK545 hb; replace HB := b2 hb; clear hb ho6; obtain ⟨hcz7_0, hcz7_1, hcz7_2, hcz7_3, hcz7_4, hcz7_5, hcz7_6, hcz7_7, hcz7_8, hfz7_0, hfz7_1, hfz7_2, hfz7_3, hfz7_4, hfz7_5, hfz7_6, hfz7_7, hfz7_8⟩ := cf9 BK545.out) | ((with_reducible refine gc 66 ?_); refine gl 11 Try.func66 (impl_OpenGames.calls k _ _ l0_6 t549 _ (cb HR0_6 HB) HC0_6.out A3.out) ?_; rintro e w8 ⟨v550, rfl, ho0, hb⟩; refine ⟨_, rfl, ?_⟩; have HO551 := am (Kd.R_lower ho0 (below_size bel)); replace HO548 := am (Kd.R_below (rk HO548.out) hb); replace BK545 := b1 BK545 hb; replace HB := b2 hb; clear hb; (try clear ho0); obtain ⟨Ao9, co9, eo9⟩ := Kd.R_slice HO551.out; subst eo9))
 go_loopg [5, 13] k (fun kq v5 v13 w' => ∃ (x5_1 : List (S71)) (x13_1 : Int), v13 = .int .i64 x13_1 ∧ Aside0 (impl_others.l0 kq a1 x5_1 t549 (t549.length : Int) x13_1 l0_0 a0_1 a0_2 a0_3 l0_4 a0_5 l0_6 l0_7 l0_8 = some r) ∧ Aside0 (kq ≤ k) ∧ Aside0 (Kd.R k71 71 w' w.heap.size (fun _ => True) v5 x5_1) ∧ Aside0 (Kd.R (Kd.int .i64) 3 w' w.heap.size (fun _ => True) (.slice Ao9 t549.length co9) t549) ∧ Aside0 (w'.heap[gb545]? = some (.cells #[(.slice A0_0 l0_0.length c0_0), .int .i64 a0_1, .int .i64 a0_2, .int .i64 a0_3, (.slice A0_4 l0_4.length c0_4), .bool a0_5, (.slice A0_6 l0_6.length c0_6), (.slice A0_7 l0_7.length c0_7), (.slice A0_8 l0_8.length c0_8)] 37 (0, 0))) ∧ Aside0 (Below w.heap.size w w'))
 case atStart => exact ⟨(y546), (0), (es), H', ⟨Nat.le_refl _⟩, ⟨rk HO548.out⟩, ⟨rk HO551.out⟩, ⟨bk BK545.out⟩, ⟨bel⟩⟩
 case round =>
  clear H'
  try clear hcz7_0; try clear hcz7_1; try clear hcz7_2; try clear hcz7_3; try clear hcz7_4; try clear hcz7_5; try clear hcz7_6; try clear hcz7_7; try clear hcz7_8; try clear hfz7_0; try clear hfz7_1; try clear hfz7_2; try clear hfz7_3; try clear hfz7_4; try clear hfz7_5; try clear hfz7_6; try clear hfz7_7; try clear hfz7_8
  obtain ⟨x5_1, x13_1, rfl, HA, HK1, HO_5, HO_11, BK545, HB⟩ := hrel
  cases gk with
  | zero => exact absurd HA.out (by simp [impl_others.l0])
  | succ k1 =>
   have H := HA.out
   clear HA
   simp only [impl_others.l0] at H
   replace H := i1 H; obtain ⟨c10b0, H⟩ | ⟨c10b0, H⟩ := H
   ·replace H := i0 H; obtain ⟨c11b0, H⟩ := H
    replace H := i0 H; obtain ⟨c12b0, H⟩ := H
    replace H := i0 H; obtain ⟨c13b0, H⟩ := H
    replace H := i0 H; obtain ⟨c14b0, H⟩ := H
    replace H := bm H; obtain ⟨t554, A15, H⟩ := H
    replace H := ib H; obtain ⟨rfl, H⟩ | ⟨rfl, H⟩ := H
    ·have H' := am H
     clear H
     have p552 : 0 ≤ (x13_1 : Int) := asm
     have q552 : x13_1 < (t549.length : Int) := asm
     obtain ⟨ad552, e552, hx552_0⟩ := Kd.at_int (Kd.R_reads' HO_11.out).2.2 x13_1 p552 q552
     cases e552
     replace p552 := eq_true p552
     replace q552 := eq_true q552
     obtain ⟨_, _, _, _, _, _, _, _, _, _, _, _, _, _, _, _, _, _⟩ := cf9 BK545.out
     have p553 : 0 ≤ ((rd t549 x13_1) : Int) := asm
     have q553 : (rd t549 x13_1) < (l0_6.length : Int) := asm
     obtain ⟨ad553, e553, hx553_0, hx553_1, hx553_2, hx553_3, hx553_4⟩ := hc5 HB.out (at_T71 HR0_6.out (rd t549 x13_1) p553 q553)
     cases e553
     replace p553 := eq_true p553
     replace q553 := eq_true q553
     go_wp2_with (first | ((with_reducible refine gc 56 ?_); refine gl2 23 Try.func56 (impl_plays.calls ((rd_T71 l0_6 (rd t549 x13_1)).f0) ((rd_T71 l0_6 (rd t549 x13_1)).f1) ((rd_T71 l0_6 (rd t549 x13_1)).f2) ((rd_T71 l0_6 (rd t549 x13_1)).f3) ((rd_T71 l0_6 (rd t549 x13_1)).f4) a1 true _ A15.out) ?_; intro w18 hb; replace HO_5 := am (Kd.R_below (rk HO_5.out) hb); replace HO_11 := am (Kd.R_below (rk HO_11.out) hb); replace BK545 := b1 BK545 hb; replace HB := b2 hb; clear hb))
     go_roundg k1
     case measure => have := HK1.out; omega
     case rel => exact ⟨(x5_1), (wrap64 (x13_1 + 1)), (es), H', ⟨by have := HK1.out; omega⟩, ⟨rk HO_5.out⟩, ⟨rk HO_11.out⟩, ⟨bk BK545.out⟩, ⟨bel⟩⟩
    ·replace H := i0 H; obtain ⟨c19, H⟩ := H
     have LMc19 := am (of_decide_eq_true c19)
     clear c19
     obtain ⟨y556, hy556⟩ : ∃ y_ : List (S71), y_ = (x5_1 ++ [(⟨(rd_T71 l0_6 (rd t549 x13_1)).f0, (rd_T71 l0_6 (rd t549 x13_1)).f1, (rd_T71 l0_6 (rd t549 x13_1)).f2, (rd_T71 l0_6 (rd t549 x13_1)).f3, (rd_T71 l0_6 (rd t549 x13_1)).f4⟩ : S71)]) := ⟨_, rfl⟩
     replace H : (impl_others.l0 k1 a1 y556 t549 (t549.length : Int) (wrap64 (x13_1 + 1)) l0_0 a0_1 a0_2 a0_3 l0_4 a0_5 l0_6 l0_7 l0_8) = some r := by first | (rw [hy556]; with_reducible exact H) | (have H2_ := (Option.bind_some _ _).symm.trans H; rw [hy556]; with_reducible exact H2_) | (have H2_ := (Option.bind_some _ _).symm.trans H; with_reducible exact H2_) | with_reducible exact H | (rw [hy556]; exact H) | exact H
     have Ny556 := am hy556
     clear hy556
     have H' := am H
     clear H
     have p552 : 0 ≤ (x13_1 : Int) := asm
     have q552 : x13_1 < (t549.length : Int) := asm
     obtain ⟨ad552, e552, hx552_0⟩ := Kd.at_int (Kd.R_reads' HO_11.out).2.2 x13_1 p552 q552
     cases e552
     replace p552 := eq_true p552
     replace q552 := eq_true q552
     obtain ⟨_, _, _, _, _, _, _, _, _, _, _, _, _, _, _, _, _, _⟩ := cf9 BK545.out
     have p553 : 0 ≤ ((rd t549 x13_1) : Int) := asm
     have q553 : (rd t549 x13_1) < (l0_6.length : Int) := asm
     obtain ⟨ad553, e553, hx553_0, hx553_1, hx553_2, hx553_3, hx553_4⟩ := hc5 HB.out (at_T71 HR0_6.out (rd t549 x13_1) p553 q553)
     cases e553
     replace p553 := eq_true p553
     replace q553 := eq_true q553
     go_wp2_with (first | ((with_reducible refine gc 56 ?_); refine gl2 23 Try.func56 (impl_plays.calls ((rd_T71 l0_6 (rd t549 x13_1)).f0) ((rd_T71 l0_6 (rd t549 x13_1)).f1) ((rd_T71 l0_6 (rd t549 x13_1)).f2) ((rd_T71 l0_6 (rd t549 x13_1)).f3) ((rd_T71 l0_6 (rd t549 x13_1)).f4) a1 false _ A15.out) ?_; intro w21 hb; replace HO_5 := am (Kd.R_below (rk HO_5.out) hb); replace HO_11 := am (Kd.R_below (rk HO_11.out) hb); replace BK545 := b1 BK545 hb; replace HB := b2 hb; clear hb; obtain ⟨_, _, _, _, _, _, _, _, _, _, _, _, _, _, _, _, _, _⟩ := cf9 BK545.out; have p555 : 0 ≤ ((rd t549 x13_1) : Int) := asm; have q555 : (rd t549 x13_1) < (l0_6.length : Int) := asm; obtain ⟨ad555, e555, hx555_0, hx555_1, hx555_2, hx555_3, hx555_4⟩ := at_T71 HR0_6.out (rd t549 x13_1) p555 q555; obtain rfl : ad553 = ad555 := (by injection e555); replace hx555_0 := hcl HB.out hx555_0; replace hx555_1 := hcl HB.out hx555_1; replace hx555_2 := hcl HB.out hx555_2; replace hx555_3 := hcl HB.out hx555_3; replace hx555_4 := hcl HB.out hx555_4; replace p555 := eq_true p555; replace q555 := eq_true q555) | ((with_reducible refine gate_builtin (b := .append) (xs := #[.tmp 25, .tmp 31]) rfl ?_); at_builtin; refine Kd.R_append k71 (w0 := w) w.heap.size rfl (.tmp 25) (.tmp 31) 35 71 (.agg #[(.int .i64 0), (.int .i64 0), (.int .i64 0), (.int .i64 0), (.int .i64 0)]) 40 rfl Try.underlying35 info71 rfl (by decide) (by omega) u5 x5_1 (⟨(rd_T71 l0_6 (rd t549 x13_1)).f0, (rd_T71 l0_6 (rd t549 x13_1)).f1, (rd_T71 l0_6 (rd t549 x13_1)).f2, (rd_T71 l0_6 (rd t549 x13_1)).f3, (rd_T71 l0_6 (rd t549 x13_1)).f4⟩ : S71) [.int .i64 ((rd_T71 l0_6 (rd t549 x13_1)).f0), .int .i64 ((rd_T71 l0_6 (rd t549 x13_1)).f1), .int .i64 ((rd_T71 l0_6 (rd t549 x13_1)).f2), .int .i64 ((rd_T71 l0_6 (rd t549 x13_1)).f3), .int .i64 ((rd_T71 l0_6 (rd t549 x13_1)).f4)] (fun _ => True) (fun _ => False) rfl rfl ?aP (fun _ hk => hk.elim) ?aF ?aO ?aB ?aS ?aL ?_; (case aP => exact k71_mkM _ _ _ (⟨(rd_T71 l0_6 (rd t549 x13_1)).f0, (rd_T71 l0_6 (rd t549 x13_1)).f1, (rd_T71 l0_6 (rd t549 x13_1)).f2, (rd_T71 l0_6 (rd t549 x13_1)).f3, (rd_T71 l0_6 (rd t549 x13_1)).f4⟩ : S71)); (case aB => exact bel); (case aF => exact (fun _ _ => trivial)); (case aO => exact (rk HO_5.out)); (case aS => exact (below_size bel)); (case aL => have := LMc19.out; omega); intro v557 w23 ho hb hg hat; rw [← Ny556.out] at ho; have n0_ := am (Kd.R_over' (rk HO_11.out) (Kd.R_typed (rk HO_5.out)) (by decide) hg); have n1_ := am (blk_grown (g := gb545) (o := .cells #[.slice A0_0 l0_0.length c0_0, .int .i64 a0_1, .int .i64 a0_2, .int .i64 a0_3, .slice A0_4 l0_4.length c0_4, .bool a0_5, .slice (some ad553) l0_6.length c0_6, .slice A0_7 l0_7.length c0_7, .slice A0_8 l0_8.length c0_8] 37 (0, 0)) (bk BK545.out) hg (Kd.R_ne HO_5.out BK545.out (by decide))); have n2_ := am (hb); have n3_ := am (ho); clear HO_11; clear BK545; clear HB; clear HO_5; have HO_11 := n0_; have BK545 := n1_; have HB := n2_; have HO558 := n3_; clear n0_ n1_ n2_ n3_; clear ho hb hg hat))
     go_roundg k1
     case measure => have := HK1.out; omega
     case rel => exact ⟨(y556), (wrap64 (x13_1 + 1)), (es), H', ⟨by have := HK1.out; omega⟩, ⟨rk HO558.out⟩, ⟨rk HO_11.out⟩, ⟨bk BK545.out⟩, ⟨bel⟩⟩
   ·obtain rfl := Option.some.inj H
    go_wp2
    go_ret
    exact ⟨_, er, rk HO_5.out, bel⟩
end Go.Proofs.Ytgalpgakdcfilaa.Q
