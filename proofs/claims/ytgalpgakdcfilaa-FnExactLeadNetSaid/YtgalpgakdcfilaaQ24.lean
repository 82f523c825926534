-- Written by a program of this session (wip/xp.py).
import Derived.Test.YtgalpgakdcfilaaQ0
import Derived.Test.YtgalpgakdcfilaaQ11
import Derived.Test.YtgalpgakdcfilaaQ23
import Derived.Test.YtgalpgakdcfilaaQ20
namespace Go.Proofs.Ytgalpgakdcfilaa.Q
open Go.RowKit Go.Proofs.YtgalpgakdcfilaaW.PrintWords Go.Proofs.YtgalpgakdcfilaaW.PrintLast Go.Proofs.YtgalpgakdcfilaaW.PrintMore
attribute [local go_sem] max2_int min2_int max_two min_two max_three min_three max_four min_four   -- for this text's walks alone
set_option linter.unusedVariables false
set_option linter.unusedSimpArgs false
set_option maxHeartbeats 8000000
set_option maxRecDepth 100000

def spec_l06Among.l0 : Nat → List Int → Bool → List (S129) → List (S71) → Int → Int → Int → Int → Int → List Int → Bool → Option ((List (S129)))
  | 0, _, _, _, _, _, _, _, _, _, _, _ => none
  | k + 1, x3, x4, x11, x16, x17, x18, x360000, x360001, x360002, x360003, x360004 => if x18 < x17 then (if 0 ≤ x18 then (if x18 < (x16.length : Int) then (if x4 = true then ((spec_l06Add.f x360000 x360001 x360002 x360003 x360004 x11 ((rd_T71 x16 x18).f0) ((rd_T71 x16 x18).f1) ((rd_T71 x16 x18).f2) ((rd_T71 x16 x18).f3) ((rd_T71 x16 x18).f4)).bind fun t365 => (spec_l06Among.l0 k x3 x4 t365 x16 x17 (wrap64 (x18 + 1)) x360000 x360001 x360002 x360003 x360004)) else ((spec_l02Has.f k x3 ((rd_T71 x16 x18).f0)).bind fun t366 => (if t366 = true then ((spec_l02Has.f k x3 ((rd_T71 x16 x18).f1)).bind fun t367 => (if t367 = true then ((spec_l06Add.f x360000 x360001 x360002 x360003 x360004 x11 ((rd_T71 x16 x18).f0) ((rd_T71 x16 x18).f1) ((rd_T71 x16 x18).f2) ((rd_T71 x16 x18).f3) ((rd_T71 x16 x18).f4)).bind fun t368 => (spec_l06Among.l0 k x3 x4 t368 x16 x17 (wrap64 (x18 + 1)) x360000 x360001 x360002 x360003 x360004)) else (spec_l06Among.l0 k x3 x4 x11 x16 x17 (wrap64 (x18 + 1)) x360000 x360001 x360002 x360003 x360004))) else (spec_l06Among.l0 k x3 x4 x11 x16 x17 (wrap64 (x18 + 1)) x360000 x360001 x360002 x360003 x360004)))) else (none)) else (none)) else (some x11)
def spec_l06Among.f (k : Nat) (a0_0 : Int) (a0_1 : Int) (a0_2 : Int) (l0_3 : List Int) (a0_4 : Bool) (a1 : Int) (l2 : List (S71)) (l3 : List Int) (a4 : Bool) : Option ((List (S129))) := if 0 ≤ a1 then (if (a1 : Int).toNat ≤ 5026338869833 then (spec_l06Among.l0 k l3 a4 (List.replicate (a1 : Int).toNat z129) l2 (l2.length : Int) 0 a0_0 a0_1 a0_2 l0_3 a0_4) else (none)) else (none)
theorem spec_l06Among.calls (k : Nat) (a0_0 : Int) (a0_1 : Int) (a0_2 : Int) (A0_3 : Option Addr) (c0_3 : Nat) (l0_3 : List Int) (a0_4 : Bool) (a1 : Int) (A2 : Option Addr) (c2 : Nat) (l2 : List (S71)) (A3 : Option Addr) (c3 : Nat) (l3 : List Int) (a4 : Bool) (r : List (S129)) (w : World) (hr0_3 : Kd.C (Kd.int .i64) w A0_3 l0_3.length l0_3) (hc0_3 : l0_3.length ≤ c0_3) (hr2 : Kd.C k71 w A2 l2.length l2) (hc2 : l2.length ≤ c2) (hr3 : Kd.C (Kd.int .i64) w A3 l3.length l3) (hc3 : l3.length ≤ c3) (h : spec_l06Among.f k a0_0 a0_1 a0_2 l0_3 a0_4 a1 l2 l3 a4 = some r) : Calls Try.prog 128 #[.agg #[.int .i64 a0_0, .int .i64 a0_1, .int .i64 a0_2, .slice A0_3 l0_3.length c0_3, .bool a0_4], .int .i64 a1, .slice A2 l2.length c2, .slice A3 l3.length c3, .bool a4] w fun e w' => ∃ v0_ : Value, e = .returned (v0_) ∧ Kd.R k129 129 w' w.heap.size (fun _ => True) v0_ r ∧ Below w.heap.size w w' := by
 have hu34 := Try.underlying34
 have hu71 := Try.underlying71
 have HR0_3 := am hr0_3
 have HC0_3 := am hc0_3
 clear hr0_3 hc0_3
 have HR2 := am hr2
 have HC2 := am hc2
 clear hr2 hc2
 have HR3 := am hr3
 have HC3 := am hc3
 clear hr3 hc3
 have HB := am (Below.refl w.heap.size w)
 have H : (if 0 ≤ a1 then (if (a1 : Int).toNat ≤ 5026338869833 then (spec_l06Among.l0 k l3 a4 (List.replicate (a1 : Int).toNat z129) l2 (l2.length : Int) 0 a0_0 a0_1 a0_2 l0_3 a0_4) else (none)) else (none)) = some r := h
 clear h
 by_cases c6 : 0 ≤ a1
 ·rw [if_pos c6] at H
  have c6b0 := eq_true c6
  have c6b1 : decide (0 ≤ a1) = true := decide_eq_true c6
  clear c6
  replace H := i0 H; obtain ⟨c7b1, H⟩ := H
  have c7b0 := eq_true (of_decide_eq_true c7b1)
  obtain ⟨y360, hy360⟩ : ∃ y_ : List (S129), y_ = (List.replicate (a1 : Int).toNat z129) := ⟨_, rfl⟩
  replace H : (spec_l06Among.l0 k l3 a4 y360 l2 (l2.length : Int) 0 a0_0 a0_1 a0_2 l0_3 a0_4) = some r := by first | (rw [hy360]; with_reducible exact H) | (have H2_ := (Option.bind_some _ _).symm.trans H; rw [hy360]; with_reducible exact H2_) | (have H2_ := (Option.bind_some _ _).symm.trans H; with_reducible exact H2_) | with_reducible exact H | (rw [hy360]; exact H) | exact H
  have Ny360 := am hy360
  clear hy360
  have H' := am H
  clear H
  go_enter Try.func128, Try.ntmps128
  go_wp2_with (first | ((with_reducible refine gd 5 ?_); refine bx w 5 #[.int .i64 a0_0, .int .i64 a0_1, .int .i64 a0_2, .slice A0_3 l0_3.length c0_3, .bool a0_4] 34 ?_; clear HB; intro gb359 w8 BK359 GE359 HB) | ((with_reducible refine gate_dst (N := 15) rfl ?_); refine Kd.R_make k129 _ 129 rfl (N := 15) rfl 117 _ _ rfl a1 rfl rfl Try.underlying117 (.agg #[(.int .i64 0), (.int .i64 0), (.int .i64 0), (.int .i64 0), (.int .i64 0), (.int .i64 0), (.int .i64 0)]) 56 info129 rfl (by decide) (by omega) z129 (ok := fun _ => True) (okp := fun _ => True) (k129_mkM _ _ _ z129 ) (fun _ hk => hk) trivial (asm) (Nat.le_trans (Nat.mul_le_mul_right _ (asm : a1.toNat ≤ 5026338869833)) (by omega)) (Below.refl _ _) (Nat.le_refl _) ?_; intro v361 w9 ho10 hb hg_ hnew_; clear hg_ hnew_; (first | rw [← Ny360.out] at ho10 | (simp only [Int.reduceToNat] at ho10; rw [← Ny360.out] at ho10)); have HO362 := am (Kd.R_lower ho10 (below_size bel)); replace BK359 := b1 BK359 hb; replace HB := b2 hb; clear hb ho10))
  go_loopg [18] k (fun kq v18 w' => ∃ (x11_1 : List (S129)) (x18_1 : Int), v18 = .int .i64 x18_1 ∧ Aside0 (spec_l06Among.l0 kq l3 a4 x11_1 l2 (l2.length : Int) x18_1 a0_0 a0_1 a0_2 l0_3 a0_4 = some r) ∧ Aside0 (kq ≤ k) ∧ Aside0 (Kd.R k129 129 w' w.heap.size (fun _ => True) v361 x11_1) ∧ Aside0 (w'.heap[gb359]? = some (.cells #[.int .i64 a0_0, .int .i64 a0_1, .int .i64 a0_2, (.slice A0_3 l0_3.length c0_3), .bool a0_4] 34 (0, 0))) ∧ Aside0 (Below w.heap.size w w'))
  case atStart => exact ⟨(y360), (0), (es), H', ⟨Nat.le_refl _⟩, ⟨rk HO362.out⟩, ⟨bk BK359.out⟩, ⟨bel⟩⟩
  case round =>
   clear H'
   try clear c2; try clear c3; try clear c6; try clear c6b0; try clear c6b1; try clear c7; try clear c7b0; try clear c7b1
   obtain ⟨x11_1, x18_1, rfl, HA, HK1, HO_11, BK359, HB⟩ := hrel
   cases gk with
   | zero => exact absurd HA.out (by simp [spec_l06Among.l0])
   | succ k1 =>
    have H := HA.out
    clear HA
    simp only [spec_l06Among.l0] at H
    replace H := i1 H; obtain ⟨c11b0, H⟩ | ⟨c11b0, H⟩ := H
    ·replace H := i0 H; obtain ⟨c12b0, H⟩ := H
     replace H := i0 H; obtain ⟨c13b0, H⟩ := H
     replace H := ib H; obtain ⟨rfl, H⟩ | ⟨rfl, H⟩ := H
     ·replace H := bm H; obtain ⟨t365, A15, H⟩ := H
      have H' := am H
      clear H
      have p363 : 0 ≤ (x18_1 : Int) := asm
      have q363 : x18_1 < (l2.length : Int) := asm
      obtain ⟨ad363, e363, hx363_0, hx363_1, hx363_2, hx363_3, hx363_4⟩ := hc5 HB.out (at_T71 HR2.out x18_1 p363 q363)
      cases e363
      replace p363 := eq_true p363
      replace q363 := eq_true q363
      go_wp2_with (first | ((with_reducible refine gd 13 ?_); refine by_ w 13 #[.int .i64 0, .int .i64 0, .int .i64 0, .int .i64 0, .int .i64 0] 71 ?_; clear HB; intro gb364 hg w16 BK364 GE364 hb HB; have NB359_364 := am ((nlt hg BK359.out : gb359 ≠ gb364)); have NB364_359 := am ((ngt hg BK359.out : gb364 ≠ gb359)); replace HO_11 := am (Kd.R_below (rk HO_11.out) hb); replace BK359 := b1 BK359 hb; clear hb hg; have hnb17 := NB364_359.out; have hnc17 := NB359_364.out; obtain ⟨_, _, _, _, _, _, _, _, _, _⟩ := cf5 BK364.out) | ((with_reducible refine gate_store (t := 71) (p := 13) rfl ?_); refine store_event (t := 71) (p := 13) (v := ?vo_w19) (w1 := (((((w16.setCell ⟨gb364, 0, none⟩ (.int .i64 ((rd_T71 l2 x18_1).f0))).setCell ⟨gb364, 1, none⟩ (.int .i64 ((rd_T71 l2 x18_1).f1))).setCell ⟨gb364, 2, none⟩ (.int .i64 ((rd_T71 l2 x18_1).f2))).setCell ⟨gb364, 3, none⟩ (.int .i64 ((rd_T71 l2 x18_1).f3))).setCell ⟨gb364, 4, none⟩ (.int .i64 ((rd_T71 l2 x18_1).f4)))) ?hg ?ho ?hn ?hr ?_; (case ho => rfl); (case hg => rfl); (case hn => rfl); (case hr => first | (go_simp; done) | (go_simp; rfl)); intro w19 hw; have n0_ : Aside0 (Kd.R k129 129 w19 w.heap.size (fun _ => True) v361 x11_1) := ⟨(by rw [hw]; exact (kf (Kd.R_types HO_11.out BK364.out (by decide))))⟩; have n1_ : Aside0 (w19.heap[gb359]? = some (.cells #[.int .i64 a0_0, .int .i64 a0_1, .int .i64 a0_2, .slice A0_3 l0_3.length c0_3, .bool a0_4] 34 (0, 0))) := ⟨(by rw [hw]; exact (bk BK359.out))⟩; have n2_ : Aside0 (w19.heap[gb364]? = some (.cells #[.int .i64 ((rd_T71 l2 x18_1).f0), .int .i64 ((rd_T71 l2 x18_1).f1), .int .i64 ((rd_T71 l2 x18_1).f2), .int .i64 ((rd_T71 l2 x18_1).f3), .int .i64 ((rd_T71 l2 x18_1).f4)] 71 (0, 0))) := ⟨(by rw [hw]; exact (bz BK364))⟩; have n3_ : Aside0 (Below w.heap.size w w19) := ⟨(by rw [hw]; exact bel)⟩; clear hw; clear HO_11; clear BK359; clear BK364; clear HB; have HO_11 := n0_; have BK359 := n1_; have BK364 := n2_; have HB := n3_; clear n0_ n1_ n2_ n3_; obtain ⟨_, _, _, _, _, _, _, _, _, _⟩ := cf5 BK359.out; obtain ⟨_, _, _, _, _, _, _, _, _, _⟩ := cf5 BK364.out; obtain ⟨Ao22, co22, eo22⟩ := Kd.R_slice HO_11.out; subst eo22) | ((with_reducible refine gc 142 ?_); refine gl 38 Try.func142 (spec_l06Add.calls a0_0 a0_1 a0_2 _ _ l0_3 a0_4 (fun k_ => some k_ = (.slice Ao22 x11_1.length co22 : Value).ownBlock) (.slice Ao22 x11_1.length co22) x11_1 ((rd_T71 l2 x18_1).f0) ((rd_T71 l2 x18_1).f1) ((rd_T71 l2 x18_1).f2) ((rd_T71 l2 x18_1).f3) ((rd_T71 l2 x18_1).f4) t365 w _ bel (Kd.C_kept_came (Kd.heap_int .i64) HR0_3.out bel (fun k_ hs_ => (fun e_ => Kd.R_base HO_11.out k_ e_.symm) hs_)) HC0_3.out (Kd.R_tight rfl HO_11.out) A15.out) ?_; rintro e w23 ⟨rfl, hy0, hb, hkp⟩; refine ⟨_, rfl, ?_⟩; have n0_ := am (Kd.R_reok rfl hy0 (fun k_ e_ => HO_11.out.1 k_ e_)); have n1_ := am (blk_kept (bk BK359.out) hkp (fun hs_ => (fun e_ => (Kd.R_ne HO_11.out BK359.out (by decide)) e_) hs_)); have n2_ := am (blk_kept (bk BK364.out) hkp (fun hs_ => (fun e_ => (Kd.R_ne HO_11.out BK364.out (by decide)) e_) hs_)); have n3_ := am (hb); clear HO_11; clear BK359; clear BK364; clear HB; have HO_11 := n0_; have BK359 := n1_; have BK364 := n2_; have HB := n3_; clear n0_ n1_ n2_ n3_; clear hb; (try clear hkp); (try clear hy0)))
      go_roundg k1
      case measure => have := HK1.out; omega
      case rel => exact ⟨(t365), (wrap64 (x18_1 + 1)), (es), H', ⟨by have := HK1.out; omega⟩, ⟨rk HO_11.out⟩, ⟨bk BK359.out⟩, ⟨bel⟩⟩
     ·replace H := bm H; obtain ⟨t366, A24, H⟩ := H
      replace H := ib H; obtain ⟨rfl, H⟩ | ⟨rfl, H⟩ := H
      ·replace H := bm H; obtain ⟨t367, A26, H⟩ := H
       replace H := ib H; obtain ⟨rfl, H⟩ | ⟨rfl, H⟩ := H
       ·replace H := bm H; obtain ⟨t368, A28, H⟩ := H
        have H' := am H
        clear H
        have p363 : 0 ≤ (x18_1 : Int) := asm
        have q363 : x18_1 < (l2.length : Int) := asm
        obtain ⟨ad363, e363, hx363_0, hx363_1, hx363_2, hx363_3, hx363_4⟩ := hc5 HB.out (at_T71 HR2.out x18_1 p363 q363)
        cases e363
        replace p363 := eq_true p363
        replace q363 := eq_true q363
        go_wp2_with (first | ((with_reducible refine gd 13 ?_); refine by_ w 13 #[.int .i64 0, .int .i64 0, .int .i64 0, .int .i64 0, .int .i64 0] 71 ?_; clear HB; intro gb364 hg w29 BK364 GE364 hb HB; have NB359_364 := am ((nlt hg BK359.out : gb359 ≠ gb364)); have NB364_359 := am ((ngt hg BK359.out : gb364 ≠ gb359)); replace HO_11 := am (Kd.R_below (rk HO_11.out) hb); replace BK359 := b1 BK359 hb; clear hb hg; have hnb30 := NB364_359.out; have hnc30 := NB359_364.out; obtain ⟨_, _, _, _, _, _, _, _, _, _⟩ := cf5 BK364.out) | ((with_reducible refine gate_store (t := 71) (p := 13) rfl ?_); refine store_event (t := 71) (p := 13) (v := ?vo_w32) (w1 := (((((w29.setCell ⟨gb364, 0, none⟩ (.int .i64 ((rd_T71 l2 x18_1).f0))).setCell ⟨gb364, 1, none⟩ (.int .i64 ((rd_T71 l2 x18_1).f1))).setCell ⟨gb364, 2, none⟩ (.int .i64 ((rd_T71 l2 x18_1).f2))).setCell ⟨gb364, 3, none⟩ (.int .i64 ((rd_T71 l2 x18_1).f3))).setCell ⟨gb364, 4, none⟩ (.int .i64 ((rd_T71 l2 x18_1).f4)))) ?hg ?ho ?hn ?hr ?_; (case ho => rfl); (case hg => rfl); (case hn => rfl); (case hr => first | (go_simp; done) | (go_simp; rfl)); intro w32 hw; have n0_ : Aside0 (Kd.R k129 129 w32 w.heap.size (fun _ => True) v361 x11_1) := ⟨(by rw [hw]; exact (kf (Kd.R_types HO_11.out BK364.out (by decide))))⟩; have n1_ : Aside0 (w32.heap[gb359]? = some (.cells #[.int .i64 a0_0, .int .i64 a0_1, .int .i64 a0_2, .slice A0_3 l0_3.length c0_3, .bool a0_4] 34 (0, 0))) := ⟨(by rw [hw]; exact (bk BK359.out))⟩; have n2_ : Aside0 (w32.heap[gb364]? = some (.cells #[.int .i64 ((rd_T71 l2 x18_1).f0), .int .i64 ((rd_T71 l2 x18_1).f1), .int .i64 ((rd_T71 l2 x18_1).f2), .int .i64 ((rd_T71 l2 x18_1).f3), .int .i64 ((rd_T71 l2 x18_1).f4)] 71 (0, 0))) := ⟨(by rw [hw]; exact (bz BK364))⟩; have n3_ : Aside0 (Below w.heap.size w w32) := ⟨(by rw [hw]; exact bel)⟩; clear hw; clear HO_11; clear BK359; clear BK364; clear HB; have HO_11 := n0_; have BK359 := n1_; have BK364 := n2_; have HB := n3_; clear n0_ n1_ n2_ n3_; obtain ⟨_, _, _, _, _, _, _, _, _, _⟩ := cf5 BK364.out) | (go_at_call 114; refine cm1 (spec_l02Has.calls k1 _ _ l3 ((rd_T71 l2 x18_1).f0) true _ (cb HR3 HB) HC3.out A24.out) ?_; intro nd) | (go_at_call 114; refine cm1 (spec_l02Has.calls k1 _ _ l3 ((rd_T71 l2 x18_1).f1) true _ (ck (Kd.C_below HR3.out bel)) HC3.out A26.out) ?_; intro nd; obtain ⟨_, _, _, _, _, _, _, _, _, _⟩ := cf5 BK359.out; obtain ⟨Ao35, co35, eo35⟩ := Kd.R_slice HO_11.out; subst eo35) | ((with_reducible refine gc 142 ?_); refine gl 38 Try.func142 (spec_l06Add.calls a0_0 a0_1 a0_2 _ _ l0_3 a0_4 (fun k_ => some k_ = (.slice Ao35 x11_1.length co35 : Value).ownBlock) (.slice Ao35 x11_1.length co35) x11_1 ((rd_T71 l2 x18_1).f0) ((rd_T71 l2 x18_1).f1) ((rd_T71 l2 x18_1).f2) ((rd_T71 l2 x18_1).f3) ((rd_T71 l2 x18_1).f4) t368 w _ bel (Kd.C_kept_came (Kd.heap_int .i64) HR0_3.out bel (fun k_ hs_ => (fun e_ => Kd.R_base HO_11.out k_ e_.symm) hs_)) HC0_3.out (Kd.R_tight rfl HO_11.out) A28.out) ?_; rintro e w36 ⟨rfl, hy0, hb, hkp⟩; refine ⟨_, rfl, ?_⟩; have n0_ := am (Kd.R_reok rfl hy0 (fun k_ e_ => HO_11.out.1 k_ e_)); have n1_ := am (blk_kept (bk BK359.out) hkp (fun hs_ => (fun e_ => (Kd.R_ne HO_11.out BK359.out (by decide)) e_) hs_)); have n2_ := am (blk_kept (bk BK364.out) hkp (fun hs_ => (fun e_ => (Kd.R_ne HO_11.out BK364.out (by decide)) e_) hs_)); have n3_ := am (hb); clear HO_11; clear BK359; clear BK364; clear HB; have HO_11 := n0_; have BK359 := n1_; have BK364 := n2_; have HB := n3_; clear n0_ n1_ n2_ n3_; clear hb; (try clear hkp); (try clear hy0)))
        go_roundg k1
        case measure => have := HK1.out; omega
        case rel => exact ⟨(t368), (wrap64 (x18_1 + 1)), (es), H', ⟨by have := HK1.out; omega⟩, ⟨rk HO_11.out⟩, ⟨bk BK359.out⟩, ⟨bel⟩⟩
       ·have H' := am H
        clear H
        have p363 : 0 ≤ (x18_1 : Int) := asm
        have q363 : x18_1 < (l2.length : Int) := asm
        obtain ⟨ad363, e363, hx363_0, hx363_1, hx363_2, hx363_3, hx363_4⟩ := hc5 HB.out (at_T71 HR2.out x18_1 p363 q363)
        cases e363
        replace p363 := eq_true p363
        replace q363 := eq_true q363
        go_wp2_with (first | ((with_reducible refine gd 13 ?_); refine by_ w 13 #[.int .i64 0, .int .i64 0, .int .i64 0, .int .i64 0, .int .i64 0] 71 ?_; clear HB; intro gb364 hg w37 BK364 GE364 hb HB; have NB359_364 := am ((nlt hg BK359.out : gb359 ≠ gb364)); have NB364_359 := am ((ngt hg BK359.out : gb364 ≠ gb359)); replace HO_11 := am (Kd.R_below (rk HO_11.out) hb); replace BK359 := b1 BK359 hb; clear hb hg; have hnb38 := NB364_359.out; have hnc38 := NB359_364.out; obtain ⟨_, _, _, _, _, _, _, _, _, _⟩ := cf5 BK364.out) | (go_at_call 114; refine cm1 (spec_l02Has.calls k1 _ _ l3 ((rd_T71 l2 x18_1).f0) true _ (Kd.C_below HR3.out bel) HC3.out A24.out) ?_; intro nd) | (go_at_call 114; refine cm1 (spec_l02Has.calls k1 _ _ l3 ((rd_T71 l2 x18_1).f1) false _ (Kd.C_below HR3.out bel) HC3.out A26.out) ?_; intro nd))
        go_roundg k1
        case measure => have := HK1.out; omega
        case rel => exact ⟨(x11_1), (wrap64 (x18_1 + 1)), (es), H', ⟨by have := HK1.out; omega⟩, ⟨(kf (Kd.R_types HO_11.out BK364.out (by decide)))⟩, ⟨bk BK359.out⟩, ⟨bel⟩⟩
      ·have H' := am H
       clear H
       have p363 : 0 ≤ (x18_1 : Int) := asm
       have q363 : x18_1 < (l2.length : Int) := asm
       obtain ⟨ad363, e363, hx363_0, hx363_1, hx363_2, hx363_3, hx363_4⟩ := hc5 HB.out (at_T71 HR2.out x18_1 p363 q363)
       cases e363
       replace p363 := eq_true p363
       replace q363 := eq_true q363
       go_wp2_with (first | ((with_reducible refine gd 13 ?_); refine by_ w 13 #[.int .i64 0, .int .i64 0, .int .i64 0, .int .i64 0, .int .i64 0] 71 ?_; clear HB; intro gb364 hg w40 BK364 GE364 hb HB; have NB359_364 := am ((nlt hg BK359.out : gb359 ≠ gb364)); have NB364_359 := am ((ngt hg BK359.out : gb364 ≠ gb359)); replace HO_11 := am (Kd.R_below (rk HO_11.out) hb); replace BK359 := b1 BK359 hb; clear hb hg; have hnb41 := NB364_359.out; have hnc41 := NB359_364.out; obtain ⟨_, _, _, _, _, _, _, _, _, _⟩ := cf5 BK364.out) | (go_at_call 114; refine cm1 (spec_l02Has.calls k1 _ _ l3 ((rd_T71 l2 x18_1).f0) false _ (Kd.C_below HR3.out bel) HC3.out A24.out) ?_; intro nd))
       go_roundg k1
       case measure => have := HK1.out; omega
       case rel => exact ⟨(x11_1), (wrap64 (x18_1 + 1)), (es), H', ⟨by have := HK1.out; omega⟩, ⟨(kf (Kd.R_types HO_11.out BK364.out (by decide)))⟩, ⟨bk BK359.out⟩, ⟨bel⟩⟩
    ·obtain rfl := Option.some.inj H
     go_wp2
     go_ret
     exact ⟨_, er, rk HO_11.out, bel⟩
 ·rw [if_neg c6] at H
  exact absurd H (by simp)
def spec_l18Points.l0 : Nat → List Int → List (S129) → Int → Int → List (S101) → Int → Int → Int → List Int → Bool → List (S71) → List Int → List Int → Option (List Int)
  | 0, _, _, _, _, _, _, _, _, _, _, _, _, _ => none
  | k + 1, x3, x14, x15, x16, x370000, x370001, x370002, x370003, x370004, x370005, x370006, x370007, x370008 => if x16 < x15 then (if 0 ≤ x16 then (if x16 < (x14.length : Int) then (if x16 < (x370008.length : Int) then (if x3.length < 17592186044416 then (spec_l18Points.l0 k (x3 ++ [wrap64 (((rd_T129 x14 x16).f6) - (rd x370008 x16))]) x14 x15 (wrap64 (x16 + 1)) x370000 x370001 x370002 x370003 x370004 x370005 x370006 x370007 x370008) else (none)) else (none)) else (none)) else (none)) else (some x3)
def spec_l18Points.f (k : Nat) (l0_0 : List (S101)) (a0_1 : Int) (a0_2 : Int) (a0_3 : Int) (l0_4 : List Int) (a0_5 : Bool) (l0_6 : List (S71)) (l0_7 : List Int) (l0_8 : List Int) : Option (List Int) := (spec_l06Among.f k a0_1 a0_2 a0_3 l0_4 a0_5 (l0_0.length : Int) l0_6 ([] : List Int) true).bind fun t373 => (spec_l18Points.l0 k (([] : List Int)) t373 (t373.length : Int) 0 l0_0 a0_1 a0_2 a0_3 l0_4 a0_5 l0_6 l0_7 l0_8)
def spec_l18Points.T5 : Bool × List (List Nat × List Nat) := (true, [([], []), ([], []), ([1], [1]), ([], []), ([3], [3]), ([], []), ([4, 5], [4, 5]), ([6], [6]), ([2, 7], [2, 7]), ([8], [8]), ([0, 9], [0, 9]), ([10, 10, 0, 1, 2, 3, 4, 5, 6, 7, 8, 9, 10], [0, 10])])
def spec_l18Points.B5 : List Nat := [0, 0, 2, 0, 8, 0, 56, 120, 254, 510, 1023, 2047]
theorem spec_l18Points.tab5 : rtab .any (opsOf Try.f108 5) = spec_l18Points.T5 := by kernel_rfl
theorem spec_l18Points.bits5 : waitsOk spec_l18Points.T5.2 spec_l18Points.B5 = true := by kernel_rfl
theorem spec_l18Points.calls (k : Nat) (A0_0 : Option Addr) (c0_0 : Nat) (l0_0 : List (S101)) (a0_1 : Int) (a0_2 : Int) (a0_3 : Int) (A0_4 : Option Addr) (c0_4 : Nat) (l0_4 : List Int) (a0_5 : Bool) (A0_6 : Option Addr) (c0_6 : Nat) (l0_6 : List (S71)) (A0_7 : Option Addr) (c0_7 : Nat) (l0_7 : List Int) (A0_8 : Option Addr) (c0_8 : Nat) (l0_8 : List Int) (r : List Int) (w : World) (hr0_0 : Kd.C k101 w A0_0 l0_0.length l0_0) (hc0_0 : l0_0.length ≤ c0_0) (hr0_4 : Kd.C (Kd.int .i64) w A0_4 l0_4.length l0_4) (hc0_4 : l0_4.length ≤ c0_4) (hr0_6 : Kd.C k71 w A0_6 l0_6.length l0_6) (hc0_6 : l0_6.length ≤ c0_6) (hr0_7 : Kd.C (Kd.int .i64) w A0_7 l0_7.length l0_7) (hc0_7 : l0_7.length ≤ c0_7) (hr0_8 : Kd.C (Kd.int .i64) w A0_8 l0_8.length l0_8) (hc0_8 : l0_8.length ≤ c0_8) (h : spec_l18Points.f k l0_0 a0_1 a0_2 a0_3 l0_4 a0_5 l0_6 l0_7 l0_8 = some r) : Calls Try.prog 108 #[.agg #[.slice A0_0 l0_0.length c0_0, .int .i64 a0_1, .int .i64 a0_2, .int .i64 a0_3, .slice A0_4 l0_4.length c0_4, .bool a0_5, .slice A0_6 l0_6.length c0_6, .slice A0_7 l0_7.length c0_7, .slice A0_8 l0_8.length c0_8]] w fun e w' => ∃ v0_ : Value, e = .returned (v0_) ∧ Kd.R (Kd.int .i64) 3 w' w.heap.size (fun _ => True) v0_ r ∧ Below w.heap.size w w' := by
 have hu37 := Try.underlying37
 have hu34 := Try.underlying34
 have hu129 := Try.underlying129
 have HR0_0 := am hr0_0
 have HC0_0 := am hc0_0
 clear hr0_0 hc0_0
 have HR0_4 := am hr0_4
 have HC0_4 := am hc0_4
 clear hr0_4 hc0_4
 have HR0_6 := am hr0_6
 have HC0_6 := am hc0_6
 clear hr0_6 hc0_6
 have HR0_7 := am hr0_7
 have HC0_7 := am hc0_7
 clear hr0_7 hc0_7
 have HR0_8 := am hr0_8
 have HC0_8 := am hc0_8
 clear hr0_8 hc0_8
 have HB := am (Below.refl w.heap.size w)
 have H : ((spec_l06Among.f k a0_1 a0_2 a0_3 l0_4 a0_5 (l0_0.length : Int) l0_6 ([] : List Int) true).bind fun t373 => (spec_l18Points.l0 k (([] : List Int)) t373 (t373.length : Int) 0 l0_0 a0_1 a0_2 a0_3 l0_4 a0_5 l0_6 l0_7 l0_8)) = some r := h
 clear h
 obtain ⟨y370, hy370⟩ : ∃ y_ : List Int, y_ = (([] : List Int)) := ⟨_, rfl⟩
 replace H : ((spec_l06Among.f k a0_1 a0_2 a0_3 l0_4 a0_5 (l0_0.length : Int) l0_6 ([] : List Int) true).bind fun t373 => (spec_l18Points.l0 k y370 t373 (t373.length : Int) 0 l0_0 a0_1 a0_2 a0_3 l0_4 a0_5 l0_6 l0_7 l0_8)) = some r := by first | (rw [hy370]; with_reducible exact H) | (have H2_ := (Option.bind_some _ _).symm.trans H; rw [hy370]; with_reducible exact H2_) | (have H2_ := (Option.bind_some _ _).symm.trans H; with_reducible exact H2_) | with_reducible exact H | (rw [hy370]; exact H) | exact H
 have Ny370 := am hy370
 clear hy370
 replace H := bm H; obtain ⟨t373, A2, H⟩ := H
 have H' := am H
 clear H
 go_enter Try.func108, Try.ntmps108
 go_wp2_with (first | ((with_reducible refine gd 1 ?_); refine bx w 1 #[.slice A0_0 l0_0.length c0_0, .int .i64 a0_1, .int .i64 a0_2, .int .i64 a0_3, .slice A0_4 l0_4.length c0_4, .bool a0_5, .slice A0_6 l0_6.length c0_6, .slice A0_7 l0_7.length c0_7, .slice A0_8 l0_8.length c0_8] 37 ?_; clear HB; intro gb369 w3 BK369 GE369 HB) | ((with_reducible refine gate_dst (N := 6) rfl ?_); refine Kd.R_lit (Kd.int .i64) _ 3 ?hg (N := 6) ?hd (xs := ([] : List Int)) (inner := []) (ok := fun _ => True) (okp := fun _ => True) ?hr ?hp (fun _ hk => hk) trivial (Below.refl _ _) (Nat.le_refl _) (by simp) ?_; (case hd => rfl); (case hg => rfl); (case hr => first | (go_simp; done) | (go_simp; rfl)); (case hp => exact (Reps.none _ _)); intro v371 w4 ho5 hb hg_ hnew_; clear hg_ hnew_; (first | rw [← Ny370.out] at ho5 | (simp only [Int.reduceToNat] at ho5; rw [← Ny370.out] at ho5)); have HO372 := am (Kd.R_lower ho5 (below_size bel)); replace BK369 := b1 BK369 hb; replace HB := b2 hb; clear hb ho5; obtain ⟨hcz6_0, hcz6_1, hcz6_2, hcz6_3, hcz6_4, hcz6_5, hcz6_6, hcz6_7, hcz6_8, hfz6_0, hfz6_1, hfz6_2, hfz6_3, hfz6_4, hfz6_5, hfz6_6, hfz6_7, hfz6_8⟩ := cf9 BK369.out) | ((with_reducible refine gate_callee (f := 128) rfl ?_); refine goesL_ (some 14) rfl rfl Try.func128 (by kernel_rfl) rfl #[.agg #[.int .i64 a0_1, .int .i64 a0_2, .int .i64 a0_3, .slice A0_4 l0_4.length c0_4, .bool a0_5], .int .i64 (l0_0.length : Int), .slice A0_6 l0_6.length c0_6, .slice none 0 0, .bool true] rfl ga ?_; (refine (spec_l06Among.calls k a0_1 a0_2 a0_3 _ _ l0_4 a0_5 (l0_0.length : Int) _ _ l0_6 _ _ ([] : List Int) true t373 _ ?side1 ?side2 ?side3 ?side4 ?side5 ?side6 A2.out).mono ?_); (case side1 => exact ck (Kd.C_below HR0_4.out HB.out)); (case side2 => exact HC0_4.out); (case side3 => exact ck (Kd.C_below HR0_6.out HB.out)); (case side4 => exact HC0_6.out); (case side5 => exact Kd.C_nil _ _); (case side6 => exact Nat.le_refl _); rintro e w7 ⟨v374, rfl, ho0, hb⟩; refine ⟨_, rfl, ?_⟩; have HO375 := am (Kd.R_lower ho0 (below_size bel)); replace HO372 := am (Kd.R_below (rk HO372.out) hb); replace BK369 := b1 BK369 hb; replace HB := b2 hb; (try clear hb); (try clear ho0); obtain ⟨Ao8, co8, eo8⟩ := Kd.R_slice HO375.out; subst eo8))
 go_loopg [3, 16] k (fun kq v3 v16 w' => ∃ (x3_1 : List Int) (x16_1 : Int), v16 = .int .i64 x16_1 ∧ Aside0 (spec_l18Points.l0 kq x3_1 t373 (t373.length : Int) x16_1 l0_0 a0_1 a0_2 a0_3 l0_4 a0_5 l0_6 l0_7 l0_8 = some r) ∧ Aside0 (kq ≤ k) ∧ Aside0 (Kd.R (Kd.int .i64) 3 w' w.heap.size (fun _ => True) v3 x3_1) ∧ Aside0 (Kd.R k129 129 w' w.heap.size (fun _ => True) (.slice Ao8 t373.length co8) t373) ∧ Aside0 (w'.heap[gb369]? = some (.cells #[(.slice A0_0 l0_0.length c0_0), .int .i64 a0_1, .int .i64 a0_2, .int .i64 a0_3, (.slice A0_4 l0_4.length c0_4), .bool a0_5, (.slice A0_6 l0_6.length c0_6), (.slice A0_7 l0_7.length c0_7), (.slice A0_8 l0_8.length c0_8)] 37 (0, 0))) ∧ Aside0 (Below w.heap.size w w'))
 case atStart => exact ⟨(y370), (0), (es), H', ⟨Nat.le_refl _⟩, ⟨rk HO372.out⟩, ⟨rk HO375.out⟩, ⟨bk BK369.out⟩, ⟨bel⟩⟩
 case round =>
  clear H'
  try clear hcz6_0; try clear hcz6_1; try clear hcz6_2; try clear hcz6_3; try clear hcz6_4; try clear hcz6_5; try clear hcz6_6; try clear hcz6_7; try clear hcz6_8; try clear hfz6_0; try clear hfz6_1; try clear hfz6_2; try clear hfz6_3; try clear hfz6_4; try clear hfz6_5; try clear hfz6_6; try clear hfz6_7; try clear hfz6_8
  obtain ⟨x3_1, x16_1, rfl, HA, HK1, HO_3, HO_14, BK369, HB⟩ := hrel
  cases gk with
  | zero => exact absurd HA.out (by simp [spec_l18Points.l0])
  | succ k1 =>
   have H := HA.out
   clear HA
   simp only [spec_l18Points.l0] at H
   replace H := i1 H; obtain ⟨c9b0, H⟩ | ⟨c9b0, H⟩ := H
   ·replace H := i0 H; obtain ⟨c10b0, H⟩ := H
    replace H := i0 H; obtain ⟨c11b0, H⟩ := H
    replace H := i0 H; obtain ⟨c12b0, H⟩ := H
    replace H := i0 H; obtain ⟨c13, H⟩ := H
    have LMc13 := am (of_decide_eq_true c13)
    clear c13
    obtain ⟨y379, hy379⟩ : ∃ y_ : List Int, y_ = (x3_1 ++ [wrap64 (((rd_T129 t373 x16_1).f6) - (rd l0_8 x16_1))]) := ⟨_, rfl⟩
    replace H : (spec_l18Points.l0 k1 y379 t373 (t373.length : Int) (wrap64 (x16_1 + 1)) l0_0 a0_1 a0_2 a0_3 l0_4 a0_5 l0_6 l0_7 l0_8) = some r := by first | (rw [hy379]; with_reducible exact H) | (have H2_ := (Option.bind_some _ _).symm.trans H; rw [hy379]; with_reducible exact H2_) | (have H2_ := (Option.bind_some _ _).symm.trans H; with_reducible exact H2_) | with_reducible exact H | (rw [hy379]; exact H) | exact H
    have Ny379 := am hy379
    clear hy379
    have H' := am H
    clear H
    have p376 : 0 ≤ (x16_1 : Int) := asm
    have q376 : x16_1 < (t373.length : Int) := asm
    obtain ⟨ad376, e376, hx376_0, hx376_1, hx376_2, hx376_3, hx376_4, hx376_5, hx376_6⟩ := at_T129 (Kd.R_reads' HO_14.out).2.2 x16_1 p376 q376
    cases e376
    replace p376 := eq_true p376
    replace q376 := eq_true q376
    try go_wp2_with (first | ((with_reducible refine gd 5 ?_); refine by_ w 5 #[.int .i64 0, .int .i64 0, .int .i64 0, .int .i64 0, .int .i64 0, .int .i64 0, .int .i64 0] 129 ?_; clear HB; intro gb377 hg w14 BK377 GE377 hb HB; have NB369_377 := am ((nlt hg BK369.out : gb369 ≠ gb377)); have NB377_369 := am ((ngt hg BK369.out : gb377 ≠ gb369)); replace HO_3 := am (Kd.R_below (rk HO_3.out) hb); replace HO_14 := am (Kd.R_below (Kd.R_elderB (rk HO_14.out) gb377 (Nat.le_of_eq hg.symm)) hb); replace BK369 := b1 BK369 hb; clear hb hg; have hnb15 := NB377_369.out; have hnc15 := NB369_377.out; obtain ⟨_, _, _, _, _, _, _, _, _, _, _, _, _, _⟩ := cf7 BK377.out))
    have n0_ : Aside0 (Kd.R (Kd.int .i64) 3 (((((((w14.setCell ⟨gb377, 0, none⟩ (.int .i64 ((rd_T129 t373 x16_1).f0))).setCell ⟨gb377, 1, none⟩ (.int .i64 ((rd_T129 t373 x16_1).f1))).setCell ⟨gb377, 2, none⟩ (.int .i64 ((rd_T129 t373 x16_1).f2))).setCell ⟨gb377, 3, none⟩ (.int .i64 ((rd_T129 t373 x16_1).f3))).setCell ⟨gb377, 4, none⟩ (.int .i64 ((rd_T129 t373 x16_1).f4))).setCell ⟨gb377, 5, none⟩ (.int .i64 ((rd_T129 t373 x16_1).f5))).setCell ⟨gb377, 6, none⟩ (.int .i64 ((rd_T129 t373 x16_1).f6))) w.heap.size (fun _ => True) u3 x3_1) := ⟨(kf (Kd.R_types HO_3.out BK377.out (by decide)))⟩
    have n1_ : Aside0 (Kd.R k129 129 (((((((w14.setCell ⟨gb377, 0, none⟩ (.int .i64 ((rd_T129 t373 x16_1).f0))).setCell ⟨gb377, 1, none⟩ (.int .i64 ((rd_T129 t373 x16_1).f1))).setCell ⟨gb377, 2, none⟩ (.int .i64 ((rd_T129 t373 x16_1).f2))).setCell ⟨gb377, 3, none⟩ (.int .i64 ((rd_T129 t373 x16_1).f3))).setCell ⟨gb377, 4, none⟩ (.int .i64 ((rd_T129 t373 x16_1).f4))).setCell ⟨gb377, 5, none⟩ (.int .i64 ((rd_T129 t373 x16_1).f5))).setCell ⟨gb377, 6, none⟩ (.int .i64 ((rd_T129 t373 x16_1).f6))) w.heap.size (fun k_ => k_ ≠ gb377) (.slice (some ad376) t373.length co8) t373) := ⟨(kf (Kd.R_mono HO_14.out (fun k_ hk => (⟨hk, hk.2⟩ : _ ∧ k_ ≠ gb377))) (m := fun _ hk => hk.1.2))⟩
    have n2_ : Aside0 ((((((((w14.setCell ⟨gb377, 0, none⟩ (.int .i64 ((rd_T129 t373 x16_1).f0))).setCell ⟨gb377, 1, none⟩ (.int .i64 ((rd_T129 t373 x16_1).f1))).setCell ⟨gb377, 2, none⟩ (.int .i64 ((rd_T129 t373 x16_1).f2))).setCell ⟨gb377, 3, none⟩ (.int .i64 ((rd_T129 t373 x16_1).f3))).setCell ⟨gb377, 4, none⟩ (.int .i64 ((rd_T129 t373 x16_1).f4))).setCell ⟨gb377, 5, none⟩ (.int .i64 ((rd_T129 t373 x16_1).f5))).setCell ⟨gb377, 6, none⟩ (.int .i64 ((rd_T129 t373 x16_1).f6))).heap[gb369]? = some (.cells #[.slice A0_0 l0_0.length c0_0, .int .i64 a0_1, .int .i64 a0_2, .int .i64 a0_3, .slice A0_4 l0_4.length c0_4, .bool a0_5, .slice A0_6 l0_6.length c0_6, .slice A0_7 l0_7.length c0_7, .slice A0_8 l0_8.length c0_8] 37 (0, 0))) := ⟨bk BK369.out⟩
    have n3_ : Aside0 ((((((((w14.setCell ⟨gb377, 0, none⟩ (.int .i64 ((rd_T129 t373 x16_1).f0))).setCell ⟨gb377, 1, none⟩ (.int .i64 ((rd_T129 t373 x16_1).f1))).setCell ⟨gb377, 2, none⟩ (.int .i64 ((rd_T129 t373 x16_1).f2))).setCell ⟨gb377, 3, none⟩ (.int .i64 ((rd_T129 t373 x16_1).f3))).setCell ⟨gb377, 4, none⟩ (.int .i64 ((rd_T129 t373 x16_1).f4))).setCell ⟨gb377, 5, none⟩ (.int .i64 ((rd_T129 t373 x16_1).f5))).setCell ⟨gb377, 6, none⟩ (.int .i64 ((rd_T129 t373 x16_1).f6))).heap[gb377]? = some (.cells #[.int .i64 ((rd_T129 t373 x16_1).f0), .int .i64 ((rd_T129 t373 x16_1).f1), .int .i64 ((rd_T129 t373 x16_1).f2), .int .i64 ((rd_T129 t373 x16_1).f3), .int .i64 ((rd_T129 t373 x16_1).f4), .int .i64 ((rd_T129 t373 x16_1).f5), .int .i64 ((rd_T129 t373 x16_1).f6)] 129 (0, 0))) := ⟨(bz BK377)⟩
    have n4_ : Aside0 (Below w.heap.size w (((((((w14.setCell ⟨gb377, 0, none⟩ (.int .i64 ((rd_T129 t373 x16_1).f0))).setCell ⟨gb377, 1, none⟩ (.int .i64 ((rd_T129 t373 x16_1).f1))).setCell ⟨gb377, 2, none⟩ (.int .i64 ((rd_T129 t373 x16_1).f2))).setCell ⟨gb377, 3, none⟩ (.int .i64 ((rd_T129 t373 x16_1).f3))).setCell ⟨gb377, 4, none⟩ (.int .i64 ((rd_T129 t373 x16_1).f4))).setCell ⟨gb377, 5, none⟩ (.int .i64 ((rd_T129 t373 x16_1).f5))).setCell ⟨gb377, 6, none⟩ (.int .i64 ((rd_T129 t373 x16_1).f6)))) := ⟨bel⟩
    (try clear HO_3)
    (try clear HO_14)
    (try clear BK369)
    (try clear BK377)
    (try clear HB)
    generalize (((((((w14.setCell ⟨gb377, 0, none⟩ (.int .i64 ((rd_T129 t373 x16_1).f0))).setCell ⟨gb377, 1, none⟩ (.int .i64 ((rd_T129 t373 x16_1).f1))).setCell ⟨gb377, 2, none⟩ (.int .i64 ((rd_T129 t373 x16_1).f2))).setCell ⟨gb377, 3, none⟩ (.int .i64 ((rd_T129 t373 x16_1).f3))).setCell ⟨gb377, 4, none⟩ (.int .i64 ((rd_T129 t373 x16_1).f4))).setCell ⟨gb377, 5, none⟩ (.int .i64 ((rd_T129 t373 x16_1).f5))).setCell ⟨gb377, 6, none⟩ (.int .i64 ((rd_T129 t373 x16_1).f6))) = w17 at n0_ n1_ n2_ n3_ n4_ ⊢
    have HO_3 := n0_
    have HO_14 := n1_
    have BK369 := n2_
    have BK377 := n3_
    have HB := n4_
    clear n0_ n1_ n2_ n3_ n4_
    replace HO_3 := am (Kd.R_drew HO_3.out)
    replace HO_14 := am (Kd.R_drew HO_14.out)
    replace BK369 := am (blk_drew BK369.out)
    replace BK377 := am (blk_drew BK377.out)
    replace HB := am (below_drew1 HB.out)
    have p378 : 0 ≤ (x16_1 : Int) := asm
    have q378 : x16_1 < (l0_8.length : Int) := asm
    obtain ⟨ad378, e378, hx378_0⟩ := Kd.at_int HR0_8.out x16_1 p378 q378
    have hw378_0 := hx378_0
    cases e378
    replace hx378_0 := hcl HB.out hx378_0
    replace p378 := eq_true p378
    replace q378 := eq_true q378
    refine start_ (n := 12) (S := fun w' => w'.cell? ⟨gb377, 0, none⟩ = some (.int .i64 ((rd_T129 t373 x16_1).f0)) ∧ w'.cell? ⟨gb377, 1, none⟩ = some (.int .i64 ((rd_T129 t373 x16_1).f1)) ∧ w'.cell? ⟨gb377, 2, none⟩ = some (.int .i64 ((rd_T129 t373 x16_1).f2)) ∧ w'.cell? ⟨gb377, 3, none⟩ = some (.int .i64 ((rd_T129 t373 x16_1).f3)) ∧ w'.cell? ⟨gb377, 4, none⟩ = some (.int .i64 ((rd_T129 t373 x16_1).f4)) ∧ w'.cell? ⟨gb377, 5, none⟩ = some (.int .i64 ((rd_T129 t373 x16_1).f5)) ∧ w'.cell? ⟨gb377, 6, none⟩ = some (.int .i64 ((rd_T129 t373 x16_1).f6)) ∧ w'.cell? ⟨gb369, 0, none⟩ = some (.slice A0_0 l0_0.length c0_0) ∧ w'.cell? ⟨gb369, 1, none⟩ = some (.int .i64 a0_1) ∧ w'.cell? ⟨gb369, 2, none⟩ = some (.int .i64 a0_2) ∧ w'.cell? ⟨gb369, 3, none⟩ = some (.int .i64 a0_3) ∧ w'.cell? ⟨gb369, 4, none⟩ = some (.slice A0_4 l0_4.length c0_4) ∧ w'.cell? ⟨gb369, 5, none⟩ = some (.bool a0_5) ∧ w'.cell? ⟨gb369, 6, none⟩ = some (.slice A0_6 l0_6.length c0_6) ∧ w'.cell? ⟨gb369, 7, none⟩ = some (.slice A0_7 l0_7.length c0_7) ∧ w'.cell? ⟨gb369, 8, none⟩ = some (.slice (some ad378) l0_8.length c0_8) ∧ w'.cell? (ad378.add (x16_1).toNat) = some (.int .i64 (rd l0_8 x16_1))) (ds := []) (lb 12 0) (by kernel_rfl) rfl rfl ⟨(blk_cell BK377.out 0).trans rfl, (blk_cell BK377.out 1).trans rfl, (blk_cell BK377.out 2).trans rfl, (blk_cell BK377.out 3).trans rfl, (blk_cell BK377.out 4).trans rfl, (blk_cell BK377.out 5).trans rfl, (blk_cell BK377.out 6).trans rfl, (blk_cell BK369.out 0).trans rfl, (blk_cell BK369.out 1).trans rfl, (blk_cell BK369.out 2).trans rfl, (blk_cell BK369.out 3).trans rfl, (blk_cell BK369.out 4).trans rfl, (blk_cell BK369.out 5).trans rfl, (blk_cell BK369.out 6).trans rfl, (blk_cell BK369.out 7).trans rfl, (blk_cell BK369.out 8).trans rfl, ((HB.out.cell (World.block_lt_of_cell? w _ hw378_0)).trans hw378_0)⟩ (fun hHeld => ?_); refine with_tabW spec_l18Points.tab5 spec_l18Points.bits5 (fun HT_ HW_ => ?_)
    generalize w17.drew = w18 at HO_3 HO_14 BK369 BK377 HB hx378_0 hHeld ⊢
    refine pu HT_ 0 21 (lb 12 1) ?_
    refine pu HT_ 1 22 (lb 12 3) ?_
    refine pu HT_ 3 24 (lb 12 11) ?_
    refine pu HT_ 5 26 (lb 12 43) ?_
    refine tk HT_ HW_ hHeld 2 23 (lb 12 47) ?_
    refine tk HT_ HW_ hHeld 4 25 (lb 12 63) ?_
    refine pu HT_ 6 27 (lb 12 127) ?_
    refine tk HT_ HW_ hHeld 7 28 (lb 12 255) ?_
    refine pu HT_ 8 29 (lb 12 511) ?_
    refine on HT_ 9 30 (lb 12 1023) fun K hK => ?_
    refine value_ (w1 := ?_) (v := ?_) (by rfl) rfl ?_ ?_
    rotate_left 2
    ·go_simp
     constructor
     ·rfl
     ·rfl
    refine hK.out _ _ ⟨(blk_cell (blk_alloc BK377.out _) 0).trans rfl, (blk_cell (blk_alloc BK377.out _) 1).trans rfl, (blk_cell (blk_alloc BK377.out _) 2).trans rfl, (blk_cell (blk_alloc BK377.out _) 3).trans rfl, (blk_cell (blk_alloc BK377.out _) 4).trans rfl, (blk_cell (blk_alloc BK377.out _) 5).trans rfl, (blk_cell (blk_alloc BK377.out _) 6).trans rfl, (blk_cell (blk_alloc BK369.out _) 0).trans rfl, (blk_cell (blk_alloc BK369.out _) 1).trans rfl, (blk_cell (blk_alloc BK369.out _) 2).trans rfl, (blk_cell (blk_alloc BK369.out _) 3).trans rfl, (blk_cell (blk_alloc BK369.out _) 4).trans rfl, (blk_cell (blk_alloc BK369.out _) 5).trans rfl, (blk_cell (blk_alloc BK369.out _) 6).trans rfl, (blk_cell (blk_alloc BK369.out _) 7).trans rfl, (blk_cell (blk_alloc BK369.out _) 8).trans rfl, (World.cell?_alloc_lt _ _ _ (World.block_lt_of_cell? _ _ (((HB.out.cell (World.block_lt_of_cell? w _ hw378_0)).trans hw378_0)))).trans (((HB.out.cell (World.block_lt_of_cell? w _ hw378_0)).trans hw378_0))⟩ (fun hHeld => ?_)
    clear hK K
    refine nm 30 ?_
    refine on HT_ 10 31 (lb 12 2047) fun K hK => ?_
    refine Kd.R_append_step (Kd.int .i64) (w0 := w) w.heap.size (by rfl) (.tmp 21) (.tmp 30) 23 3 (.int .i64 0) 8 rfl Try.underlying23 info3 rfl (by decide) (by omega) u3 x3_1 (wrap64 (((rd_T129 t373 x16_1).f6) - (rd l0_8 x16_1))) [.int .i64 (wrap64 (((rd_T129 t373 x16_1).f6) - (rd l0_8 x16_1)))] (fun _ => True) (fun _ => False) rfl rfl ?aP (fun _ hk => hk.elim) ?aF ?aO ?aB ?aS ?aL ?_
    (case aP => exact rfl)
    (case aB => exact bel)
    (case aF => exact (fun _ _ => trivial))
    (case aO => exact (rk HO_3.out))
    (case aS => exact (below_size bel))
    (case aL => have := LMc13.out; omega)
    intro v380 w19 ho hb hg hat
    rw [← Ny379.out] at ho
    have n0_ := am (Kd.R_over' (rk HO_14.out) (Kd.R_typed (rk HO_3.out)) (by decide) hg)
    have n1_ := am (blk_grown (g := gb369) (o := .cells #[.slice A0_0 l0_0.length c0_0, .int .i64 a0_1, .int .i64 a0_2, .int .i64 a0_3, .slice A0_4 l0_4.length c0_4, .bool a0_5, .slice A0_6 l0_6.length c0_6, .slice A0_7 l0_7.length c0_7, .slice (some ad378) l0_8.length c0_8] 37 (0, 0)) (bk BK369.out) hg (Kd.R_ne HO_3.out BK369.out (by decide)))
    have n2_ := am (blk_grown (g := gb377) (o := .cells #[.int .i64 ((rd_T129 t373 x16_1).f0), .int .i64 ((rd_T129 t373 x16_1).f1), .int .i64 ((rd_T129 t373 x16_1).f2), .int .i64 ((rd_T129 t373 x16_1).f3), .int .i64 ((rd_T129 t373 x16_1).f4), .int .i64 ((rd_T129 t373 x16_1).f5), .int .i64 ((rd_T129 t373 x16_1).f6)] 129 (0, 0)) (bk BK377.out) hg (Kd.R_ne HO_3.out BK377.out (by decide)))
    have n3_ := am (hb)
    have n4_ := am (ho)
    clear HO_14
    clear BK369
    clear BK377
    clear HB
    clear HO_3
    have HO_14 := n0_
    have BK369 := n1_
    have BK377 := n2_
    have HB := n3_
    have HO381 := n4_
    clear n0_ n1_ n2_ n3_ n4_
    clear ho hb hg hat
    refine hK.out _ _ ⟨(blk_cell BK377.out 0).trans rfl, (blk_cell BK377.out 1).trans rfl, (blk_cell BK377.out 2).trans rfl, (blk_cell BK377.out 3).trans rfl, (blk_cell BK377.out 4).trans rfl, (blk_cell BK377.out 5).trans rfl, (blk_cell BK377.out 6).trans rfl, (blk_cell BK369.out 0).trans rfl, (blk_cell BK369.out 1).trans rfl, (blk_cell BK369.out 2).trans rfl, (blk_cell BK369.out 3).trans rfl, (blk_cell BK369.out 4).trans rfl, (blk_cell BK369.out 5).trans rfl, (blk_cell BK369.out 6).trans rfl, (blk_cell BK369.out 7).trans rfl, (blk_cell BK369.out 8).trans rfl, ((HB.out.cell (World.block_lt_of_cell? w _ hw378_0)).trans hw378_0)⟩ (fun hHeld => ?_)
    clear hK K
    refine nm 31 ?_
    refine pu HT_ 11 3 (lb 12 4095) ?_
    refine done_ (done_of HT_.out (by kernel_rfl)) ?_
    try go_wp2
    go_roundg k1
    case measure => have := HK1.out; omega
    case rel => exact ⟨(y379), (wrap64 (x16_1 + 1)), (es), H', ⟨by have := HK1.out; omega⟩, ⟨rk HO381.out⟩, ⟨by (with_reducible repeat (first | apply Kd.R_alloc | apply Kd.R_drewN | apply Kd.R_drew)); exact Kd.R_mono HO_14.out (fun _ hk => trivial)⟩, ⟨bk BK369.out⟩, ⟨bel⟩⟩
   ·obtain rfl := Option.some.inj H
    go_wp2
    go_ret
    exact ⟨_, er, rk HO_3.out, bel⟩
def spec_l18Best.l0 : Nat → Int → Int → List (S71) → Int → Int → Option (Int)
  | 0, _, _, _, _, _ => none
  | k + 1, x1, x5, x14, x15, x16 => if x16 < x15 then (if 0 ≤ x16 then (if x16 < (x14.length : Int) then ((spec_IsOpen.f ((rd_T71 x14 x16).f0) ((rd_T71 x14 x16).f1) ((rd_T71 x14 x16).f2) ((rd_T71 x14 x16).f3) ((rd_T71 x14 x16).f4)).bind fun t389 => (if t389 = true then (if ((rd_T71 x14 x16).f0) = x1 then (spec_l18Best.l0 k x1 (wrap64 (x5 + 2)) x14 x15 (wrap64 (x16 + 1))) else (if ((rd_T71 x14 x16).f1) = x1 then (spec_l18Best.l0 k x1 (wrap64 (x5 + 2)) x14 x15 (wrap64 (x16 + 1))) else (spec_l18Best.l0 k x1 x5 x14 x15 (wrap64 (x16 + 1))))) else (spec_l18Best.l0 k x1 x5 x14 x15 (wrap64 (x16 + 1))))) else (none)) else (none)) else (some x5)
def spec_l18Best.f (k : Nat) (l0_0 : List (S101)) (a0_1 : Int) (a0_2 : Int) (a0_3 : Int) (l0_4 : List Int) (a0_5 : Bool) (l0_6 : List (S71)) (l0_7 : List Int) (l0_8 : List Int) (a1 : Int) : Option (Int) := (spec_l18Points.f k l0_0 a0_1 a0_2 a0_3 l0_4 a0_5 l0_6 l0_7 l0_8).bind fun t383 => (if 0 ≤ a1 then (if a1 < (t383.length : Int) then (spec_l18Best.l0 k a1 (rd t383 a1) l0_6 (l0_6.length : Int) 0) else (none)) else (none))
theorem spec_l18Best.calls (k : Nat) (A0_0 : Option Addr) (c0_0 : Nat) (l0_0 : List (S101)) (a0_1 : Int) (a0_2 : Int) (a0_3 : Int) (A0_4 : Option Addr) (c0_4 : Nat) (l0_4 : List Int) (a0_5 : Bool) (A0_6 : Option Addr) (c0_6 : Nat) (l0_6 : List (S71)) (A0_7 : Option Addr) (c0_7 : Nat) (l0_7 : List Int) (A0_8 : Option Addr) (c0_8 : Nat) (l0_8 : List Int) (a1 : Int) (r : Int) (w : World) (hr0_0 : Kd.C k101 w A0_0 l0_0.length l0_0) (hc0_0 : l0_0.length ≤ c0_0) (hr0_4 : Kd.C (Kd.int .i64) w A0_4 l0_4.length l0_4) (hc0_4 : l0_4.length ≤ c0_4) (hr0_6 : Kd.C k71 w A0_6 l0_6.length l0_6) (hc0_6 : l0_6.length ≤ c0_6) (hr0_7 : Kd.C (Kd.int .i64) w A0_7 l0_7.length l0_7) (hc0_7 : l0_7.length ≤ c0_7) (hr0_8 : Kd.C (Kd.int .i64) w A0_8 l0_8.length l0_8) (hc0_8 : l0_8.length ≤ c0_8) (h : spec_l18Best.f k l0_0 a0_1 a0_2 a0_3 l0_4 a0_5 l0_6 l0_7 l0_8 a1 = some r) : Calls Try.prog 77 #[.agg #[.slice A0_0 l0_0.length c0_0, .int .i64 a0_1, .int .i64 a0_2, .int .i64 a0_3, .slice A0_4 l0_4.length c0_4, .bool a0_5, .slice A0_6 l0_6.length c0_6, .slice A0_7 l0_7.length c0_7, .slice A0_8 l0_8.length c0_8], .int .i64 a1] w fun e w' => e = .returned (.int .i64 r) ∧ Below w.heap.size w w' := by
 have hu37 := Try.underlying37
 have hu71 := Try.underlying71
 have HR0_0 := am hr0_0
 have HC0_0 := am hc0_0
 clear hr0_0 hc0_0
 have HR0_4 := am hr0_4
 have HC0_4 := am hc0_4
 clear hr0_4 hc0_4
 have HR0_6 := am hr0_6
 have HC0_6 := am hc0_6
 clear hr0_6 hc0_6
 have HR0_7 := am hr0_7
 have HC0_7 := am hc0_7
 clear hr0_7 hc0_7
 have HR0_8 := am hr0_8
 have HC0_8 := am hc0_8
 clear hr0_8 hc0_8
 have HB := am (Below.refl w.heap.size w)
 have H : ((spec_l18Points.f k l0_0 a0_1 a0_2 a0_3 l0_4 a0_5 l0_6 l0_7 l0_8).bind fun t383 => (if 0 ≤ a1 then (if a1 < (t383.length : Int) then (spec_l18Best.l0 k a1 (rd t383 a1) l0_6 (l0_6.length : Int) 0) else (none)) else (none))) = some r := h
 clear h
 replace H := bm H; obtain ⟨t383, A3, H⟩ := H
 by_cases c4 : 0 ≤ a1
 ·rw [if_pos c4] at H
  have c4b0 : decide (0 ≤ a1) = true := decide_eq_true c4
  clear c4
  replace H := i0 H; obtain ⟨c5b0, H⟩ := H
  have H' := am H
  clear H
  go_enter Try.func77, Try.ntmps77
  go_wp2_with (first | ((with_reducible refine gd 2 ?_); refine bx w 2 #[.slice A0_0 l0_0.length c0_0, .int .i64 a0_1, .int .i64 a0_2, .int .i64 a0_3, .slice A0_4 l0_4.length c0_4, .bool a0_5, .slice A0_6 l0_6.length c0_6, .slice A0_7 l0_7.length c0_7, .slice A0_8 l0_8.length c0_8] 37 ?_; clear HB; intro gb382 w6 BK382 GE382 HB; obtain ⟨hcz7_0, hcz7_1, hcz7_2, hcz7_3, hcz7_4, hcz7_5, hcz7_6, hcz7_7, hcz7_8, hfz7_0, hfz7_1, hfz7_2, hfz7_3, hfz7_4, hfz7_5, hfz7_6, hfz7_7, hfz7_8⟩ := cf9 BK382.out) | ((with_reducible refine gc 108 ?_); refine gl 9 Try.func108 (spec_l18Points.calls k _ _ l0_0 a0_1 a0_2 a0_3 _ _ l0_4 a0_5 _ _ l0_6 _ _ l0_7 _ _ l0_8 t383 _ (cb HR0_0 HB) HC0_0.out (cb HR0_4 HB) HC0_4.out (cb HR0_6 HB) HC0_6.out (cb HR0_7 HB) HC0_7.out (cb HR0_8 HB) HC0_8.out A3.out) ?_; rintro e w8 ⟨v384, rfl, ho0, hb⟩; refine ⟨_, rfl, ?_⟩; have HO385 := am (Kd.R_lower ho0 (below_size bel)); replace BK382 := b1 BK382 hb; replace HB := b2 hb; clear hb; (try clear ho0); obtain ⟨Ao9, co9, eo9⟩ := Kd.R_slice HO385.out; subst eo9; have p386 : 0 ≤ (a1 : Int) := asm; have q386 : a1 < (t383.length : Int) := asm; obtain ⟨ad386, e386, hx386_0⟩ := Kd.at_int (Kd.R_reads' HO385.out).2.2 a1 p386 q386; cases e386; replace p386 := eq_true p386; replace q386 := eq_true q386; obtain ⟨hcz10_0, hcz10_1, hcz10_2, hcz10_3, hcz10_4, hcz10_5, hcz10_6, hcz10_7, hcz10_8, hfz10_0, hfz10_1, hfz10_2, hfz10_3, hfz10_4, hfz10_5, hfz10_6, hfz10_7, hfz10_8⟩ := cf9 BK382.out))
  go_loopg [5, 16] k (fun kq v5 v16 w' => ∃ (x5_1 : Int) (x16_1 : Int), v5 = .int .i64 x5_1 ∧ v16 = .int .i64 x16_1 ∧ Aside0 (spec_l18Best.l0 kq a1 x5_1 l0_6 (l0_6.length : Int) x16_1 = some r) ∧ Aside0 (kq ≤ k) ∧ Aside0 (w'.heap[gb382]? = some (.cells #[(.slice A0_0 l0_0.length c0_0), .int .i64 a0_1, .int .i64 a0_2, .int .i64 a0_3, (.slice A0_4 l0_4.length c0_4), .bool a0_5, (.slice A0_6 l0_6.length c0_6), (.slice A0_7 l0_7.length c0_7), (.slice A0_8 l0_8.length c0_8)] 37 (0, 0))) ∧ Aside0 (Below w.heap.size w w'))
  case atStart => exact ⟨(rd t383 a1), (0), (es), (es), H', ⟨Nat.le_refl _⟩, ⟨bk BK382.out⟩, ⟨bel⟩⟩
  case round =>
   clear H'
   try clear c4; try clear c4b0; try clear c5; try clear c5b0; try clear hcz10_0; try clear hcz10_1; try clear hcz10_2; try clear hcz10_3; try clear hcz10_4; try clear hcz10_5; try clear hcz10_6; try clear hcz10_7; try clear hcz10_8; try clear hcz7_0; try clear hcz7_1; try clear hcz7_2; try clear hcz7_3; try clear hcz7_4; try clear hcz7_5; try clear hcz7_6; try clear hcz7_7; try clear hcz7_8; try clear hfz10_0; try clear hfz10_1; try clear hfz10_2; try clear hfz10_3; try clear hfz10_4; try clear hfz10_5; try clear hfz10_6; try clear hfz10_7; try clear hfz10_8; try clear hfz7_0; try clear hfz7_1; try clear hfz7_2; try clear hfz7_3; try clear hfz7_4; try clear hfz7_5; try clear hfz7_6; try clear hfz7_7; try clear hfz7_8; try clear hx386_0; try clear p386; try clear q386
   obtain ⟨x5_1, x16_1, rfl, rfl, HA, HK1, BK382, HB⟩ := hrel
   cases gk with
   | zero => exact absurd HA.out (by simp [spec_l18Best.l0])
   | succ k1 =>
    have H := HA.out
    clear HA
    simp only [spec_l18Best.l0] at H
    replace H := i1 H; obtain ⟨c11b0, H⟩ | ⟨c11b0, H⟩ := H
    ·replace H := i0 H; obtain ⟨c12b0, H⟩ := H
     replace H := i0 H; obtain ⟨c13b0, H⟩ := H
     replace H := bm H; obtain ⟨t389, A14, H⟩ := H
     replace H := ib H; obtain ⟨rfl, H⟩ | ⟨rfl, H⟩ := H
     ·replace H := ie H; obtain ⟨c16b0, c16b1, H⟩ | ⟨⟨c16, c16b0, c16b1⟩, H⟩ := H
      ·have H' := am H
       clear H
       have p387 : 0 ≤ (x16_1 : Int) := asm
       have q387 : x16_1 < (l0_6.length : Int) := asm
       obtain ⟨ad387, e387, hx387_0, hx387_1, hx387_2, hx387_3, hx387_4⟩ := hc5 HB.out (at_T71 HR0_6.out x16_1 p387 q387)
       cases e387
       replace p387 := eq_true p387
       replace q387 := eq_true q387
       go_wp2_with (first | ((with_reducible refine gd 7 ?_); refine by_ w 7 #[.int .i64 0, .int .i64 0, .int .i64 0, .int .i64 0, .int .i64 0] 71 ?_; clear HB; intro gb388 hg w17 BK388 GE388 hb HB; have NB382_388 := am ((nlt hg BK382.out : gb382 ≠ gb388)); have NB388_382 := am ((ngt hg BK382.out : gb388 ≠ gb382)); replace BK382 := b1 BK382 hb; clear hb hg; have hnb18 := NB388_382.out; have hnc18 := NB382_388.out; obtain ⟨_, _, _, _, _, _, _, _, _, _⟩ := cf5 BK388.out) | ((with_reducible refine gc 61 ?_); refine gl2 21 Try.func61 (spec_IsOpen.calls ((rd_T71 l0_6 x16_1).f0) ((rd_T71 l0_6 x16_1).f1) ((rd_T71 l0_6 x16_1).f2) ((rd_T71 l0_6 x16_1).f3) ((rd_T71 l0_6 x16_1).f4) true _ A14.out) ?_; intro w20 hb; replace BK382 := b1 BK382 hb; replace BK388 := bq BK388 hb; replace HB := b2 hb; clear hb; obtain ⟨_, _, _, _, _, _, _, _, _, _⟩ := cf5 BK388.out))
       go_roundg k1
       case measure => have := HK1.out; omega
       case rel => exact ⟨(wrap64 (x5_1 + 2)), (wrap64 (x16_1 + 1)), (es), (es), H', ⟨by have := HK1.out; omega⟩, ⟨bk BK382.out⟩, ⟨bel⟩⟩
      ·replace H := ie H; obtain ⟨c22b0, c22b1, H⟩ | ⟨⟨c22, c22b0, c22b1⟩, H⟩ := H
       ·have H' := am H
        clear H
        have p387 : 0 ≤ (x16_1 : Int) := asm
        have q387 : x16_1 < (l0_6.length : Int) := asm
        obtain ⟨ad387, e387, hx387_0, hx387_1, hx387_2, hx387_3, hx387_4⟩ := hc5 HB.out (at_T71 HR0_6.out x16_1 p387 q387)
        cases e387
        replace p387 := eq_true p387
        replace q387 := eq_true q387
        go_wp2_with (first | ((with_reducible refine gd 7 ?_); refine by_ w 7 #[.int .i64 0, .int .i64 0, .int .i64 0, .int .i64 0, .int .i64 0] 71 ?_; clear HB; intro gb388 hg w23 BK388 GE388 hb HB; have NB382_388 := am ((nlt hg BK382.out : gb382 ≠ gb388)); have NB388_382 := am ((ngt hg BK382.out : gb388 ≠ gb382)); replace BK382 := b1 BK382 hb; clear hb hg; have hnb24 := NB388_382.out; have hnc24 := NB382_388.out; obtain ⟨_, _, _, _, _, _, _, _, _, _⟩ := cf5 BK388.out) | ((with_reducible refine gc 61 ?_); refine gl2 21 Try.func61 (spec_IsOpen.calls ((rd_T71 l0_6 x16_1).f0) ((rd_T71 l0_6 x16_1).f1) ((rd_T71 l0_6 x16_1).f2) ((rd_T71 l0_6 x16_1).f3) ((rd_T71 l0_6 x16_1).f4) true _ A14.out) ?_; intro w26 hb; replace BK382 := b1 BK382 hb; replace BK388 := bq BK388 hb; replace HB := b2 hb; clear hb; obtain ⟨_, _, _, _, _, _, _, _, _, _⟩ := cf5 BK388.out))
        go_roundg k1
        case measure => have := HK1.out; omega
        case rel => exact ⟨(wrap64 (x5_1 + 2)), (wrap64 (x16_1 + 1)), (es), (es), H', ⟨by have := HK1.out; omega⟩, ⟨bk BK382.out⟩, ⟨bel⟩⟩
       ·have H' := am H
        clear H
        have p387 : 0 ≤ (x16_1 : Int) := asm
        have q387 : x16_1 < (l0_6.length : Int) := asm
        obtain ⟨ad387, e387, hx387_0, hx387_1, hx387_2, hx387_3, hx387_4⟩ := hc5 HB.out (at_T71 HR0_6.out x16_1 p387 q387)
        cases e387
        replace p387 := eq_true p387
        replace q387 := eq_true q387
        go_wp2_with (first | ((with_reducible refine gd 7 ?_); refine by_ w 7 #[.int .i64 0, .int .i64 0, .int .i64 0, .int .i64 0, .int .i64 0] 71 ?_; clear HB; intro gb388 hg w28 BK388 GE388 hb HB; have NB382_388 := am ((nlt hg BK382.out : gb382 ≠ gb388)); have NB388_382 := am ((ngt hg BK382.out : gb388 ≠ gb382)); replace BK382 := b1 BK382 hb; clear hb hg; have hnb29 := NB388_382.out; have hnc29 := NB382_388.out; obtain ⟨_, _, _, _, _, _, _, _, _, _⟩ := cf5 BK388.out) | ((with_reducible refine gc 61 ?_); refine gl2 21 Try.func61 (spec_IsOpen.calls ((rd_T71 l0_6 x16_1).f0) ((rd_T71 l0_6 x16_1).f1) ((rd_T71 l0_6 x16_1).f2) ((rd_T71 l0_6 x16_1).f3) ((rd_T71 l0_6 x16_1).f4) true _ A14.out) ?_; intro w31 hb; replace BK382 := b1 BK382 hb; replace BK388 := bq BK388 hb; replace HB := b2 hb; clear hb; obtain ⟨_, _, _, _, _, _, _, _, _, _⟩ := cf5 BK388.out))
        go_roundg k1
        case measure => have := HK1.out; omega
        case rel => exact ⟨(x5_1), (wrap64 (x16_1 + 1)), (es), (es), H', ⟨by have := HK1.out; omega⟩, ⟨bk BK382.out⟩, ⟨bel⟩⟩
     ·have H' := am H
      clear H
      have p387 : 0 ≤ (x16_1 : Int) := asm
      have q387 : x16_1 < (l0_6.length : Int) := asm
      obtain ⟨ad387, e387, hx387_0, hx387_1, hx387_2, hx387_3, hx387_4⟩ := hc5 HB.out (at_T71 HR0_6.out x16_1 p387 q387)
      cases e387
      replace p387 := eq_true p387
      replace q387 := eq_true q387
      go_wp2_with (first | ((with_reducible refine gd 7 ?_); refine by_ w 7 #[.int .i64 0, .int .i64 0, .int .i64 0, .int .i64 0, .int .i64 0] 71 ?_; clear HB; intro gb388 hg w33 BK388 GE388 hb HB; have NB382_388 := am ((nlt hg BK382.out : gb382 ≠ gb388)); have NB388_382 := am ((ngt hg BK382.out : gb388 ≠ gb382)); replace BK382 := b1 BK382 hb; clear hb hg; have hnb34 := NB388_382.out; have hnc34 := NB382_388.out; obtain ⟨_, _, _, _, _, _, _, _, _, _⟩ := cf5 BK388.out) | ((with_reducible refine gc 61 ?_); refine gl2 21 Try.func61 (spec_IsOpen.calls ((rd_T71 l0_6 x16_1).f0) ((rd_T71 l0_6 x16_1).f1) ((rd_T71 l0_6 x16_1).f2) ((rd_T71 l0_6 x16_1).f3) ((rd_T71 l0_6 x16_1).f4) false _ A14.out) ?_; intro w36 hb; replace BK382 := b1 BK382 hb; replace BK388 := bq BK388 hb; replace HB := b2 hb; clear hb))
      go_roundg k1
      case measure => have := HK1.out; omega
      case rel => exact ⟨(x5_1), (wrap64 (x16_1 + 1)), (es), (es), H', ⟨by have := HK1.out; omega⟩, ⟨bk BK382.out⟩, ⟨bel⟩⟩
    ·obtain rfl := Option.some.inj H
     go_wp2
     go_ret
     exact ⟨er, bel⟩
 ·rw [if_neg c4] at H
  exact absurd H (by simp)
end Go.Proofs.Ytgalpgakdcfilaa.Q
