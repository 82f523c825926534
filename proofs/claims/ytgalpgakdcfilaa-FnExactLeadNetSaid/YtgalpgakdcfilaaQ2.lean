-- Written by a program of this session (wip/xp.py).
import Derived.Test.YtgalpgakdcfilaaQ0
namespace Go.Proofs.Ytgalpgakdcfilaa.Q
open Go.RowKit Go.Proofs.YtgalpgakdcfilaaW.PrintWords Go.Proofs.YtgalpgakdcfilaaW.PrintLast Go.Proofs.YtgalpgakdcfilaaW.PrintMore
attribute [local go_sem] max2_int min2_int max_two min_two max_three min_three max_four min_four   -- for this text's walks alone
set_option linter.unusedVariables false
set_option linter.unusedSimpArgs false
set_option maxHeartbeats 8000000
set_option maxRecDepth 100000

def laws_szBook.f (k : Nat) (l0_0 : List (S97)) (a0_1 : Int) (a0_2 : Int) (a0_3 : Int) (l0_4 : List Int) (a0_5 : Bool) (l0_6 : List (S104)) (l0_7 : List Int) (l0_8 : List Int) (a1 : Int) : Option (Int) := (laws_szTeamS.f k l0_0 a1).bind fun t107 => (if t107 < 0 then (some (-1)) else ((laws_szRules.f a0_1 a0_2 a0_3 l0_4 a0_5 t107).bind fun t108 => (if t108 < 0 then (some (-1)) else ((laws_szGameS.f l0_6 t108).bind fun t109 => (if t109 < 0 then (some (-1)) else ((laws_szIntS.f l0_7 t109).bind fun t110 => (if t110 < 0 then (some (-1)) else ((laws_szIntS.f l0_8 t110).bind fun t111 => (if t111 < 0 then (some (-1)) else (some t111))))))))))
theorem laws_szBook.calls (k : Nat) (A0_0 : Option Addr) (c0_0 : Nat) (l0_0 : List (S97)) (a0_1 : Int) (a0_2 : Int) (a0_3 : Int) (A0_4 : Option Addr) (c0_4 : Nat) (l0_4 : List Int) (a0_5 : Bool) (A0_6 : Option Addr) (c0_6 : Nat) (l0_6 : List (S104)) (A0_7 : Option Addr) (c0_7 : Nat) (l0_7 : List Int) (A0_8 : Option Addr) (c0_8 : Nat) (l0_8 : List Int) (a1 : Int) (r : Int) (w : World) (hr0_0 : Kd.C k97 w A0_0 l0_0.length l0_0) (hc0_0 : l0_0.length ≤ c0_0) (hr0_4 : Kd.C (Kd.int .i64) w A0_4 l0_4.length l0_4) (hc0_4 : l0_4.length ≤ c0_4) (hr0_6 : Kd.C k104 w A0_6 l0_6.length l0_6) (hc0_6 : l0_6.length ≤ c0_6) (hr0_7 : Kd.C (Kd.int .i64) w A0_7 l0_7.length l0_7) (hc0_7 : l0_7.length ≤ c0_7) (hr0_8 : Kd.C (Kd.int .i64) w A0_8 l0_8.length l0_8) (hc0_8 : l0_8.length ≤ c0_8) (h : laws_szBook.f k l0_0 a0_1 a0_2 a0_3 l0_4 a0_5 l0_6 l0_7 l0_8 a1 = some r) : Calls Try.prog 13 #[.agg #[.slice A0_0 l0_0.length c0_0, .int .i64 a0_1, .int .i64 a0_2, .int .i64 a0_3, .slice A0_4 l0_4.length c0_4, .bool a0_5, .slice A0_6 l0_6.length c0_6, .slice A0_7 l0_7.length c0_7, .slice A0_8 l0_8.length c0_8], .int .i64 a1] w fun e w' => e = .returned (.int .i64 r) ∧ Below w.heap.size w w' := by
 have hu28 := Try.underlying28
 have hu25 := Try.underlying25
 have HR0_0 := am hr0_0
 have HC0_0 := am hc0_0
 clear hr0_0 hc0_0
 have HR0_4 := am hr0_4
 have HC0_4 := am hc0_4
 clear hr0_4 hc0_4
 have HR0_6 := am hr0_6
 have HC0_6 := am hc0_6
 clear hr0_6 hc0_6
 have HR0_7 := am hr0_7
 have HC0_7 := am hc0_7
 clear hr0_7 hc0_7
 have HR0_8 := am hr0_8
 have HC0_8 := am hc0_8
 clear hr0_8 hc0_8
 have HB := am (Below.refl w.heap.size w)
 have H : ((laws_szTeamS.f k l0_0 a1).bind fun t107 => (if t107 < 0 then (some (-1)) else ((laws_szRules.f a0_1 a0_2 a0_3 l0_4 a0_5 t107).bind fun t108 => (if t108 < 0 then (some (-1)) else ((laws_szGameS.f l0_6 t108).bind fun t109 => (if t109 < 0 then (some (-1)) else ((laws_szIntS.f l0_7 t109).bind fun t110 => (if t110 < 0 then (some (-1)) else ((laws_szIntS.f l0_8 t110).bind fun t111 => (if t111 < 0 then (some (-1)) else (some t111))))))))))) = some r := h
 clear h
 replace H := bm H; obtain ⟨t107, A3, H⟩ := H
 replace H := i1 H; obtain ⟨c4b0, H⟩ | ⟨c4b0, H⟩ := H
 ·obtain rfl := Option.some.inj H
  go_enter Try.func13, Try.ntmps13
  go_wp2_with (first | ((with_reducible refine gd 2 ?_); refine bx w 2 #[.slice A0_0 l0_0.length c0_0, .int .i64 a0_1, .int .i64 a0_2, .int .i64 a0_3, .slice A0_4 l0_4.length c0_4, .bool a0_5, .slice A0_6 l0_6.length c0_6, .slice A0_7 l0_7.length c0_7, .slice A0_8 l0_8.length c0_8] 28 ?_; clear HB; intro gb106 w5 BK106 GE106 HB; obtain ⟨_, _, _, _, _, _, _, _, _, _, _, _, _, _, _, _, _, _⟩ := cf9 BK106.out) | ((with_reducible refine gc 45 ?_); refine gl2 8 Try.func45 (laws_szTeamS.calls k _ _ l0_0 a1 t107 _ (cb HR0_0 HB) HC0_0.out A3.out) ?_; intro w7 hb; replace BK106 := b1 BK106 hb; replace HB := b2 hb; clear hb))
  go_ret
  exact ⟨er, bel⟩
 ·replace H := bm H; obtain ⟨t108, A8, H⟩ := H
  replace H := i1 H; obtain ⟨c9b0, H⟩ | ⟨c9b0, H⟩ := H
  ·obtain rfl := Option.some.inj H
   go_enter Try.func13, Try.ntmps13
   go_wp2_with (first | ((with_reducible refine gd 2 ?_); refine bx w 2 #[.slice A0_0 l0_0.length c0_0, .int .i64 a0_1, .int .i64 a0_2, .int .i64 a0_3, .slice A0_4 l0_4.length c0_4, .bool a0_5, .slice A0_6 l0_6.length c0_6, .slice A0_7 l0_7.length c0_7, .slice A0_8 l0_8.length c0_8] 28 ?_; clear HB; intro gb106 w10 BK106 GE106 HB; obtain ⟨_, _, _, _, _, _, _, _, _, _, _, _, _, _, _, _, _, _⟩ := cf9 BK106.out) | ((with_reducible refine gc 45 ?_); refine gl2 8 Try.func45 (laws_szTeamS.calls k _ _ l0_0 a1 t107 _ (cb HR0_0 HB) HC0_0.out A3.out) ?_; intro w12 hb; replace BK106 := b1 BK106 hb; replace HB := b2 hb; clear hb; obtain ⟨_, _, _, _, _, _, _, _, _, _, _, _, _, _, _, _, _, _⟩ := cf9 BK106.out) | ((with_reducible refine gc 46 ?_); refine gl2 14 Try.func46 (laws_szRules.calls a0_1 a0_2 a0_3 _ _ l0_4 a0_5 t107 t108 _ (cb HR0_4 HB) HC0_4.out A8.out) ?_; intro w14 hb; replace BK106 := b1 BK106 hb; replace HB := b2 hb; clear hb))
   go_ret
   exact ⟨er, bel⟩
  ·replace H := bm H; obtain ⟨t109, A15, H⟩ := H
   replace H := i1 H; obtain ⟨c16b0, H⟩ | ⟨c16b0, H⟩ := H
   ·obtain rfl := Option.some.inj H
    go_enter Try.func13, Try.ntmps13
    go_wp2_with (first | ((with_reducible refine gd 2 ?_); refine bx w 2 #[.slice A0_0 l0_0.length c0_0, .int .i64 a0_1, .int .i64 a0_2, .int .i64 a0_3, .slice A0_4 l0_4.length c0_4, .bool a0_5, .slice A0_6 l0_6.length c0_6, .slice A0_7 l0_7.length c0_7, .slice A0_8 l0_8.length c0_8] 28 ?_; clear HB; intro gb106 w17 BK106 GE106 HB; obtain ⟨_, _, _, _, _, _, _, _, _, _, _, _, _, _, _, _, _, _⟩ := cf9 BK106.out) | ((with_reducible refine gc 45 ?_); refine gl2 8 Try.func45 (laws_szTeamS.calls k _ _ l0_0 a1 t107 _ (cb HR0_0 HB) HC0_0.out A3.out) ?_; intro w19 hb; replace BK106 := b1 BK106 hb; replace HB := b2 hb; clear hb; obtain ⟨_, _, _, _, _, _, _, _, _, _, _, _, _, _, _, _, _, _⟩ := cf9 BK106.out) | ((with_reducible refine gc 46 ?_); refine gl2 14 Try.func46 (laws_szRules.calls a0_1 a0_2 a0_3 _ _ l0_4 a0_5 t107 t108 _ (cb HR0_4 HB) HC0_4.out A8.out) ?_; intro w21 hb; replace BK106 := b1 BK106 hb; replace HB := b2 hb; clear hb; obtain ⟨_, _, _, _, _, _, _, _, _, _, _, _, _, _, _, _, _, _⟩ := cf9 BK106.out) | ((with_reducible refine gc 47 ?_); refine gl1 20 Try.func47 (laws_szGameS.calls _ _ l0_6 t108 t109 _ (cb HR0_6 HB) HC0_6.out A15.out) ?_; intro nd))
    go_ret
    exact ⟨er, bel⟩
   ·replace H := bm H; obtain ⟨t110, A23, H⟩ := H
    replace H := i1 H; obtain ⟨c24b0, H⟩ | ⟨c24b0, H⟩ := H
    ·obtain rfl := Option.some.inj H
     go_enter Try.func13, Try.ntmps13
     go_wp2_with (first | ((with_reducible refine gd 2 ?_); refine bx w 2 #[.slice A0_0 l0_0.length c0_0, .int .i64 a0_1, .int .i64 a0_2, .int .i64 a0_3, .slice A0_4 l0_4.length c0_4, .bool a0_5, .slice A0_6 l0_6.length c0_6, .slice A0_7 l0_7.length c0_7, .slice A0_8 l0_8.length c0_8] 28 ?_; clear HB; intro gb106 w25 BK106 GE106 HB; obtain ⟨_, _, _, _, _, _, _, _, _, _, _, _, _, _, _, _, _, _⟩ := cf9 BK106.out) | ((with_reducible refine gc 45 ?_); refine gl2 8 Try.func45 (laws_szTeamS.calls k _ _ l0_0 a1 t107 _ (cb HR0_0 HB) HC0_0.out A3.out) ?_; intro w27 hb; replace BK106 := b1 BK106 hb; replace HB := b2 hb; clear hb; obtain ⟨_, _, _, _, _, _, _, _, _, _, _, _, _, _, _, _, _, _⟩ := cf9 BK106.out) | ((with_reducible refine gc 46 ?_); refine gl2 14 Try.func46 (laws_szRules.calls a0_1 a0_2 a0_3 _ _ l0_4 a0_5 t107 t108 _ (cb HR0_4 HB) HC0_4.out A8.out) ?_; intro w29 hb; replace BK106 := b1 BK106 hb; replace HB := b2 hb; clear hb; obtain ⟨_, _, _, _, _, _, _, _, _, _, _, _, _, _, _, _, _, _⟩ := cf9 BK106.out) | ((with_reducible refine gc 47 ?_); refine gl1 20 Try.func47 (laws_szGameS.calls _ _ l0_6 t108 t109 _ (cb HR0_6 HB) HC0_6.out A15.out) ?_; intro nd) | ((with_reducible refine gc 48 ?_); refine gl1 26 Try.func48 (laws_szIntS.calls _ _ l0_7 t109 t110 _ (ck (Kd.C_below HR0_7.out bel)) HC0_7.out A23.out) ?_; intro nd))
     go_ret
     exact ⟨er, bel⟩
    ·replace H := bm H; obtain ⟨t111, A31, H⟩ := H
     replace H := i1 H; obtain ⟨c32b0, H⟩ | ⟨c32b0, H⟩ := H
     ·obtain rfl := Option.some.inj H
      go_enter Try.func13, Try.ntmps13
      go_wp2_with (first | ((with_reducible refine gd 2 ?_); refine bx w 2 #[.slice A0_0 l0_0.length c0_0, .int .i64 a0_1, .int .i64 a0_2, .int .i64 a0_3, .slice A0_4 l0_4.length c0_4, .bool a0_5, .slice A0_6 l0_6.length c0_6, .slice A0_7 l0_7.length c0_7, .slice A0_8 l0_8.length c0_8] 28 ?_; clear HB; intro gb106 w33 BK106 GE106 HB; obtain ⟨_, _, _, _, _, _, _, _, _, _, _, _, _, _, _, _, _, _⟩ := cf9 BK106.out) | ((with_reducible refine gc 45 ?_); refine gl2 8 Try.func45 (laws_szTeamS.calls k _ _ l0_0 a1 t107 _ (cb HR0_0 HB) HC0_0.out A3.out) ?_; intro w35 hb; replace BK106 := b1 BK106 hb; replace HB := b2 hb; clear hb; obtain ⟨_, _, _, _, _, _, _, _, _, _, _, _, _, _, _, _, _, _⟩ := cf9 BK106.out) | ((with_reducible refine gc 46 ?_); refine gl2 14 Try.func46 (laws_szRules.calls a0_1 a0_2 a0_3 _ _ l0_4 a0_5 t107 t108 _ (cb HR0_4 HB) HC0_4.out A8.out) ?_; intro w37 hb; replace BK106 := b1 BK106 hb; replace HB := b2 hb; clear hb; obtain ⟨_, _, _, _, _, _, _, _, _, _, _, _, _, _, _, _, _, _⟩ := cf9 BK106.out) | ((with_reducible refine gc 47 ?_); refine gl1 20 Try.func47 (laws_szGameS.calls _ _ l0_6 t108 t109 _ (cb HR0_6 HB) HC0_6.out A15.out) ?_; intro nd) | ((with_reducible refine gc 48 ?_); refine gl1 26 Try.func48 (laws_szIntS.calls _ _ l0_7 t109 t110 _ (ck (Kd.C_below HR0_7.out bel)) HC0_7.out A23.out) ?_; intro nd) | ((with_reducible refine gc 48 ?_); refine gl1 32 Try.func48 (laws_szIntS.calls _ _ l0_8 t110 t111 _ (ck (Kd.C_below HR0_8.out bel)) HC0_8.out A31.out) ?_; intro nd))
      go_ret
      exact ⟨er, bel⟩
     ·obtain rfl := Option.some.inj H
      go_enter Try.func13, Try.ntmps13
      go_wp2_with (first | ((with_reducible refine gd 2 ?_); refine bx w 2 #[.slice A0_0 l0_0.length c0_0, .int .i64 a0_1, .int .i64 a0_2, .int .i64 a0_3, .slice A0_4 l0_4.length c0_4, .bool a0_5, .slice A0_6 l0_6.length c0_6, .slice A0_7 l0_7.length c0_7, .slice A0_8 l0_8.length c0_8] 28 ?_; clear HB; intro gb106 w39 BK106 GE106 HB; obtain ⟨_, _, _, _, _, _, _, _, _, _, _, _, _, _, _, _, _, _⟩ := cf9 BK106.out) | ((with_reducible refine gc 45 ?_); refine gl2 8 Try.func45 (laws_szTeamS.calls k _ _ l0_0 a1 t107 _ (cb HR0_0 HB) HC0_0.out A3.out) ?_; intro w41 hb; replace BK106 := b1 BK106 hb; replace HB := b2 hb; clear hb; obtain ⟨_, _, _, _, _, _, _, _, _, _, _, _, _, _, _, _, _, _⟩ := cf9 BK106.out) | ((with_reducible refine gc 46 ?_); refine gl2 14 Try.func46 (laws_szRules.calls a0_1 a0_2 a0_3 _ _ l0_4 a0_5 t107 t108 _ (cb HR0_4 HB) HC0_4.out A8.out) ?_; intro w43 hb; replace BK106 := b1 BK106 hb; replace HB := b2 hb; clear hb; obtain ⟨_, _, _, _, _, _, _, _, _, _, _, _, _, _, _, _, _, _⟩ := cf9 BK106.out) | ((with_reducible refine gc 47 ?_); refine gl1 20 Try.func47 (laws_szGameS.calls _ _ l0_6 t108 t109 _ (cb HR0_6 HB) HC0_6.out A15.out) ?_; intro nd) | ((with_reducible refine gc 48 ?_); refine gl1 26 Try.func48 (laws_szIntS.calls _ _ l0_7 t109 t110 _ (ck (Kd.C_below HR0_7.out bel)) HC0_7.out A23.out) ?_; intro nd) | ((with_reducible refine gc 48 ?_); refine gl1 32 Try.func48 (laws_szIntS.calls _ _ l0_8 t110 t111 _ (ck (Kd.C_below HR0_8.out bel)) HC0_8.out A31.out) ?_; intro nd))
      go_ret
      exact ⟨er, bel⟩
def laws_toIntS.l0 : Nat → List Int → List Int → Int → Option (List Int)
  | 0, _, _, _ => none
  | k + 1, x0, x3, x4 => if x4 < (x0.length : Int) then (if 0 ≤ x4 then (if x4 < (x3.length : Int) then (laws_toIntS.l0 k x0 (x3.set (x4 : Int).toNat (rd x0 x4)) (wrap64 (x4 + 1))) else (none)) else (none)) else (some x3)
def laws_toIntS.f (k : Nat) (l0 : List Int) : Option (List Int) := if 0 ≤ (l0.length : Int) then (if ((l0.length : Int) : Int).toNat ≤ 35184372088832 then (laws_toIntS.l0 k l0 (List.replicate ((l0.length : Int) : Int).toNat 0) 0) else (none)) else (none)
theorem laws_toIntS.calls (k : Nat) (A0 : Option Addr) (c0 : Nat) (l0 : List Int) (r : List Int) (w : World) (hr0 : Kd.C (Kd.int .i64) w A0 l0.length l0) (hc0 : l0.length ≤ c0) (h : laws_toIntS.f k l0 = some r) : Calls Try.prog 24 #[.slice A0 l0.length c0] w fun e w' => ∃ v0_ : Value, e = .returned (v0_) ∧ Kd.R (Kd.int .i64) 3 w' w.heap.size (fun _ => True) v0_ r ∧ Below w.heap.size w w' := by
 have HR0 := am hr0
 have HC0 := am hc0
 clear hr0 hc0
 have HB := am (Below.refl w.heap.size w)
 have H : (if 0 ≤ (l0.length : Int) then (if ((l0.length : Int) : Int).toNat ≤ 35184372088832 then (laws_toIntS.l0 k l0 (List.replicate ((l0.length : Int) : Int).toNat 0) 0) else (none)) else (none)) = some r := h
 clear h
 by_cases c2 : 0 ≤ (l0.length : Int)
 ·rw [if_pos c2] at H
  have c2b0 := eq_true c2
  have c2b1 : decide (0 ≤ (l0.length : Int)) = true := decide_eq_true c2
  clear c2
  replace H := i0 H; obtain ⟨c3b1, H⟩ := H
  have c3b0 := eq_true (of_decide_eq_true c3b1)
  obtain ⟨y112, hy112⟩ : ∃ y_ : List Int, y_ = (List.replicate ((l0.length : Int) : Int).toNat 0) := ⟨_, rfl⟩
  replace H : (laws_toIntS.l0 k l0 y112 0) = some r := by first | (rw [hy112]; with_reducible exact H) | (have H2_ := (Option.bind_some _ _).symm.trans H; rw [hy112]; with_reducible exact H2_) | (have H2_ := (Option.bind_some _ _).symm.trans H; with_reducible exact H2_) | with_reducible exact H | (rw [hy112]; exact H) | exact H
  have Ny112 := am hy112
  clear hy112
  have H' := am H
  clear H
  go_enter Try.func24, Try.ntmps24
  go_wp2_with (first | ((with_reducible refine gate_dst (N := 7) rfl ?_); refine Kd.R_make (Kd.int .i64) _ 3 rfl (N := 7) rfl 23 _ _ rfl (l0.length : Int) rfl rfl Try.underlying23 (.int .i64 0) 8 info3 rfl (by decide) (by omega) 0 (ok := fun _ => True) (okp := fun _ => True) rfl (fun _ hk => hk) trivial (asm) (Nat.le_trans (Nat.mul_le_mul_right _ (asm : (l0.length : Int).toNat ≤ 35184372088832)) (by omega)) (Below.refl _ _) (Nat.le_refl _) ?_; intro v113 w4 ho5 hb hg_ hnew_; clear hg_ hnew_; (first | rw [← Ny112.out] at ho5 | (simp only [Int.reduceToNat] at ho5; rw [← Ny112.out] at ho5)); have HO114 := am (Kd.R_lower ho5 (below_size bel)); replace HB := b2 hb; clear hb ho5))
  go_loopg [4] k (fun kq v4 w' => ∃ (x3_1 : List Int) (x4_1 : Int), v4 = .int .i64 x4_1 ∧ Aside0 (laws_toIntS.l0 kq l0 x3_1 x4_1 = some r) ∧ Aside0 (kq ≤ k) ∧ Aside0 (Kd.R (Kd.int .i64) 3 w' w.heap.size (fun _ => True) v113 x3_1) ∧ Aside0 (Below w.heap.size w w'))
  case atStart => exact ⟨(y112), (0), (es), H', ⟨Nat.le_refl _⟩, ⟨rk HO114.out⟩, ⟨bel⟩⟩
  case round =>
   clear H'
   try clear c2; try clear c2b0; try clear c2b1; try clear c3; try clear c3b0; try clear c3b1
   obtain ⟨x3_1, x4_1, rfl, HA, HK1, HO_3, HB⟩ := hrel
   cases gk with
   | zero => exact absurd HA.out (by simp [laws_toIntS.l0])
   | succ k1 =>
    have H := HA.out
    clear HA
    simp only [laws_toIntS.l0] at H
    replace H := i1 H; obtain ⟨c6b0, H⟩ | ⟨c6b0, H⟩ := H
    ·replace H := i0 H; obtain ⟨c7b0, H⟩ := H
     replace H := i0 H; obtain ⟨c8b0, H⟩ := H
     obtain ⟨y116, hy116⟩ : ∃ y_ : List Int, y_ = (x3_1.set (x4_1 : Int).toNat (rd l0 x4_1)) := ⟨_, rfl⟩
     replace H : (laws_toIntS.l0 k1 l0 y116 (wrap64 (x4_1 + 1))) = some r := by first | (rw [hy116]; with_reducible exact H) | (have H2_ := (Option.bind_some _ _).symm.trans H; rw [hy116]; with_reducible exact H2_) | (have H2_ := (Option.bind_some _ _).symm.trans H; with_reducible exact H2_) | with_reducible exact H | (rw [hy116]; exact H) | exact H
     have Ny116 := am hy116
     clear hy116
     have H' := am H
     clear H
     have p115 : 0 ≤ (x4_1 : Int) := asm
     have q115 : x4_1 < (l0.length : Int) := asm
     obtain ⟨ad115, e115, hx115_0⟩ := hc1 HB.out (Kd.at_int HR0.out x4_1 p115 q115)
     cases e115
     replace p115 := eq_true p115
     replace q115 := eq_true q115
     have p9 : 0 ≤ (x4_1 : Int) := asm
     have q9 : (x4_1 : Int) < ((x3_1.length : Int) : Int) := asm
     obtain ⟨go9, co9, eo9, gb9, gl9, cl9, HG9⟩ := Kd.R_form HO_3.out (by omega)
     (first | cases eo9 | (injection eo9 with ea_ en_ ec_; (first | subst ea_ | (injection ea_ with ea_; subst ea_)); subst ec_; clear en_))
     have GB9 := am gb9
     have GG9 := am HG9
     clear gb9 gl9 HG9
     obtain ⟨hx9_0, hf9_0⟩ := Kd.R_celln 0 HO_3.out (x4_1 : Int) p9 q9
     replace p9 := eq_true p9
     replace q9 := eq_true q9
     have HP10 := Kd.R_putg HO_3.out (x4_1 : Int) (rd l0 x4_1)
     go_wp2_with (first | ((with_reducible refine gate_store (t := 3) (p := 20) rfl ?_); refine store_event (t := 3) (p := 20) (v := ?vo_w11) (w1 := (wr.setCell ⟨go9, (x4_1 : Int).toNat, none⟩ (.int .i64 (rd l0 x4_1)))) ?hg ?ho ?hn ?hr ?_; (case ho => rfl); (case hg => rfl); (case hn => rfl); (case hr => first | (go_simp; done) | (go_simp; rfl)); intro w11 hw; have hg : wr.grownBy w11 (some go9) := (by rw [hw]; exact HP10.2); have hp_ : Kd.R (Kd.int .i64) 3 w11 w.heap.size (fun _ => True) (.slice (some ⟨go9, 0, none⟩) x3_1.length co9) y116 := (by rw [hw, Ny116.out]; exact HP10.1); clear HP10; replace HO_3 := am (hp_); replace HB := am ((by rw [hw]; exact below_set (HB.out) GB9.out : Below w.heap.size w w11)); clear hg hw hp_))
     go_roundg k1
     case measure => have := HK1.out; omega
     case rel => exact ⟨(y116), (wrap64 (x4_1 + 1)), (es), H', ⟨by have := HK1.out; omega⟩, ⟨rk HO_3.out⟩, ⟨bel⟩⟩
    ·obtain rfl := Option.some.inj H
     go_wp2
     go_ret
     exact ⟨_, er, rk HO_3.out, bel⟩
 ·rw [if_neg c2] at H
  exact absurd H (by simp)
def laws_toTeam.f (a0_0 : ByteArray) (a0_1 : Int) (a0_2 : Int) : Option (ByteArray × Int × Int) := some (a0_0, a0_1, a0_2)
theorem laws_toTeam.calls (a0_0 : ByteArray) (a0_1 : Int) (a0_2 : Int) (r1 : ByteArray) (r2 : Int) (r3 : Int) (w : World) (h : laws_toTeam.f a0_0 a0_1 a0_2 = some (r1, r2, r3)) : Calls Try.prog 94 #[.agg #[.string a0_0, .int .i64 a0_1, .int .i64 a0_2]] w fun e w' => e = .returned (.agg #[.string r1, .int .i64 r2, .int .i64 r3]) ∧ Below w.heap.size w w' := by
 have hu97 := Try.underlying97
 have hu101 := Try.underlying101
 have HB := am (Below.refl w.heap.size w)
 have H : (some (a0_0, a0_1, a0_2)) = some (r1, r2, r3) := h
 clear h
 simp only [Option.some.injEq, Prod.mk.injEq] at H
 obtain ⟨rfl, rfl, rfl⟩ := H
 go_enter Try.func94, Try.ntmps94
 go_wp2_with (first | ((with_reducible refine gd 1 ?_); refine bx w 1 #[.string a0_0, .int .i64 a0_1, .int .i64 a0_2] 97 ?_; clear HB; intro gb117 w2 BK117 GE117 HB) | ((with_reducible refine gd 2 ?_); refine by_ w 2 #[.string (⟨#[]⟩ : ByteArray), .int .i64 0, .int .i64 0] 101 ?_; clear HB; intro gb118 hg w3 BK118 GE118 hb HB; have NB117_118 := am ((nlt hg BK117.out : gb117 ≠ gb118)); have NB118_117 := am ((ngt hg BK117.out : gb118 ≠ gb117)); replace BK117 := b1 BK117 hb; clear hb hg) | ((with_reducible refine gd 3 ?_); refine by_ w 3 #[.string (⟨#[]⟩ : ByteArray), .int .i64 0, .int .i64 0] 101 ?_; clear HB; intro gb119 hg w4 BK119 GE119 hb HB; have NB117_119 := am ((nlt hg BK117.out : gb117 ≠ gb119)); have NB119_117 := am ((ngt hg BK117.out : gb119 ≠ gb117)); have NB118_119 := am ((nlt hg BK118.out : gb118 ≠ gb119)); have NB119_118 := am ((ngt hg BK118.out : gb119 ≠ gb118)); replace BK117 := b1 BK117 hb; replace BK118 := b1 BK118 hb; clear hb hg; have hnb5 := NB117_118.out; have hnc5 := NB118_117.out; have hnb6 := NB117_119.out; have hnc6 := NB119_117.out; obtain ⟨_, _, _, _, _, _⟩ := cf3 BK117.out; have hnb8 := NB119_118.out; have hnc8 := NB118_119.out; obtain ⟨_, _, _, _, _, _⟩ := cf3 BK119.out; obtain ⟨_, _, _, _, _, _⟩ := cf3 BK118.out))
 refine bodyPost_ret (results_cell_row rfl _ _ gb118 101 #[.string a0_0, .int .i64 a0_1, .int .i64 a0_2] (0, 0) _ rfl (bz BK118) Try.underlying101 rfl (by kernel_rfl)) rfl ?_
 exact ⟨er, bel⟩
def laws_toTeamS.l0 : Nat → List (S97) → List (S101) → Int → Option ((List (S101)))
  | 0, _, _, _ => none
  | k + 1, x0, x3, x4 => if x4 < (x0.length : Int) then (if 0 ≤ x4 then ((laws_toTeam.f ((rd_T97 x0 x4).f0) ((rd_T97 x0 x4).f1) ((rd_T97 x0 x4).f2)).bind fun bt124 => (if x4 < (x3.length : Int) then (laws_toTeamS.l0 k x0 (x3.set (x4 : Int).toNat (⟨bt124.1, bt124.2.1, bt124.2.2⟩ : S101)) (wrap64 (x4 + 1))) else (none))) else (none)) else (some x3)
def laws_toTeamS.f (k : Nat) (l0 : List (S97)) : Option ((List (S101))) := if 0 ≤ (l0.length : Int) then (if ((l0.length : Int) : Int).toNat ≤ 8796093022208 then (laws_toTeamS.l0 k l0 (List.replicate ((l0.length : Int) : Int).toNat z101) 0) else (none)) else (none)
theorem laws_toTeamS.calls (k : Nat) (A0 : Option Addr) (c0 : Nat) (l0 : List (S97)) (r : List (S101)) (w : World) (hr0 : Kd.C k97 w A0 l0.length l0) (hc0 : l0.length ≤ c0) (h : laws_toTeamS.f k l0 = some r) : Calls Try.prog 51 #[.slice A0 l0.length c0] w fun e w' => ∃ v0_ : Value, e = .returned (v0_) ∧ Kd.R k101 101 w' w.heap.size (fun _ => True) v0_ r ∧ Below w.heap.size w w' := by
 have hu97 := Try.underlying97
 have hu101 := Try.underlying101
 have HR0 := am hr0
 have HC0 := am hc0
 clear hr0 hc0
 have HB := am (Below.refl w.heap.size w)
 have H : (if 0 ≤ (l0.length : Int) then (if ((l0.length : Int) : Int).toNat ≤ 8796093022208 then (laws_toTeamS.l0 k l0 (List.replicate ((l0.length : Int) : Int).toNat z101) 0) else (none)) else (none)) = some r := h
 clear h
 by_cases c2 : 0 ≤ (l0.length : Int)
 ·rw [if_pos c2] at H
  have c2b0 := eq_true c2
  have c2b1 : decide (0 ≤ (l0.length : Int)) = true := decide_eq_true c2
  clear c2
  replace H := i0 H; obtain ⟨c3b1, H⟩ := H
  have c3b0 := eq_true (of_decide_eq_true c3b1)
  obtain ⟨y120, hy120⟩ : ∃ y_ : List (S101), y_ = (List.replicate ((l0.length : Int) : Int).toNat z101) := ⟨_, rfl⟩
  replace H : (laws_toTeamS.l0 k l0 y120 0) = some r := by first | (rw [hy120]; with_reducible exact H) | (have H2_ := (Option.bind_some _ _).symm.trans H; rw [hy120]; with_reducible exact H2_) | (have H2_ := (Option.bind_some _ _).symm.trans H; with_reducible exact H2_) | with_reducible exact H | (rw [hy120]; exact H) | exact H
  have Ny120 := am hy120
  clear hy120
  have H' := am H
  clear H
  go_enter Try.func51, Try.ntmps51
  go_wp2_with (first | ((with_reducible refine gate_dst (N := 7) rfl ?_); refine Kd.R_make k101 _ 101 rfl (N := 7) rfl 33 _ _ rfl (l0.length : Int) rfl rfl Try.underlying33 (.agg #[(.string ⟨#[]⟩), (.int .i64 0), (.int .i64 0)]) 32 info101 rfl (by decide) (by omega) z101 (ok := fun _ => True) (okp := fun _ => True) (k101_mkM _ _ _ z101 ) (fun _ hk => hk) trivial (asm) (Nat.le_trans (Nat.mul_le_mul_right _ (asm : (l0.length : Int).toNat ≤ 8796093022208)) (by omega)) (Below.refl _ _) (Nat.le_refl _) ?_; intro v121 w4 ho5 hb hg_ hnew_; clear hg_ hnew_; (first | rw [← Ny120.out] at ho5 | (simp only [Int.reduceToNat] at ho5; rw [← Ny120.out] at ho5)); have HO122 := am (Kd.R_lower ho5 (below_size bel)); replace HB := b2 hb; clear hb ho5))
  go_loopg [4] k (fun kq v4 w' => ∃ (x3_1 : List (S101)) (x4_1 : Int), v4 = .int .i64 x4_1 ∧ Aside0 (laws_toTeamS.l0 kq l0 x3_1 x4_1 = some r) ∧ Aside0 (kq ≤ k) ∧ Aside0 (Kd.R k101 101 w' w.heap.size (fun _ => True) v121 x3_1) ∧ Aside0 (Below w.heap.size w w'))
  case atStart => exact ⟨(y120), (0), (es), H', ⟨Nat.le_refl _⟩, ⟨rk HO122.out⟩, ⟨bel⟩⟩
  case round =>
   clear H'
   try clear c2; try clear c2b0; try clear c2b1; try clear c3; try clear c3b0; try clear c3b1
   obtain ⟨x3_1, x4_1, rfl, HA, HK1, HO_3, HB⟩ := hrel
   cases gk with
   | zero => exact absurd HA.out (by simp [laws_toTeamS.l0])
   | succ k1 =>
    have H := HA.out
    clear HA
    simp only [laws_toTeamS.l0] at H
    replace H := i1 H; obtain ⟨c6b0, H⟩ | ⟨c6b0, H⟩ := H
    ·replace H := i0 H; obtain ⟨c7b0, H⟩ := H
     replace H := Option.bind_eq_some_iff.mp H
     obtain ⟨⟨t124, t125, t126⟩, A80, H⟩ := H
     replace H : (if x4_1 < (x3_1.length : Int) then (laws_toTeamS.l0 k1 l0 (x3_1.set (x4_1 : Int).toNat (⟨t124, t125, t126⟩ : S101)) (wrap64 (x4_1 + 1))) else (none)) = some r := H
     have A8 := am A80
     clear A80
     replace H := i0 H; obtain ⟨c9b0, H⟩ := H
     obtain ⟨y127, hy127⟩ : ∃ y_ : List (S101), y_ = (x3_1.set (x4_1 : Int).toNat (⟨t124, t125, t126⟩ : S101)) := ⟨_, rfl⟩
     replace H : (laws_toTeamS.l0 k1 l0 y127 (wrap64 (x4_1 + 1))) = some r := by first | (rw [hy127]; with_reducible exact H) | (have H2_ := (Option.bind_some _ _).symm.trans H; rw [hy127]; with_reducible exact H2_) | (have H2_ := (Option.bind_some _ _).symm.trans H; with_reducible exact H2_) | with_reducible exact H | (rw [hy127]; exact H) | exact H
     have Ny127 := am hy127
     clear hy127
     have H' := am H
     clear H
     have p123 : 0 ≤ (x4_1 : Int) := asm
     have q123 : x4_1 < (l0.length : Int) := asm
     obtain ⟨ad123, e123, hx123_0, hx123_1, hx123_2⟩ := hc3 HB.out (at_T97 HR0.out x4_1 p123 q123)
     cases e123
     replace p123 := eq_true p123
     replace q123 := eq_true q123
     go_wp2_with (first | ((with_reducible refine gc 94 ?_); refine gl2 20 Try.func94 (laws_toTeam.calls ((rd_T97 l0 x4_1).f0) ((rd_T97 l0 x4_1).f1) ((rd_T97 l0 x4_1).f2) t124 t125 t126 _ A8.out) ?_; intro w11 hb; replace HO_3 := am (Kd.R_below (rk HO_3.out) hb); replace HB := b2 hb; clear hb; have p10 : 0 ≤ (x4_1 : Int) := asm; have q10 : (x4_1 : Int) < ((x3_1.length : Int) : Int) := asm; obtain ⟨go10, co10, eo10, gb10, gl10, cl10, HG10⟩ := Kd.R_form HO_3.out (by omega); (first | cases eo10 | (injection eo10 with ea_ en_ ec_; (first | subst ea_ | (injection ea_ with ea_; subst ea_)); subst ec_; clear en_)); have GB10 := am gb10; have GG10 := am HG10; clear gb10 gl10 HG10; obtain ⟨ce10, hcl10, hM10, hcc10, hfr10⟩ := Kd.R_elem HO_3.out z101 (x4_1 : Int) p10 q10; obtain rfl := k101_openM hM10; have hx10_0 : w11.cell? ⟨go10, (x4_1 : Int).toNat * 3, none⟩ = some (.string ((rd_T101 x3_1 x4_1).f0)) := hcc10 0 _ rfl; have hx10_1 : w11.cell? ⟨go10, (x4_1 : Int).toNat * 3 + 1, none⟩ = some (.int .i64 ((rd_T101 x3_1 x4_1).f1)) := hcc10 1 _ rfl; have hx10_2 : w11.cell? ⟨go10, (x4_1 : Int).toNat * 3 + 2, none⟩ = some (.int .i64 ((rd_T101 x3_1 x4_1).f2)) := hcc10 2 _ rfl; have hf10_0 : w11.frozen? ⟨go10, (x4_1 : Int).toNat * 3, none⟩ = false := hfr10 0; have hf10_1 : w11.frozen? ⟨go10, (x4_1 : Int).toNat * 3 + 1, none⟩ = false := hfr10 1; have hf10_2 : w11.frozen? ⟨go10, (x4_1 : Int).toNat * 3 + 2, none⟩ = false := hfr10 2; clear hcl10 hcc10 hfr10; (try clear hM10); replace p10 := eq_true p10; replace q10 := eq_true q10; have HX12 := am (show Kd.R k101 101 w11 w.heap.size (fun _ => True) (.slice (some ⟨go10, 0, none⟩) x3_1.length co10) x3_1 from (rk HO_3.out)); obtain ⟨ce12, hcl12, hM12, hcc12, hfr12⟩ := Kd.R_elem HX12.out z101 (x4_1 : Int) (asm) (by have h_ : (x4_1 : Int) < ((x3_1.length : Int) : Int) := asm; first | exact h_ | (have e_ := (Kd.R_reads' HO_3.out).1; omega) | simpa using h_); obtain rfl := k101_openM hM12; have HP12 := Kd.R_seg HX12.out (x4_1 : Int) (asm) (by have h_ : (x4_1 : Int) < ((x3_1.length : Int) : Int) := asm; first | exact h_ | (have e_ := (Kd.R_reads' HO_3.out).1; omega) | simpa using h_) (seg := [.string t124, .int .i64 t125, .int .i64 t126]) (j := 0) hcl12 hcc12 (show 3 ≤ 3 from by decide) (x' := (⟨t124, t125, t126⟩ : S101)) (k101_mkM _ _ _ (⟨t124, t125, t126⟩ : S101) ) (fun _ hk => hk); have hx12_0 := hcc12 0 _ rfl; (try simp only [show (k101).sz = 3 from rfl, Nat.mul_one, Nat.add_zero] at hx12_0); have hf12_0 := hfr12 0; (try simp only [show (k101).sz = 3 from rfl, Nat.mul_one, Nat.add_zero] at hf12_0); have hx12_1 := hcc12 1 _ rfl; (try simp only [show (k101).sz = 3 from rfl, Nat.mul_one, Nat.add_zero] at hx12_1); have hf12_1 := hfr12 1; (try simp only [show (k101).sz = 3 from rfl, Nat.mul_one, Nat.add_zero] at hf12_1); have hx12_2 := hcc12 2 _ rfl; (try simp only [show (k101).sz = 3 from rfl, Nat.mul_one, Nat.add_zero] at hx12_2); have hf12_2 := hfr12 2; (try simp only [show (k101).sz = 3 from rfl, Nat.mul_one, Nat.add_zero] at hf12_2); clear hcl12 hcc12 hfr12 hM12) | ((with_reducible refine gate_store (t := 101) (p := 21) rfl ?_); refine store_event (t := 101) (p := 21) (v := ?vo_w13) (w1 := (((w11.setCell ⟨go10, (x4_1 : Int).toNat * 3, none⟩ (.string t124)).setCell ⟨go10, (x4_1 : Int).toNat * 3 + 1, none⟩ (.int .i64 t125)).setCell ⟨go10, (x4_1 : Int).toNat * 3 + 2, none⟩ (.int .i64 t126))) ?hg ?ho ?hn ?hr ?_; (case ho => rfl); (case hg => rfl); (case hn => rfl); (case hr => first | (go_simp; done) | (go_simp; rfl)); intro w13 hw; have hg : w11.grownBy w13 (some go10) := (by rw [hw]; exact HP12.2); have hp_ : Kd.R k101 101 w13 w.heap.size (fun _ => True) (.slice (some ⟨go10, 0, none⟩) x3_1.length co10) y127 := (by rw [hw, Ny127.out]; exact HP12.1); clear HP12; replace HO_3 := am (hp_); replace HB := am ((by rw [hw]; exact below_set (below_set (below_set (HB.out) GB10.out) GB10.out) GB10.out : Below w.heap.size w w13)); clear hg hw hp_))
     go_roundg k1
     case measure => have := HK1.out; omega
     case rel => exact ⟨(y127), (wrap64 (x4_1 + 1)), (es), H', ⟨by have := HK1.out; omega⟩, ⟨rk HO_3.out⟩, ⟨bel⟩⟩
    ·obtain rfl := Option.some.inj H
     go_wp2
     go_ret
     exact ⟨_, er, rk HO_3.out, bel⟩
 ·rw [if_neg c2] at H
  exact absurd H (by simp)
def laws_toRules.f (k : Nat) (a0_0 : Int) (a0_1 : Int) (a0_2 : Int) (l0_3 : List Int) (a0_4 : Bool) : Option (Int × Int × Int × List Int × Bool) := (laws_toIntS.f k l0_3).bind fun t131 => (some (a0_0, a0_1, a0_2, t131, a0_4))
theorem laws_toRules.calls (k : Nat) (a0_0 : Int) (a0_1 : Int) (a0_2 : Int) (A0_3 : Option Addr) (c0_3 : Nat) (l0_3 : List Int) (a0_4 : Bool) (r1 : Int) (r2 : Int) (r3 : Int) (r4 : List Int) (r5 : Bool) (w : World) (hr0_3 : Kd.C (Kd.int .i64) w A0_3 l0_3.length l0_3) (hc0_3 : l0_3.length ≤ c0_3) (h : laws_toRules.f k a0_0 a0_1 a0_2 l0_3 a0_4 = some (r1, r2, r3, r4, r5)) : Calls Try.prog 52 #[.agg #[.int .i64 a0_0, .int .i64 a0_1, .int .i64 a0_2, .slice A0_3 l0_3.length c0_3, .bool a0_4]] w fun e w' => ∃ v3_ : Value, e = .returned (.agg #[.int .i64 r1, .int .i64 r2, .int .i64 r3, v3_, .bool r5]) ∧ Kd.R (Kd.int .i64) 3 w' w.heap.size (fun _ => True) v3_ r4 ∧ Below w.heap.size w w' := by
 have hu25 := Try.underlying25
 have hu34 := Try.underlying34
 have HR0_3 := am hr0_3
 have HC0_3 := am hc0_3
 clear hr0_3 hc0_3
 have HB := am (Below.refl w.heap.size w)
 have H : ((laws_toIntS.f k l0_3).bind fun t131 => (some (a0_0, a0_1, a0_2, t131, a0_4))) = some (r1, r2, r3, r4, r5) := h
 clear h
 replace H := bm H; obtain ⟨t131, A2, H⟩ := H
 simp only [Option.some.injEq, Prod.mk.injEq] at H
 obtain ⟨rfl, rfl, rfl, rfl, rfl⟩ := H
 go_enter Try.func52, Try.ntmps52
 go_wp2_with (first | ((with_reducible refine gd 1 ?_); refine bx w 1 #[.int .i64 a0_0, .int .i64 a0_1, .int .i64 a0_2, .slice A0_3 l0_3.length c0_3, .bool a0_4] 25 ?_; clear HB; intro gb128 w3 BK128 GE128 HB) | ((with_reducible refine gd 2 ?_); refine by_ w 2 #[.int .i64 0, .int .i64 0, .int .i64 0, .slice none 0 0, .bool false] 34 ?_; clear HB; intro gb129 hg w4 BK129 GE129 hb HB; have NB128_129 := am ((nlt hg BK128.out : gb128 ≠ gb129)); have NB129_128 := am ((ngt hg BK128.out : gb129 ≠ gb128)); replace BK128 := b1 BK128 hb; clear hb hg) | ((with_reducible refine gd 3 ?_); refine by_ w 3 #[.int .i64 0, .int .i64 0, .int .i64 0, .slice none 0 0, .bool false] 34 ?_; clear HB; intro gb130 hg w5 BK130 GE130 hb HB; have NB128_130 := am ((nlt hg BK128.out : gb128 ≠ gb130)); have NB130_128 := am ((ngt hg BK128.out : gb130 ≠ gb128)); have NB129_130 := am ((nlt hg BK129.out : gb129 ≠ gb130)); have NB130_129 := am ((ngt hg BK129.out : gb130 ≠ gb129)); replace BK128 := b1 BK128 hb; replace BK129 := b1 BK129 hb; clear hb hg; have hnb6 := NB128_129.out; have hnc6 := NB129_128.out; have hnb7 := NB128_130.out; have hnc7 := NB130_128.out; obtain ⟨_, _, _, _, _, _, _, _, _, _⟩ := cf5 BK128.out; have hnb9 := NB130_129.out; have hnc9 := NB129_130.out; obtain ⟨_, _, _, _, _, _, _, _, _, _⟩ := cf5 BK130.out) | ((with_reducible refine gc 24 ?_); refine gl 15 Try.func24 (laws_toIntS.calls k _ _ l0_3 t131 _ (Kd.C_below HR0_3.out bel) HC0_3.out A2.out) ?_; rintro e w11 ⟨v132, rfl, ho0, hb⟩; refine ⟨_, rfl, ?_⟩; have HO133 := am (Kd.R_lower ho0 (below_size bel)); replace BK128 := b1 BK128 hb; replace BK129 := b1 BK129 hb; replace BK130 := bq BK130 hb; replace HB := b2 hb; clear hb; (try clear ho0); obtain ⟨Ao12, co12, eo12⟩ := Kd.R_slice HO133.out; subst eo12; obtain ⟨_, _, _, _, _, _, _, _, _, _⟩ := cf5 BK130.out; obtain ⟨_, _, _, _, _, _, _, _, _, _⟩ := cf5 BK128.out; obtain ⟨_, _, _, _, _, _, _, _, _, _⟩ := cf5 BK129.out))
 refine bodyPost_ret (results_cell_row rfl _ _ gb129 34 #[.int .i64 a0_0, .int .i64 a0_1, .int .i64 a0_2, .slice Ao12 t131.length co12, .bool a0_4] (0, 0) _ rfl (bz BK129) Try.underlying34 rfl (by kernel_rfl)) rfl ?_
 exact ⟨_, er, (kf (Kd.R_types (Kd.R_types HO133.out BK130.out (by decide)) BK129.out (by decide))), bel⟩
def laws_toGame.f (a0_0 : Int) (a0_1 : Int) (a0_2 : Int) (a0_3 : Int) (a0_4 : Int) : Option (Int × Int × Int × Int × Int) := some (a0_0, a0_1, a0_2, a0_3, a0_4)
theorem laws_toGame.calls (a0_0 : Int) (a0_1 : Int) (a0_2 : Int) (a0_3 : Int) (a0_4 : Int) (r1 : Int) (r2 : Int) (r3 : Int) (r4 : Int) (r5 : Int) (w : World) (h : laws_toGame.f a0_0 a0_1 a0_2 a0_3 a0_4 = some (r1, r2, r3, r4, r5)) : Calls Try.prog 95 #[.agg #[.int .i64 a0_0, .int .i64 a0_1, .int .i64 a0_2, .int .i64 a0_3, .int .i64 a0_4]] w fun e w' => e = .returned (.agg #[.int .i64 r1, .int .i64 r2, .int .i64 r3, .int .i64 r4, .int .i64 r5]) ∧ Below w.heap.size w w' := by
 have hu104 := Try.underlying104
 have hu71 := Try.underlying71
 have HB := am (Below.refl w.heap.size w)
 have H : (some (a0_0, a0_1, a0_2, a0_3, a0_4)) = some (r1, r2, r3, r4, r5) := h
 clear h
 simp only [Option.some.injEq, Prod.mk.injEq] at H
 obtain ⟨rfl, rfl, rfl, rfl, rfl⟩ := H
 go_enter Try.func95, Try.ntmps95
 go_wp2_with (first | ((with_reducible refine gd 1 ?_); refine bx w 1 #[.int .i64 a0_0, .int .i64 a0_1, .int .i64 a0_2, .int .i64 a0_3, .int .i64 a0_4] 104 ?_; clear HB; intro gb134 w2 BK134 GE134 HB) | ((with_reducible refine gd 2 ?_); refine by_ w 2 #[.int .i64 0, .int .i64 0, .int .i64 0, .int .i64 0, .int .i64 0] 71 ?_; clear HB; intro gb135 hg w3 BK135 GE135 hb HB; have NB134_135 := am ((nlt hg BK134.out : gb134 ≠ gb135)); have NB135_134 := am ((ngt hg BK134.out : gb135 ≠ gb134)); replace BK134 := b1 BK134 hb; clear hb hg) | ((with_reducible refine gd 3 ?_); refine by_ w 3 #[.int .i64 0, .int .i64 0, .int .i64 0, .int .i64 0, .int .i64 0] 71 ?_; clear HB; intro gb136 hg w4 BK136 GE136 hb HB; have NB134_136 := am ((nlt hg BK134.out : gb134 ≠ gb136)); have NB136_134 := am ((ngt hg BK134.out : gb136 ≠ gb134)); have NB135_136 := am ((nlt hg BK135.out : gb135 ≠ gb136)); have NB136_135 := am ((ngt hg BK135.out : gb136 ≠ gb135)); replace BK134 := b1 BK134 hb; replace BK135 := b1 BK135 hb; clear hb hg; have hnb5 := NB134_135.out; have hnc5 := NB135_134.out; have hnb6 := NB134_136.out; have hnc6 := NB136_134.out; obtain ⟨_, _, _, _, _, _, _, _, _, _⟩ := cf5 BK134.out; have hnb8 := NB136_135.out; have hnc8 := NB135_136.out; obtain ⟨_, _, _, _, _, _, _, _, _, _⟩ := cf5 BK136.out; obtain ⟨_, _, _, _, _, _, _, _, _, _⟩ := cf5 BK135.out))
 refine bodyPost_ret (results_cell_row rfl _ _ gb135 71 #[.int .i64 a0_0, .int .i64 a0_1, .int .i64 a0_2, .int .i64 a0_3, .int .i64 a0_4] (0, 0) _ rfl (bz BK135) Try.underlying71 rfl (by kernel_rfl)) rfl ?_
 exact ⟨er, bel⟩
end Go.Proofs.Ytgalpgakdcfilaa.Q
