-- Written by a program of this session (wip/xp.py).
import Derived.Test.YtgalpgakdcfilaaQ0
import Derived.Test.YtgalpgakdcfilaaQ2
namespace Go.Proofs.Ytgalpgakdcfilaa.Q
open Go.RowKit Go.Proofs.YtgalpgakdcfilaaW.PrintWords Go.Proofs.YtgalpgakdcfilaaW.PrintLast Go.Proofs.YtgalpgakdcfilaaW.PrintMore
attribute [local go_sem] max2_int min2_int max_two min_two max_three min_three max_four min_four   -- for this text's walks alone
set_option linter.unusedVariables false
set_option linter.unusedSimpArgs false
set_option maxHeartbeats 8000000
set_option maxRecDepth 100000

def laws_toGameS.l0 : Nat → List (S104) → List (S71) → Int → Option ((List (S71)))
  | 0, _, _, _ => none
  | k + 1, x0, x3, x4 => if x4 < (x0.length : Int) then (if 0 ≤ x4 then ((laws_toGame.f ((rd_T104 x0 x4).f0) ((rd_T104 x0 x4).f1) ((rd_T104 x0 x4).f2) ((rd_T104 x0 x4).f3) ((rd_T104 x0 x4).f4)).bind fun bt141 => (if x4 < (x3.length : Int) then (laws_toGameS.l0 k x0 (x3.set (x4 : Int).toNat (⟨bt141.1, bt141.2.1, bt141.2.2.1, bt141.2.2.2.1, bt141.2.2.2.2⟩ : S71)) (wrap64 (x4 + 1))) else (none))) else (none)) else (some x3)
def laws_toGameS.f (k : Nat) (l0 : List (S104)) : Option ((List (S71))) := if 0 ≤ (l0.length : Int) then (if ((l0.length : Int) : Int).toNat ≤ 7036874417766 then (laws_toGameS.l0 k l0 (List.replicate ((l0.length : Int) : Int).toNat z71) 0) else (none)) else (none)
theorem laws_toGameS.calls (k : Nat) (A0 : Option Addr) (c0 : Nat) (l0 : List (S104)) (r : List (S71)) (w : World) (hr0 : Kd.C k104 w A0 l0.length l0) (hc0 : l0.length ≤ c0) (h : laws_toGameS.f k l0 = some r) : Calls Try.prog 53 #[.slice A0 l0.length c0] w fun e w' => ∃ v0_ : Value, e = .returned (v0_) ∧ Kd.R k71 71 w' w.heap.size (fun _ => True) v0_ r ∧ Below w.heap.size w w' := by
 have hu104 := Try.underlying104
 have hu71 := Try.underlying71
 have HR0 := am hr0
 have HC0 := am hc0
 clear hr0 hc0
 have HB := am (Below.refl w.heap.size w)
 have H : (if 0 ≤ (l0.length : Int) then (if ((l0.length : Int) : Int).toNat ≤ 7036874417766 then (laws_toGameS.l0 k l0 (List.replicate ((l0.length : Int) : Int).toNat z71) 0) else (none)) else (none)) = some r := h
 clear h
 by_cases c2 : 0 ≤ (l0.length : Int)
 ·rw [if_pos c2] at H
  have c2b0 := eq_true c2
  have c2b1 : decide (0 ≤ (l0.length : Int)) = true := decide_eq_true c2
  clear c2
  replace H := i0 H; obtain ⟨c3b1, H⟩ := H
  have c3b0 := eq_true (of_decide_eq_true c3b1)
  obtain ⟨y137, hy137⟩ : ∃ y_ : List (S71), y_ = (List.replicate ((l0.length : Int) : Int).toNat z71) := ⟨_, rfl⟩
  replace H : (laws_toGameS.l0 k l0 y137 0) = some r := by first | (rw [hy137]; with_reducible exact H) | (have H2_ := (Option.bind_some _ _).symm.trans H; rw [hy137]; with_reducible exact H2_) | (have H2_ := (Option.bind_some _ _).symm.trans H; with_reducible exact H2_) | with_reducible exact H | (rw [hy137]; exact H) | exact H
  have Ny137 := am hy137
  clear hy137
  have H' := am H
  clear H
  go_enter Try.func53, Try.ntmps53
  go_wp2_with (first | ((with_reducible refine gate_dst (N := 7) rfl ?_); refine Kd.R_make k71 _ 71 rfl (N := 7) rfl 35 _ _ rfl (l0.length : Int) rfl rfl Try.underlying35 (.agg #[(.int .i64 0), (.int .i64 0), (.int .i64 0), (.int .i64 0), (.int .i64 0)]) 40 info71 rfl (by decide) (by omega) z71 (ok := fun _ => True) (okp := fun _ => True) (k71_mkM _ _ _ z71 ) (fun _ hk => hk) trivial (asm) (Nat.le_trans (Nat.mul_le_mul_right _ (asm : (l0.length : Int).toNat ≤ 7036874417766)) (by omega)) (Below.refl _ _) (Nat.le_refl _) ?_; intro v138 w4 ho5 hb hg_ hnew_; clear hg_ hnew_; (first | rw [← Ny137.out] at ho5 | (simp only [Int.reduceToNat] at ho5; rw [← Ny137.out] at ho5)); have HO139 := am (Kd.R_lower ho5 (below_size bel)); replace HB := b2 hb; clear hb ho5))
  go_loopg [4] k (fun kq v4 w' => ∃ (x3_1 : List (S71)) (x4_1 : Int), v4 = .int .i64 x4_1 ∧ Aside0 (laws_toGameS.l0 kq l0 x3_1 x4_1 = some r) ∧ Aside0 (kq ≤ k) ∧ Aside0 (Kd.R k71 71 w' w.heap.size (fun _ => True) v138 x3_1) ∧ Aside0 (Below w.heap.size w w'))
  case atStart => exact ⟨(y137), (0), (es), H', ⟨Nat.le_refl _⟩, ⟨rk HO139.out⟩, ⟨bel⟩⟩
  case round =>
   clear H'
   try clear c2; try clear c2b0; try clear c2b1; try clear c3; try clear c3b0; try clear c3b1
   obtain ⟨x3_1, x4_1, rfl, HA, HK1, HO_3, HB⟩ := hrel
   cases gk with
   | zero => exact absurd HA.out (by simp [laws_toGameS.l0])
   | succ k1 =>
    have H := HA.out
    clear HA
    simp only [laws_toGameS.l0] at H
    replace H := i1 H; obtain ⟨c6b0, H⟩ | ⟨c6b0, H⟩ := H
    ·replace H := i0 H; obtain ⟨c7b0, H⟩ := H
     replace H := Option.bind_eq_some_iff.mp H
     obtain ⟨⟨t141, t142, t143, t144, t145⟩, A80, H⟩ := H
     replace H : (if x4_1 < (x3_1.length : Int) then (laws_toGameS.l0 k1 l0 (x3_1.set (x4_1 : Int).toNat (⟨t141, t142, t143, t144, t145⟩ : S71)) (wrap64 (x4_1 + 1))) else (none)) = some r := H
     have A8 := am A80
     clear A80
     replace H := i0 H; obtain ⟨c9b0, H⟩ := H
     obtain ⟨y146, hy146⟩ : ∃ y_ : List (S71), y_ = (x3_1.set (x4_1 : Int).toNat (⟨t141, t142, t143, t144, t145⟩ : S71)) := ⟨_, rfl⟩
     replace H : (laws_toGameS.l0 k1 l0 y146 (wrap64 (x4_1 + 1))) = some r := by first | (rw [hy146]; with_reducible exact H) | (have H2_ := (Option.bind_some _ _).symm.trans H; rw [hy146]; with_reducible exact H2_) | (have H2_ := (Option.bind_some _ _).symm.trans H; with_reducible exact H2_) | with_reducible exact H | (rw [hy146]; exact H) | exact H
     have Ny146 := am hy146
     clear hy146
     have H' := am H
     clear H
     have p140 : 0 ≤ (x4_1 : Int) := asm
     have q140 : x4_1 < (l0.length : Int) := asm
     obtain ⟨ad140, e140, hx140_0, hx140_1, hx140_2, hx140_3, hx140_4⟩ := hc5 HB.out (at_T104 HR0.out x4_1 p140 q140)
     cases e140
     replace p140 := eq_true p140
     replace q140 := eq_true q140
     go_wp2_with (first | ((with_reducible refine gc 95 ?_); refine gl2 20 Try.func95 (laws_toGame.calls ((rd_T104 l0 x4_1).f0) ((rd_T104 l0 x4_1).f1) ((rd_T104 l0 x4_1).f2) ((rd_T104 l0 x4_1).f3) ((rd_T104 l0 x4_1).f4) t141 t142 t143 t144 t145 _ A8.out) ?_; intro w11 hb; replace HO_3 := am (Kd.R_below (rk HO_3.out) hb); replace HB := b2 hb; clear hb; have p10 : 0 ≤ (x4_1 : Int) := asm; have q10 : (x4_1 : Int) < ((x3_1.length : Int) : Int) := asm; obtain ⟨go10, co10, eo10, gb10, gl10, cl10, HG10⟩ := Kd.R_form HO_3.out (by omega); (first | cases eo10 | (injection eo10 with ea_ en_ ec_; (first | subst ea_ | (injection ea_ with ea_; subst ea_)); subst ec_; clear en_)); have GB10 := am gb10; have GG10 := am HG10; clear gb10 gl10 HG10; obtain ⟨ce10, hcl10, hM10, hcc10, hfr10⟩ := Kd.R_elem HO_3.out z71 (x4_1 : Int) p10 q10; obtain rfl := k71_openM hM10; have hx10_0 : w11.cell? ⟨go10, (x4_1 : Int).toNat * 5, none⟩ = some (.int .i64 ((rd_T71 x3_1 x4_1).f0)) := hcc10 0 _ rfl; have hx10_1 : w11.cell? ⟨go10, (x4_1 : Int).toNat * 5 + 1, none⟩ = some (.int .i64 ((rd_T71 x3_1 x4_1).f1)) := hcc10 1 _ rfl; have hx10_2 : w11.cell? ⟨go10, (x4_1 : Int).toNat * 5 + 2, none⟩ = some (.int .i64 ((rd_T71 x3_1 x4_1).f2)) := hcc10 2 _ rfl; have hx10_3 : w11.cell? ⟨go10, (x4_1 : Int).toNat * 5 + 3, none⟩ = some (.int .i64 ((rd_T71 x3_1 x4_1).f3)) := hcc10 3 _ rfl; have hx10_4 : w11.cell? ⟨go10, (x4_1 : Int).toNat * 5 + 4, none⟩ = some (.int .i64 ((rd_T71 x3_1 x4_1).f4)) := hcc10 4 _ rfl; have hf10_0 : w11.frozen? ⟨go10, (x4_1 : Int).toNat * 5, none⟩ = false := hfr10 0; have hf10_1 : w11.frozen? ⟨go10, (x4_1 : Int).toNat * 5 + 1, none⟩ = false := hfr10 1; have hf10_2 : w11.frozen? ⟨go10, (x4_1 : Int).toNat * 5 + 2, none⟩ = false := hfr10 2; have hf10_3 : w11.frozen? ⟨go10, (x4_1 : Int).toNat * 5 + 3, none⟩ = false := hfr10 3; have hf10_4 : w11.frozen? ⟨go10, (x4_1 : Int).toNat * 5 + 4, none⟩ = false := hfr10 4; clear hcl10 hcc10 hfr10; (try clear hM10); replace p10 := eq_true p10; replace q10 := eq_true q10; have HX12 := am (show Kd.R k71 71 w11 w.heap.size (fun _ => True) (.slice (some ⟨go10, 0, none⟩) x3_1.length co10) x3_1 from (rk HO_3.out)); obtain ⟨ce12, hcl12, hM12, hcc12, hfr12⟩ := Kd.R_elem HX12.out z71 (x4_1 : Int) (asm) (by have h_ : (x4_1 : Int) < ((x3_1.length : Int) : Int) := asm; first | exact h_ | (have e_ := (Kd.R_reads' HO_3.out).1; omega) | simpa using h_); obtain rfl := k71_openM hM12; have HP12 := Kd.R_seg HX12.out (x4_1 : Int) (asm) (by have h_ : (x4_1 : Int) < ((x3_1.length : Int) : Int) := asm; first | exact h_ | (have e_ := (Kd.R_reads' HO_3.out).1; omega) | simpa using h_) (seg := [.int .i64 t141, .int .i64 t142, .int .i64 t143, .int .i64 t144, .int .i64 t145]) (j := 0) hcl12 hcc12 (show 5 ≤ 5 from by decide) (x' := (⟨t141, t142, t143, t144, t145⟩ : S71)) (k71_mkM _ _ _ (⟨t141, t142, t143, t144, t145⟩ : S71) ) (fun _ hk => hk); have hx12_0 := hcc12 0 _ rfl; (try simp only [show (k71).sz = 5 from rfl, Nat.mul_one, Nat.add_zero] at hx12_0); have hf12_0 := hfr12 0; (try simp only [show (k71).sz = 5 from rfl, Nat.mul_one, Nat.add_zero] at hf12_0); have hx12_1 := hcc12 1 _ rfl; (try simp only [show (k71).sz = 5 from rfl, Nat.mul_one, Nat.add_zero] at hx12_1); have hf12_1 := hfr12 1; (try simp only [show (k71).sz = 5 from rfl, Nat.mul_one, Nat.add_zero] at hf12_1); have hx12_2 := hcc12 2 _ rfl; (try simp only [show (k71).sz = 5 from rfl, Nat.mul_one, Nat.add_zero] at hx12_2); have hf12_2 := hfr12 2; (try simp only [show (k71).sz = 5 from rfl, Nat.mul_one, Nat.add_zero] at hf12_2); have hx12_3 := hcc12 3 _ rfl; (try simp only [show (k71).sz = 5 from rfl, Nat.mul_one, Nat.add_zero] at hx12_3); have hf12_3 := hfr12 3; (try simp only [show (k71).sz = 5 from rfl, Nat.mul_one, Nat.add_zero] at hf12_3); have hx12_4 := hcc12 4 _ rfl; (try simp only [show (k71).sz = 5 from rfl, Nat.mul_one, Nat.add_zero] at hx12_4); have hf12_4 := hfr12 4; (try simp only [show (k71).sz = 5 from rfl, Nat.mul_one, Nat.add_zero] at hf12_4); clear hcl12 hcc12 hfr12 hM12) | ((with_reducible refine gate_store (t := 71) (p := 21) rfl ?_); refine store_event (t := 71) (p := 21) (v := ?vo_w13) (w1 := (((((w11.setCell ⟨go10, (x4_1 : Int).toNat * 5, none⟩ (.int .i64 t141)).setCell ⟨go10, (x4_1 : Int).toNat * 5 + 1, none⟩ (.int .i64 t142)).setCell ⟨go10, (x4_1 : Int).toNat * 5 + 2, none⟩ (.int .i64 t143)).setCell ⟨go10, (x4_1 : Int).toNat * 5 + 3, none⟩ (.int .i64 t144)).setCell ⟨go10, (x4_1 : Int).toNat * 5 + 4, none⟩ (.int .i64 t145))) ?hg ?ho ?hn ?hr ?_; (case ho => rfl); (case hg => rfl); (case hn => rfl); (case hr => first | (go_simp; done) | (go_simp; rfl)); intro w13 hw; have hg : w11.grownBy w13 (some go10) := (by rw [hw]; exact HP12.2); have hp_ : Kd.R k71 71 w13 w.heap.size (fun _ => True) (.slice (some ⟨go10, 0, none⟩) x3_1.length co10) y146 := (by rw [hw, Ny146.out]; exact HP12.1); clear HP12; replace HO_3 := am (hp_); replace HB := am ((by rw [hw]; exact below_set (below_set (below_set (below_set (below_set (HB.out) GB10.out) GB10.out) GB10.out) GB10.out) GB10.out : Below w.heap.size w w13)); clear hg hw hp_))
     go_roundg k1
     case measure => have := HK1.out; omega
     case rel => exact ⟨(y146), (wrap64 (x4_1 + 1)), (es), H', ⟨by have := HK1.out; omega⟩, ⟨rk HO_3.out⟩, ⟨bel⟩⟩
    ·obtain rfl := Option.some.inj H
     go_wp2
     go_ret
     exact ⟨_, er, rk HO_3.out, bel⟩
 ·rw [if_neg c2] at H
  exact absurd H (by simp)
def laws_toBook.f (k : Nat) (l0_0 : List (S97)) (a0_1 : Int) (a0_2 : Int) (a0_3 : Int) (l0_4 : List Int) (a0_5 : Bool) (l0_6 : List (S104)) (l0_7 : List Int) (l0_8 : List Int) : Option ((List (S101)) × Int × Int × Int × List Int × Bool × (List (S71)) × List Int × List Int) := (laws_toTeamS.f k l0_0).bind fun t150 => ((laws_toRules.f k a0_1 a0_2 a0_3 l0_4 a0_5).bind fun bt153 => ((laws_toGameS.f k l0_6).bind fun t160 => ((laws_toIntS.f k l0_7).bind fun t163 => ((laws_toIntS.f k l0_8).bind fun t166 => (some (t150, bt153.1, bt153.2.1, bt153.2.2.1, bt153.2.2.2.1, bt153.2.2.2.2, t160, t163, t166))))))
set_option maxHeartbeats 8000000 in
set_option maxRecDepth 100000 in
theorem laws_toBook.calls (k : Nat) (A0_0 : Option Addr) (c0_0 : Nat) (l0_0 : List (S97)) (a0_1 : Int) (a0_2 : Int) (a0_3 : Int) (A0_4 : Option Addr) (c0_4 : Nat) (l0_4 : List Int) (a0_5 : Bool) (A0_6 : Option Addr) (c0_6 : Nat) (l0_6 : List (S104)) (A0_7 : Option Addr) (c0_7 : Nat) (l0_7 : List Int) (A0_8 : Option Addr) (c0_8 : Nat) (l0_8 : List Int) (r1 : List (S101)) (r2 : Int) (r3 : Int) (r4 : Int) (r5 : List Int) (r6 : Bool) (r7 : List (S71)) (r8 : List Int) (r9 : List Int) (w : World) (hr0_0 : Kd.C k97 w A0_0 l0_0.length l0_0) (hc0_0 : l0_0.length ≤ c0_0) (hr0_4 : Kd.C (Kd.int .i64) w A0_4 l0_4.length l0_4) (hc0_4 : l0_4.length ≤ c0_4) (hr0_6 : Kd.C k104 w A0_6 l0_6.length l0_6) (hc0_6 : l0_6.length ≤ c0_6) (hr0_7 : Kd.C (Kd.int .i64) w A0_7 l0_7.length l0_7) (hc0_7 : l0_7.length ≤ c0_7) (hr0_8 : Kd.C (Kd.int .i64) w A0_8 l0_8.length l0_8) (hc0_8 : l0_8.length ≤ c0_8) (h : laws_toBook.f k l0_0 a0_1 a0_2 a0_3 l0_4 a0_5 l0_6 l0_7 l0_8 = some (r1, r2, r3, r4, r5, r6, r7, r8, r9)) :
    Calls Try.prog 15 #[.agg #[.slice A0_0 l0_0.length c0_0, .int .i64 a0_1, .int .i64 a0_2, .int .i64 a0_3, .slice A0_4 l0_4.length c0_4, .bool a0_5, .slice A0_6 l0_6.length c0_6, .slice A0_7 l0_7.length c0_7, .slice A0_8 l0_8.length c0_8]] w fun e w' => ∃ v0_ v4_ v6_ v7_ v8_ : Value, e = .returned (.agg #[v0_, .int .i64 r2, .int .i64 r3, .int .i64 r4, v4_, .bool r6, v6_, v7_, v8_]) ∧ Kd.R k101 101 w' w.heap.size (fun _ => True) v0_ r1 ∧ Kd.R (Kd.int .i64) 3 w' w.heap.size (fun k_ => some k_ ≠ (v7_ : Value).ownBlock ∧ some k_ ≠ (v8_ : Value).ownBlock) v4_ r5 ∧ Kd.R k71 71 w' w.heap.size (fun _ => True) v6_ r7 ∧ Kd.R (Kd.int .i64) 3 w' w.heap.size (fun k_ => some k_ ≠ (v4_ : Value).ownBlock ∧ some k_ ≠ (v8_ : Value).ownBlock) v7_ r8 ∧ Kd.R (Kd.int .i64) 3 w' w.heap.size (fun k_ => some k_ ≠ (v4_ : Value).ownBlock ∧ some k_ ≠ (v7_ : Value).ownBlock) v8_ r9 ∧ Below w.heap.size w w' := by
  have hu28 := Try.underlying28
  have hu37 := Try.underlying37
  have hu25 := Try.underlying25
  have hu34 := Try.underlying34
  have HR0_0 := Aside0.mk hr0_0
  have HC0_0 := Aside0.mk hc0_0
  clear hr0_0 hc0_0
  have HR0_4 := Aside0.mk hr0_4
  have HC0_4 := Aside0.mk hc0_4
  clear hr0_4 hc0_4
  have HR0_6 := Aside0.mk hr0_6
  have HC0_6 := Aside0.mk hc0_6
  clear hr0_6 hc0_6
  have HR0_7 := Aside0.mk hr0_7
  have HC0_7 := Aside0.mk hc0_7
  clear hr0_7 hc0_7
  have HR0_8 := Aside0.mk hr0_8
  have HC0_8 := Aside0.mk hc0_8
  clear hr0_8 hc0_8
  have HB := Aside0.mk (Below.refl w.heap.size w)
  have H : ((laws_toTeamS.f k l0_0).bind fun t150 => ((laws_toRules.f k a0_1 a0_2 a0_3 l0_4 a0_5).bind fun bt153 => ((laws_toGameS.f k l0_6).bind fun t160 => ((laws_toIntS.f k l0_7).bind fun t163 => ((laws_toIntS.f k l0_8).bind fun t166 => (some (t150, bt153.1, bt153.2.1, bt153.2.2.1, bt153.2.2.2.1, bt153.2.2.2.2, t160, t163, t166))))))) = some (r1, r2, r3, r4, r5, r6, r7, r8, r9) := h
  clear h
  replace H := Option.bind_eq_some_iff.mp H
  obtain ⟨t150, A20, H⟩ := H
  replace H : ((laws_toRules.f k a0_1 a0_2 a0_3 l0_4 a0_5).bind fun bt153 => ((laws_toGameS.f k l0_6).bind fun t160 => ((laws_toIntS.f k l0_7).bind fun t163 => ((laws_toIntS.f k l0_8).bind fun t166 => (some (t150, bt153.1, bt153.2.1, bt153.2.2.1, bt153.2.2.2.1, bt153.2.2.2.2, t160, t163, t166)))))) = some (r1, r2, r3, r4, r5, r6, r7, r8, r9) := H
  have A2 := Aside0.mk A20
  clear A20
  replace H := Option.bind_eq_some_iff.mp H
  obtain ⟨⟨t153, t154, t155, t156, t159⟩, A30, H⟩ := H
  replace H : ((laws_toGameS.f k l0_6).bind fun t160 => ((laws_toIntS.f k l0_7).bind fun t163 => ((laws_toIntS.f k l0_8).bind fun t166 => (some (t150, t153, t154, t155, t156, t159, t160, t163, t166))))) = some (r1, r2, r3, r4, r5, r6, r7, r8, r9) := H
  have A3 := Aside0.mk A30
  clear A30
  replace H := Option.bind_eq_some_iff.mp H
  obtain ⟨t160, A40, H⟩ := H
  replace H : ((laws_toIntS.f k l0_7).bind fun t163 => ((laws_toIntS.f k l0_8).bind fun t166 => (some (t150, t153, t154, t155, t156, t159, t160, t163, t166)))) = some (r1, r2, r3, r4, r5, r6, r7, r8, r9) := H
  have A4 := Aside0.mk A40
  clear A40
  replace H := Option.bind_eq_some_iff.mp H
  obtain ⟨t163, A50, H⟩ := H
  replace H : ((laws_toIntS.f k l0_8).bind fun t166 => (some (t150, t153, t154, t155, t156, t159, t160, t163, t166))) = some (r1, r2, r3, r4, r5, r6, r7, r8, r9) := H
  have A5 := Aside0.mk A50
  clear A50
  replace H := Option.bind_eq_some_iff.mp H
  obtain ⟨t166, A60, H⟩ := H
  replace H : (some (t150, t153, t154, t155, t156, t159, t160, t163, t166)) = some (r1, r2, r3, r4, r5, r6, r7, r8, r9) := H
  have A6 := Aside0.mk A60
  clear A60
  simp only [Option.some.injEq, Prod.mk.injEq] at H
  obtain ⟨rfl, rfl, rfl, rfl, rfl, rfl, rfl, rfl, rfl⟩ := H
  go_enter Try.func15, Try.ntmps15
  go_wp2_with (first | ((with_reducible refine gate_dst (N := 1) rfl ?_); refine box_event ?hg (N := 1) ?hd (cs := #[.slice A0_0 l0_0.length c0_0, .int .i64 a0_1, .int .i64 a0_2, .int .i64 a0_3, .slice A0_4 l0_4.length c0_4, .bool a0_5, .slice A0_6 l0_6.length c0_6, .slice A0_7 l0_7.length c0_7, .slice A0_8 l0_8.length c0_8]) (t := 28) ?hr ?_; (case hd => rfl); (case hg => rfl); (case hr => first | (go_simp; done) | (go_simp; rfl)); intro gb147 hg w7 hbox hb; have BK147 := Aside0.mk (hbox); have GW147 := Aside0.mk ((bsz hg : w.heap.size ≤ gb147)); have GE147 := Aside0.mk ((bsz hg : w.heap.size ≤ gb147)); replace HB := Aside0.mk (below_step bel hb); clear hb hbox hg) | ((with_reducible refine gate_dst (N := 2) rfl ?_); refine box_event ?hg (N := 2) ?hd (cs := #[.slice none 0 0, .int .i64 0, .int .i64 0, .int .i64 0, .slice none 0 0, .bool false, .slice none 0 0, .slice none 0 0, .slice none 0 0]) (t := 37) ?hr ?_; (case hd => rfl); (case hg => rfl); (case hr => first | (go_simp; done) | (go_simp; rfl)); intro gb148 hg w8 hbox hb; have BK148 := Aside0.mk (hbox); have GW148 := Aside0.mk ((bsz hg : w.heap.size ≤ gb148)); have GE148 := Aside0.mk ((bsz hg : w.heap.size ≤ gb148)); have NB147_148 := Aside0.mk ((nlt hg BK147.out : gb147 ≠ gb148)); have NB148_147 := Aside0.mk ((ngt hg BK147.out : gb148 ≠ gb147)); replace BK147 := Aside0.mk (bb BK147.out hb); replace HB := Aside0.mk (below_step bel hb); clear hb hbox hg) | ((with_reducible refine gate_dst (N := 3) rfl ?_); refine box_event ?hg (N := 3) ?hd (cs := #[.slice none 0 0, .int .i64 0, .int .i64 0, .int .i64 0, .slice none 0 0, .bool false, .slice none 0 0, .slice none 0 0, .slice none 0 0]) (t := 37) ?hr ?_; (case hd => rfl); (case hg => rfl); (case hr => first | (go_simp; done) | (go_simp; rfl)); intro gb149 hg w9 hbox hb; have BK149 := Aside0.mk (hbox); have GW149 := Aside0.mk ((bsz hg : w.heap.size ≤ gb149)); have GE149 := Aside0.mk ((bsz hg : w.heap.size ≤ gb149)); have NB147_149 := Aside0.mk ((nlt hg BK147.out : gb147 ≠ gb149)); have NB149_147 := Aside0.mk ((ngt hg BK147.out : gb149 ≠ gb147)); have NB148_149 := Aside0.mk ((nlt hg BK148.out : gb148 ≠ gb149)); have NB149_148 := Aside0.mk ((ngt hg BK148.out : gb149 ≠ gb148)); replace BK147 := Aside0.mk (bb BK147.out hb); replace BK148 := Aside0.mk (bb BK148.out hb); replace HB := Aside0.mk (below_step bel hb); clear hb hbox hg; have hnb10 := NB147_148.out; have hnc10 := NB148_147.out; have hnb11 := NB147_149.out; have hnc11 := NB149_147.out; obtain ⟨hcz12_0, hcz12_1, hcz12_2, hcz12_3, hcz12_4, hcz12_5, hcz12_6, hcz12_7, hcz12_8, hfz12_0, hfz12_1, hfz12_2, hfz12_3, hfz12_4, hfz12_5, hfz12_6, hfz12_7, hfz12_8⟩ := cf9 BK147.out) | ((with_reducible refine gate_callee (f := 51) rfl ?_); refine goesL_ (some 6) rfl rfl Try.func51 (by kernel_rfl) rfl #[.slice A0_0 l0_0.length c0_0] rfl ga ?_; (with_reducible refine (laws_toTeamS.calls k _ _ l0_0 t150 _ ?side1 ?side2 A2.out).mono ?_); (case side1 => exact ck (Kd.C_below HR0_0.out HB.out)); (case side2 => exact HC0_0.out); rintro e w13 ⟨v151, rfl, ho0, hb⟩; refine ⟨_, rfl, ?_⟩; have HO152 := Aside0.mk (Kd.R_lower ho0 (below_size bel)); replace BK147 := Aside0.mk (bb BK147.out hb); replace BK148 := Aside0.mk (bb BK148.out hb); replace BK149 := Aside0.mk (bb BK149.out hb); replace HB := Aside0.mk (below_step bel hb); (try clear hb); (try clear ho0); obtain ⟨Ao14, co14, eo14⟩ := Kd.R_slice HO152.out; subst eo14; have hnb15 := NB149_148.out; have hnc15 := NB148_149.out; obtain ⟨hcz16_0, hcz16_1, hcz16_2, hcz16_3, hcz16_4, hcz16_5, hcz16_6, hcz16_7, hcz16_8, hfz16_0, hfz16_1, hfz16_2, hfz16_3, hfz16_4, hfz16_5, hfz16_6, hfz16_7, hfz16_8⟩ := cf9 BK149.out; obtain ⟨hcz17_0, hcz17_1, hcz17_2, hcz17_3, hcz17_4, hcz17_5, hcz17_6, hcz17_7, hcz17_8, hfz17_0, hfz17_1, hfz17_2, hfz17_3, hfz17_4, hfz17_5, hfz17_6, hfz17_7, hfz17_8⟩ := cf9 BK147.out) | ((with_reducible refine gate_callee (f := 52) rfl ?_); refine goesL_ (some 10) rfl rfl Try.func52 (by kernel_rfl) rfl #[.agg #[.int .i64 a0_1, .int .i64 a0_2, .int .i64 a0_3, .slice A0_4 l0_4.length c0_4, .bool a0_5]] rfl ga ?_; (with_reducible refine (laws_toRules.calls k a0_1 a0_2 a0_3 _ _ l0_4 a0_5 t153 t154 t155 t156 t159 _ ?side1 ?side2 A3.out).mono ?_); (case side1 => exact Kd.C_below HR0_4.out bel); (case side2 => exact HC0_4.out); rintro e w18 ⟨v157, rfl, ho0, hb⟩; refine ⟨_, rfl, ?_⟩; have HO158 := Aside0.mk (Kd.R_lower ho0 (below_size bel)); replace HO152 := Aside0.mk (Kd.R_below (by exact rk (Kd.R_mono (Kd.R_far (p := ⟨gb149, 0, none⟩) (Kd.R_types HO152.out BK149.out (by decide)) (fun _ hk => hk.2) (.slice Ao14 t150.length co14)) (fun _ h_ => h_.1))) hb); replace BK147 := Aside0.mk (bb BK147.out hb); replace BK148 := Aside0.mk (bb BK148.out hb); replace BK149 := Aside0.mk (blk_below (g := gb149) (o := .cells #[.slice Ao14 t150.length co14, .int .i64 0, .int .i64 0, .int .i64 0, .slice none 0 0, .bool false, .slice none 0 0, .slice none 0 0, .slice none 0 0] 37 (0, 0)) (by (with_reducible repeat (first | refine blk_drewN ?_ _ | refine blk_drew ?_ | refine blk_alloc ?_ _)); refine blk_put (cs := #[.slice none 0 0, .int .i64 0, .int .i64 0, .int .i64 0, .slice none 0 0, .bool false, .slice none 0 0, .slice none 0 0, .slice none 0 0]) ?_ 0 _ rfl; (with_reducible repeat (first | refine blk_drewN ?_ _ | refine blk_drew ?_ | refine blk_alloc ?_ _)); exact BK149.out) hb); replace HB := Aside0.mk (below_step bel hb); (try clear hb); (try clear ho0); obtain ⟨hcz19_0, hcz19_1, hcz19_2, hcz19_3, hcz19_4, hcz19_5, hcz19_6, hcz19_7, hcz19_8, hfz19_0, hfz19_1, hfz19_2, hfz19_3, hfz19_4, hfz19_5, hfz19_6, hfz19_7, hfz19_8⟩ := cf9 BK149.out; obtain ⟨Ao20, co20, eo20⟩ := Kd.R_slice HO158.out; subst eo20; obtain ⟨hcz21_0, hcz21_1, hcz21_2, hcz21_3, hcz21_4, hcz21_5, hcz21_6, hcz21_7, hcz21_8, hfz21_0, hfz21_1, hfz21_2, hfz21_3, hfz21_4, hfz21_5, hfz21_6, hfz21_7, hfz21_8⟩ := cf9 BK147.out) | ((with_reducible refine gate_callee (f := 53) rfl ?_); refine goesL_ (some 14) rfl rfl Try.func53 (by kernel_rfl) rfl #[.slice A0_6 l0_6.length c0_6] rfl ga ?_; (with_reducible refine (laws_toGameS.calls k _ _ l0_6 t160 _ ?side1 ?side2 A4.out).mono ?_); (case side1 => exact Kd.C_below HR0_6.out bel); (case side2 => exact HC0_6.out); rintro e w22 ⟨v161, rfl, ho0, hb⟩; refine ⟨_, rfl, ?_⟩; have HO162 := Aside0.mk (Kd.R_lower ho0 (below_size bel)); replace HO152 := Aside0.mk (Kd.R_below (by exact rk (Kd.R_mono (Kd.R_far (p := ⟨gb149, 5, none⟩) (Kd.R_far (p := ⟨gb149, 4, none⟩) (Kd.R_far (p := ⟨gb149, 3, none⟩) (Kd.R_far (p := ⟨gb149, 2, none⟩) (Kd.R_far (p := ⟨gb149, 1, none⟩) (Kd.R_types HO152.out BK149.out (by decide)) (fun _ hk => hk.2) (.int .i64 t153)) (fun _ hk => hk.2) (.int .i64 t154)) (fun _ hk => hk.2) (.int .i64 t155)) (fun _ hk => hk.2) (.slice Ao20 t156.length co20)) (fun _ hk => hk.2) (.bool t159)) (fun _ h_ => h_.1))) hb); replace HO158 := Aside0.mk (Kd.R_below (by exact rk (Kd.R_mono (Kd.R_far (p := ⟨gb149, 5, none⟩) (Kd.R_far (p := ⟨gb149, 4, none⟩) (Kd.R_far (p := ⟨gb149, 3, none⟩) (Kd.R_far (p := ⟨gb149, 2, none⟩) (Kd.R_far (p := ⟨gb149, 1, none⟩) (Kd.R_types HO158.out BK149.out (by decide)) (fun _ hk => hk.2) (.int .i64 t153)) (fun _ hk => hk.2) (.int .i64 t154)) (fun _ hk => hk.2) (.int .i64 t155)) (fun _ hk => hk.2) (.slice Ao20 t156.length co20)) (fun _ hk => hk.2) (.bool t159)) (fun _ h_ => h_.1))) hb); replace BK147 := Aside0.mk (bb BK147.out hb); replace BK148 := Aside0.mk (bb BK148.out hb); replace BK149 := Aside0.mk (blk_below (g := gb149) (o := .cells #[.slice Ao14 t150.length co14, .int .i64 t153, .int .i64 t154, .int .i64 t155, .slice Ao20 t156.length co20, .bool t159, .slice none 0 0, .slice none 0 0, .slice none 0 0] 37 (0, 0)) (by (with_reducible repeat (first | refine blk_drewN ?_ _ | refine blk_drew ?_ | refine blk_alloc ?_ _)); refine blk_put (cs := #[.slice Ao14 t150.length co14, .int .i64 t153, .int .i64 t154, .int .i64 t155, .slice Ao20 t156.length co20, .bool false, .slice none 0 0, .slice none 0 0, .slice none 0 0]) ?_ 5 _ rfl; (with_reducible repeat (first | refine blk_drewN ?_ _ | refine blk_drew ?_ | refine blk_alloc ?_ _)); refine blk_put (cs := #[.slice Ao14 t150.length co14, .int .i64 t153, .int .i64 t154, .int .i64 t155, .slice none 0 0, .bool false, .slice none 0 0, .slice none 0 0, .slice none 0 0]) ?_ 4 _ rfl; (with_reducible repeat (first | refine blk_drewN ?_ _ | refine blk_drew ?_ | refine blk_alloc ?_ _)); refine blk_put (cs := #[.slice Ao14 t150.length co14, .int .i64 t153, .int .i64 t154, .int .i64 0, .slice none 0 0, .bool false, .slice none 0 0, .slice none 0 0, .slice none 0 0]) ?_ 3 _ rfl; (with_reducible repeat (first | refine blk_drewN ?_ _ | refine blk_drew ?_ | refine blk_alloc ?_ _)); refine blk_put (cs := #[.slice Ao14 t150.length co14, .int .i64 t153, .int .i64 0, .int .i64 0, .slice none 0 0, .bool false, .slice none 0 0, .slice none 0 0, .slice none 0 0]) ?_ 2 _ rfl; (with_reducible repeat (first | refine blk_drewN ?_ _ | refine blk_drew ?_ | refine blk_alloc ?_ _)); refine blk_put (cs := #[.slice Ao14 t150.length co14, .int .i64 0, .int .i64 0, .int .i64 0, .slice none 0 0, .bool false, .slice none 0 0, .slice none 0 0, .slice none 0 0]) ?_ 1 _ rfl; (with_reducible repeat (first | refine blk_drewN ?_ _ | refine blk_drew ?_ | refine blk_alloc ?_ _)); exact BK149.out) hb); replace HB := Aside0.mk (below_step bel hb); (try clear hb); (try clear ho0); obtain ⟨Ao23, co23, eo23⟩ := Kd.R_slice HO162.out; subst eo23; obtain ⟨hcz24_0, hcz24_1, hcz24_2, hcz24_3, hcz24_4, hcz24_5, hcz24_6, hcz24_7, hcz24_8, hfz24_0, hfz24_1, hfz24_2, hfz24_3, hfz24_4, hfz24_5, hfz24_6, hfz24_7, hfz24_8⟩ := cf9 BK149.out; obtain ⟨hcz25_0, hcz25_1, hcz25_2, hcz25_3, hcz25_4, hcz25_5, hcz25_6, hcz25_7, hcz25_8, hfz25_0, hfz25_1, hfz25_2, hfz25_3, hfz25_4, hfz25_5, hfz25_6, hfz25_7, hfz25_8⟩ := cf9 BK147.out) | ((with_reducible refine gate_callee (f := 24) rfl ?_); refine goesL_ (some 18) rfl rfl Try.func24 (by kernel_rfl) rfl #[.slice A0_7 l0_7.length c0_7] rfl ga ?_; (with_reducible refine (laws_toIntS.calls k _ _ l0_7 t163 _ ?side1 ?side2 A5.out).mono ?_); (case side1 => exact Kd.C_below HR0_7.out bel); (case side2 => exact HC0_7.out); rintro e w26 ⟨v164, rfl, ho0, hb⟩; refine ⟨_, rfl, ?_⟩; have HO165 := Aside0.mk (Kd.R_lower (Kd.R_new' ho0 (Kd.R_lt (by exact rk (Kd.R_mono (Kd.R_far (p := ⟨gb149, 6, none⟩) (Kd.R_types HO158.out BK149.out (by decide)) (fun _ hk => hk.2) (.slice Ao23 t160.length co23)) (fun _ h_ => h_.1))))) (below_size bel)); replace HO152 := Aside0.mk (Kd.R_below (by exact rk (Kd.R_mono (Kd.R_far (p := ⟨gb149, 6, none⟩) (Kd.R_types HO152.out BK149.out (by decide)) (fun _ hk => hk.2) (.slice Ao23 t160.length co23)) (fun _ h_ => h_.1))) hb); replace HO158 := Aside0.mk (Kd.R_elder' (by exact rk (Kd.R_mono (Kd.R_far (p := ⟨gb149, 6, none⟩) (Kd.R_types HO158.out BK149.out (by decide)) (fun _ hk => hk.2) (.slice Ao23 t160.length co23)) (fun _ h_ => h_.1))) (Kd.R_base ho0) hb); replace HO162 := Aside0.mk (Kd.R_below (by exact rk (Kd.R_mono (Kd.R_far (p := ⟨gb149, 6, none⟩) (Kd.R_types HO162.out BK149.out (by decide)) (fun _ hk => hk.2) (.slice Ao23 t160.length co23)) (fun _ h_ => h_.1))) hb); replace BK147 := Aside0.mk (bb BK147.out hb); replace BK148 := Aside0.mk (bb BK148.out hb); replace BK149 := Aside0.mk (blk_below (g := gb149) (o := .cells #[.slice Ao14 t150.length co14, .int .i64 t153, .int .i64 t154, .int .i64 t155, .slice Ao20 t156.length co20, .bool t159, .slice Ao23 t160.length co23, .slice none 0 0, .slice none 0 0] 37 (0, 0)) (by (with_reducible repeat (first | refine blk_drewN ?_ _ | refine blk_drew ?_ | refine blk_alloc ?_ _)); refine blk_put (cs := #[.slice Ao14 t150.length co14, .int .i64 t153, .int .i64 t154, .int .i64 t155, .slice Ao20 t156.length co20, .bool t159, .slice none 0 0, .slice none 0 0, .slice none 0 0]) ?_ 6 _ rfl; (with_reducible repeat (first | refine blk_drewN ?_ _ | refine blk_drew ?_ | refine blk_alloc ?_ _)); exact BK149.out) hb); replace HB := Aside0.mk (below_step bel hb); (try clear hb); (try clear ho0); obtain ⟨Ao27, co27, eo27⟩ := Kd.R_slice HO165.out; subst eo27; obtain ⟨hcz28_0, hcz28_1, hcz28_2, hcz28_3, hcz28_4, hcz28_5, hcz28_6, hcz28_7, hcz28_8, hfz28_0, hfz28_1, hfz28_2, hfz28_3, hfz28_4, hfz28_5, hfz28_6, hfz28_7, hfz28_8⟩ := cf9 BK149.out; obtain ⟨hcz29_0, hcz29_1, hcz29_2, hcz29_3, hcz29_4, hcz29_5, hcz29_6, hcz29_7, hcz29_8, hfz29_0, hfz29_1, hfz29_2, hfz29_3, hfz29_4, hfz29_5, hfz29_6, hfz29_7, hfz29_8⟩ := cf9 BK147.out) | ((with_reducible refine gate_callee (f := 24) rfl ?_); refine goesL_ (some 22) rfl rfl Try.func24 (by kernel_rfl) rfl #[.slice A0_8 l0_8.length c0_8] rfl ga ?_; (with_reducible refine (laws_toIntS.calls k _ _ l0_8 t166 _ ?side1 ?side2 A6.out).mono ?_); (case side1 => exact Kd.C_below HR0_8.out bel); (case side2 => exact HC0_8.out); rintro e w30 ⟨v167, rfl, ho0, hb⟩; refine ⟨_, rfl, ?_⟩; have HO168 := Aside0.mk (Kd.R_lower (Kd.R_new' (Kd.R_new' ho0 (Kd.R_lt (by exact rk (Kd.R_mono (Kd.R_far (p := ⟨gb149, 7, none⟩) (Kd.R_types HO158.out BK149.out (by decide)) (fun _ hk => hk.2) (.slice Ao27 t163.length co27)) (fun _ h_ => h_.1))))) (Kd.R_lt (by exact rk (Kd.R_mono (Kd.R_far (p := ⟨gb149, 7, none⟩) (Kd.R_types HO165.out BK149.out (by decide)) (fun _ hk => hk.2) (.slice Ao27 t163.length co27)) (fun _ h_ => h_.1))))) (below_size bel)); replace HO152 := Aside0.mk (Kd.R_below (by exact rk (Kd.R_mono (Kd.R_far (p := ⟨gb149, 7, none⟩) (Kd.R_types HO152.out BK149.out (by decide)) (fun _ hk => hk.2) (.slice Ao27 t163.length co27)) (fun _ h_ => h_.1))) hb); replace HO158 := Aside0.mk (Kd.R_elder' (by exact rk (Kd.R_mono (Kd.R_far (p := ⟨gb149, 7, none⟩) (Kd.R_types HO158.out BK149.out (by decide)) (fun _ hk => hk.2) (.slice Ao27 t163.length co27)) (fun _ h_ => h_.1))) (Kd.R_base ho0) hb); replace HO162 := Aside0.mk (Kd.R_below (by exact rk (Kd.R_mono (Kd.R_far (p := ⟨gb149, 7, none⟩) (Kd.R_types HO162.out BK149.out (by decide)) (fun _ hk => hk.2) (.slice Ao27 t163.length co27)) (fun _ h_ => h_.1))) hb); replace HO165 := Aside0.mk (Kd.R_elder' (by exact rk (Kd.R_mono (Kd.R_far (p := ⟨gb149, 7, none⟩) (Kd.R_types HO165.out BK149.out (by decide)) (fun _ hk => hk.2) (.slice Ao27 t163.length co27)) (fun _ h_ => h_.1))) (Kd.R_base ho0) hb); replace BK147 := Aside0.mk (bb BK147.out hb); replace BK148 := Aside0.mk (bb BK148.out hb); replace BK149 := Aside0.mk (blk_below (g := gb149) (o := .cells #[.slice Ao14 t150.length co14, .int .i64 t153, .int .i64 t154, .int .i64 t155, .slice Ao20 t156.length co20, .bool t159, .slice Ao23 t160.length co23, .slice Ao27 t163.length co27, .slice none 0 0] 37 (0, 0)) (by (with_reducible repeat (first | refine blk_drewN ?_ _ | refine blk_drew ?_ | refine blk_alloc ?_ _)); refine blk_put (cs := #[.slice Ao14 t150.length co14, .int .i64 t153, .int .i64 t154, .int .i64 t155, .slice Ao20 t156.length co20, .bool t159, .slice Ao23 t160.length co23, .slice none 0 0, .slice none 0 0]) ?_ 7 _ rfl; (with_reducible repeat (first | refine blk_drewN ?_ _ | refine blk_drew ?_ | refine blk_alloc ?_ _)); exact BK149.out) hb); replace HB := Aside0.mk (below_step bel hb); (try clear hb); (try clear ho0); obtain ⟨Ao31, co31, eo31⟩ := Kd.R_slice HO168.out; subst eo31; obtain ⟨hcz32_0, hcz32_1, hcz32_2, hcz32_3, hcz32_4, hcz32_5, hcz32_6, hcz32_7, hcz32_8, hfz32_0, hfz32_1, hfz32_2, hfz32_3, hfz32_4, hfz32_5, hfz32_6, hfz32_7, hfz32_8⟩ := cf9 BK149.out; obtain ⟨hcz33_0, hcz33_1, hcz33_2, hcz33_3, hcz33_4, hcz33_5, hcz33_6, hcz33_7, hcz33_8, hfz33_0, hfz33_1, hfz33_2, hfz33_3, hfz33_4, hfz33_5, hfz33_6, hfz33_7, hfz33_8⟩ := cf9 BK148.out))
  refine bodyPost_ret (results_cell_row rfl _ _ gb148 37 #[.slice Ao14 t150.length co14, .int .i64 t153, .int .i64 t154, .int .i64 t155, .slice Ao20 t156.length co20, .bool t159, .slice Ao23 t160.length co23, .slice Ao27 t163.length co27, .slice Ao31 t166.length co31] (0, 0) _ rfl (by (with_reducible repeat (first | refine blk_drewN ?_ _ | refine blk_drew ?_ | refine blk_alloc ?_ _)); refine blk_put (cs := #[.slice Ao14 t150.length co14, .int .i64 t153, .int .i64 t154, .int .i64 t155, .slice Ao20 t156.length co20, .bool t159, .slice Ao23 t160.length co23, .slice Ao27 t163.length co27, .slice none 0 0]) ?_ 8 _ rfl; (with_reducible repeat (first | refine blk_drewN ?_ _ | refine blk_drew ?_ | refine blk_alloc ?_ _)); refine blk_put (cs := #[.slice Ao14 t150.length co14, .int .i64 t153, .int .i64 t154, .int .i64 t155, .slice Ao20 t156.length co20, .bool t159, .slice Ao23 t160.length co23, .slice none 0 0, .slice none 0 0]) ?_ 7 _ rfl; (with_reducible repeat (first | refine blk_drewN ?_ _ | refine blk_drew ?_ | refine blk_alloc ?_ _)); refine blk_put (cs := #[.slice Ao14 t150.length co14, .int .i64 t153, .int .i64 t154, .int .i64 t155, .slice Ao20 t156.length co20, .bool t159, .slice none 0 0, .slice none 0 0, .slice none 0 0]) ?_ 6 _ rfl; (with_reducible repeat (first | refine blk_drewN ?_ _ | refine blk_drew ?_ | refine blk_alloc ?_ _)); refine blk_put (cs := #[.slice Ao14 t150.length co14, .int .i64 t153, .int .i64 t154, .int .i64 t155, .slice Ao20 t156.length co20, .bool false, .slice none 0 0, .slice none 0 0, .slice none 0 0]) ?_ 5 _ rfl; (with_reducible repeat (first | refine blk_drewN ?_ _ | refine blk_drew ?_ | refine blk_alloc ?_ _)); refine blk_put (cs := #[.slice Ao14 t150.length co14, .int .i64 t153, .int .i64 t154, .int .i64 t155, .slice none 0 0, .bool false, .slice none 0 0, .slice none 0 0, .slice none 0 0]) ?_ 4 _ rfl; (with_reducible repeat (first | refine blk_drewN ?_ _ | refine blk_drew ?_ | refine blk_alloc ?_ _)); refine blk_put (cs := #[.slice Ao14 t150.length co14, .int .i64 t153, .int .i64 t154, .int .i64 0, .slice none 0 0, .bool false, .slice none 0 0, .slice none 0 0, .slice none 0 0]) ?_ 3 _ rfl; (with_reducible repeat (first | refine blk_drewN ?_ _ | refine blk_drew ?_ | refine blk_alloc ?_ _)); refine blk_put (cs := #[.slice Ao14 t150.length co14, .int .i64 t153, .int .i64 0, .int .i64 0, .slice none 0 0, .bool false, .slice none 0 0, .slice none 0 0, .slice none 0 0]) ?_ 2 _ rfl; (with_reducible repeat (first | refine blk_drewN ?_ _ | refine blk_drew ?_ | refine blk_alloc ?_ _)); refine blk_put (cs := #[.slice Ao14 t150.length co14, .int .i64 0, .int .i64 0, .int .i64 0, .slice none 0 0, .bool false, .slice none 0 0, .slice none 0 0, .slice none 0 0]) ?_ 1 _ rfl; (with_reducible repeat (first | refine blk_drewN ?_ _ | refine blk_drew ?_ | refine blk_alloc ?_ _)); refine blk_put (cs := #[.slice none 0 0, .int .i64 0, .int .i64 0, .int .i64 0, .slice none 0 0, .bool false, .slice none 0 0, .slice none 0 0, .slice none 0 0]) ?_ 0 _ rfl; (with_reducible repeat (first | refine blk_drewN ?_ _ | refine blk_drew ?_ | refine blk_alloc ?_ _)); refine blk_far ?_ NB148_149.out _; (with_reducible repeat (first | refine blk_drewN ?_ _ | refine blk_drew ?_ | refine blk_alloc ?_ _)); exact BK148.out) Try.underlying37 rfl (by kernel_rfl)) rfl ?_
  exact ⟨_, _, _, _, _, er, by (with_reducible repeat (first | apply Kd.R_alloc | apply Kd.R_drewN | apply Kd.R_drew)); exact Kd.R_mono (Kd.R_far (p := ⟨gb148, 8, none⟩) (Kd.R_far (p := ⟨gb148, 7, none⟩) (Kd.R_far (p := ⟨gb148, 6, none⟩) (Kd.R_far (p := ⟨gb148, 5, none⟩) (Kd.R_far (p := ⟨gb148, 4, none⟩) (Kd.R_far (p := ⟨gb148, 3, none⟩) (Kd.R_far (p := ⟨gb148, 2, none⟩) (Kd.R_far (p := ⟨gb148, 1, none⟩) (Kd.R_far (p := ⟨gb148, 0, none⟩) (Kd.R_far (p := ⟨gb149, 8, none⟩) (Kd.R_types (Kd.R_types HO152.out BK149.out (by decide)) BK148.out (by decide)) (fun _ hk => hk.1.2) (.slice Ao31 t166.length co31)) (fun _ hk => hk.2) (.slice Ao14 t150.length co14)) (fun _ hk => hk.2) (.int .i64 t153)) (fun _ hk => hk.2) (.int .i64 t154)) (fun _ hk => hk.2) (.int .i64 t155)) (fun _ hk => hk.2) (.slice Ao20 t156.length co20)) (fun _ hk => hk.2) (.bool t159)) (fun _ hk => hk.2) (.slice Ao23 t160.length co23)) (fun _ hk => hk.2) (.slice Ao27 t163.length co27)) (fun _ hk => hk.2) (.slice Ao31 t166.length co31)) (fun _ hk => trivial), by (with_reducible repeat (first | apply Kd.R_alloc | apply Kd.R_drewN | apply Kd.R_drew)); exact Kd.R_mono (Kd.R_far (p := ⟨gb148, 8, none⟩) (Kd.R_far (p := ⟨gb148, 7, none⟩) (Kd.R_far (p := ⟨gb148, 6, none⟩) (Kd.R_far (p := ⟨gb148, 5, none⟩) (Kd.R_far (p := ⟨gb148, 4, none⟩) (Kd.R_far (p := ⟨gb148, 3, none⟩) (Kd.R_far (p := ⟨gb148, 2, none⟩) (Kd.R_far (p := ⟨gb148, 1, none⟩) (Kd.R_far (p := ⟨gb148, 0, none⟩) (Kd.R_far (p := ⟨gb149, 8, none⟩) (Kd.R_types (Kd.R_types HO158.out BK149.out (by decide)) BK148.out (by decide)) (fun _ hk => hk.1.2) (.slice Ao31 t166.length co31)) (fun _ hk => hk.2) (.slice Ao14 t150.length co14)) (fun _ hk => hk.2) (.int .i64 t153)) (fun _ hk => hk.2) (.int .i64 t154)) (fun _ hk => hk.2) (.int .i64 t155)) (fun _ hk => hk.2) (.slice Ao20 t156.length co20)) (fun _ hk => hk.2) (.bool t159)) (fun _ hk => hk.2) (.slice Ao23 t160.length co23)) (fun _ hk => hk.2) (.slice Ao27 t163.length co27)) (fun _ hk => hk.2) (.slice Ao31 t166.length co31)) (fun _ hk => ⟨hk.1.1.1.2, hk.1.1.2⟩), by (with_reducible repeat (first | apply Kd.R_alloc | apply Kd.R_drewN | apply Kd.R_drew)); exact Kd.R_mono (Kd.R_far (p := ⟨gb148, 8, none⟩) (Kd.R_far (p := ⟨gb148, 7, none⟩) (Kd.R_far (p := ⟨gb148, 6, none⟩) (Kd.R_far (p := ⟨gb148, 5, none⟩) (Kd.R_far (p := ⟨gb148, 4, none⟩) (Kd.R_far (p := ⟨gb148, 3, none⟩) (Kd.R_far (p := ⟨gb148, 2, none⟩) (Kd.R_far (p := ⟨gb148, 1, none⟩) (Kd.R_far (p := ⟨gb148, 0, none⟩) (Kd.R_far (p := ⟨gb149, 8, none⟩) (Kd.R_types (Kd.R_types HO162.out BK149.out (by decide)) BK148.out (by decide)) (fun _ hk => hk.1.2) (.slice Ao31 t166.length co31)) (fun _ hk => hk.2) (.slice Ao14 t150.length co14)) (fun _ hk => hk.2) (.int .i64 t153)) (fun _ hk => hk.2) (.int .i64 t154)) (fun _ hk => hk.2) (.int .i64 t155)) (fun _ hk => hk.2) (.slice Ao20 t156.length co20)) (fun _ hk => hk.2) (.bool t159)) (fun _ hk => hk.2) (.slice Ao23 t160.length co23)) (fun _ hk => hk.2) (.slice Ao27 t163.length co27)) (fun _ hk => hk.2) (.slice Ao31 t166.length co31)) (fun _ hk => trivial), by (with_reducible repeat (first | apply Kd.R_alloc | apply Kd.R_drewN | apply Kd.R_drew)); exact Kd.R_mono (Kd.R_far (p := ⟨gb148, 8, none⟩) (Kd.R_far (p := ⟨gb148, 7, none⟩) (Kd.R_far (p := ⟨gb148, 6, none⟩) (Kd.R_far (p := ⟨gb148, 5, none⟩) (Kd.R_far (p := ⟨gb148, 4, none⟩) (Kd.R_far (p := ⟨gb148, 3, none⟩) (Kd.R_far (p := ⟨gb148, 2, none⟩) (Kd.R_far (p := ⟨gb148, 1, none⟩) (Kd.R_far (p := ⟨gb148, 0, none⟩) (Kd.R_far (p := ⟨gb149, 8, none⟩) (Kd.R_types (Kd.R_types HO165.out BK149.out (by decide)) BK148.out (by decide)) (fun _ hk => hk.1.2) (.slice Ao31 t166.length co31)) (fun _ hk => hk.2) (.slice Ao14 t150.length co14)) (fun _ hk => hk.2) (.int .i64 t153)) (fun _ hk => hk.2) (.int .i64 t154)) (fun _ hk => hk.2) (.int .i64 t155)) (fun _ hk => hk.2) (.slice Ao20 t156.length co20)) (fun _ hk => hk.2) (.bool t159)) (fun _ hk => hk.2) (.slice Ao23 t160.length co23)) (fun _ hk => hk.2) (.slice Ao27 t163.length co27)) (fun _ hk => hk.2) (.slice Ao31 t166.length co31)) (fun _ hk => ⟨hk.1.1.1.2, hk.1.1.2⟩), by (with_reducible repeat (first | apply Kd.R_alloc | apply Kd.R_drewN | apply Kd.R_drew)); exact Kd.R_mono (Kd.R_far (p := ⟨gb148, 8, none⟩) (Kd.R_far (p := ⟨gb148, 7, none⟩) (Kd.R_far (p := ⟨gb148, 6, none⟩) (Kd.R_far (p := ⟨gb148, 5, none⟩) (Kd.R_far (p := ⟨gb148, 4, none⟩) (Kd.R_far (p := ⟨gb148, 3, none⟩) (Kd.R_far (p := ⟨gb148, 2, none⟩) (Kd.R_far (p := ⟨gb148, 1, none⟩) (Kd.R_far (p := ⟨gb148, 0, none⟩) (Kd.R_far (p := ⟨gb149, 8, none⟩) (Kd.R_types (Kd.R_types HO168.out BK149.out (by decide)) BK148.out (by decide)) (fun _ hk => hk.1.2) (.slice Ao31 t166.length co31)) (fun _ hk => hk.2) (.slice Ao14 t150.length co14)) (fun _ hk => hk.2) (.int .i64 t153)) (fun _ hk => hk.2) (.int .i64 t154)) (fun _ hk => hk.2) (.int .i64 t155)) (fun _ hk => hk.2) (.slice Ao20 t156.length co20)) (fun _ hk => hk.2) (.bool t159)) (fun _ hk => hk.2) (.slice Ao23 t160.length co23)) (fun _ hk => hk.2) (.slice Ao27 t163.length co27)) (fun _ hk => hk.2) (.slice Ao31 t166.length co31)) (fun _ hk => ⟨hk.1.1.1.2, hk.1.1.2⟩), bel⟩

def laws_eqIntS.l0 : Nat → List Int → List Int → Int → Option (Bool)
  | 0, _, _, _ => none
  | k + 1, x0, x1, x5 => if x5 < (x0.length : Int) then (if 0 ≤ x5 then (if x5 < (x1.length : Int) then (if (rd x0 x5) = (rd x1 x5) then (laws_eqIntS.l0 k x0 x1 (wrap64 (x5 + 1))) else (some false)) else (none)) else (none)) else (some true)
def laws_eqIntS.f (k : Nat) (l0 : List Int) (l1 : List Int) : Option (Bool) := if (l0.length : Int) = (l1.length : Int) then (laws_eqIntS.l0 k l0 l1 0) else (some false)
theorem laws_eqIntS.calls (k : Nat) (A0 : Option Addr) (c0 : Nat) (l0 : List Int) (A1 : Option Addr) (c1 : Nat) (l1 : List Int) (r : Bool) (w : World) (hr0 : Kd.C (Kd.int .i64) w A0 l0.length l0) (hc0 : l0.length ≤ c0) (hr1 : Kd.C (Kd.int .i64) w A1 l1.length l1) (hc1 : l1.length ≤ c1) (h : laws_eqIntS.f k l0 l1 = some r) : Calls Try.prog 26 #[.slice A0 l0.length c0, .slice A1 l1.length c1] w fun e w' => e = .returned (.bool r) ∧ Drawn0 w w' := by
 have HR0 := am hr0
 have HC0 := am hc0
 clear hr0 hc0
 have HR1 := am hr1
 have HC1 := am hc1
 clear hr1 hc1
 have H : (if (l0.length : Int) = (l1.length : Int) then (laws_eqIntS.l0 k l0 l1 0) else (some false)) = some r := h
 clear h
 by_cases c3 : (l0.length : Int) = (l1.length : Int)
 ·rw [if_pos c3] at H
  have c3b0 : ((l0.length : Int) == (l1.length : Int)) = true := beq_iff_eq.mpr c3
  have c3b1 : ((l0.length : Int) != (l1.length : Int)) = false := bne_eq_false_iff_eq.mpr c3
  have c3b2 : (l0.length == l1.length) = true := by first | simpa using c3 | (simp at c3 ⊢; omega)
  clear c3
  have H' := am H
  clear H
  go_enter Try.func26, Try.ntmps26
  go_wp2
  repeat (go_quiet (fail); try go_wp2)
  go_loopg [5] k (fun kq v5 w' => ∃ (x5_1 : Int), v5 = .int .i64 x5_1 ∧ Aside0 (laws_eqIntS.l0 kq l0 l1 x5_1 = some r) ∧ Aside0 (kq ≤ k) ∧ Drawn0 w w')
  case atStart => exact ⟨(0), (es), H', ⟨Nat.le_refl _⟩, by repeat (first | exact Drawn0.refl _ | apply Drawn0.step)⟩
  case round =>
   clear H'
   try clear c1; try clear c3; try clear c3b0; try clear c3b1; try clear c3b2
   obtain ⟨x5_1, rfl, HA, HK1, ⟨m1, rfl⟩⟩ := hrel
   cases gk with
   | zero => exact absurd HA.out (by simp [laws_eqIntS.l0])
   | succ k1 =>
    have H := HA.out
    clear HA
    simp only [laws_eqIntS.l0] at H
    replace H := i1 H; obtain ⟨c4b0, H⟩ | ⟨c4b0, H⟩ := H
    ·replace H := i0 H; obtain ⟨c5b0, H⟩ := H
     replace H := i0 H; obtain ⟨c6b0, H⟩ := H
     replace H := ie H; obtain ⟨c7b0, c7b1, H⟩ | ⟨⟨c7, c7b0, c7b1⟩, H⟩ := H
     ·have H' := am H
      clear H
      have p169 : 0 ≤ (x5_1 : Int) := asm
      have q169 : x5_1 < (l0.length : Int) := asm
      obtain ⟨ad169, e169, hx169_0⟩ := Kd.at_int HR0.out x5_1 p169 q169
      cases e169
      replace p169 := eq_true p169
      replace q169 := eq_true q169
      have p170 : 0 ≤ (x5_1 : Int) := asm
      have q170 : x5_1 < (l1.length : Int) := asm
      obtain ⟨ad170, e170, hx170_0⟩ := Kd.at_int HR1.out x5_1 p170 q170
      cases e170
      replace p170 := eq_true p170
      replace q170 := eq_true q170
      go_wp2
      repeat (go_quiet (fail); try go_wp2)
      go_roundg k1
      case measure => have := HK1.out; omega
      case rel => exact ⟨(wrap64 (x5_1 + 1)), (es), H', ⟨by have := HK1.out; omega⟩, by repeat (first | exact Drawn0.refl _ | apply Drawn0.step)⟩
     ·obtain rfl := Option.some.inj H
      have p169 : 0 ≤ (x5_1 : Int) := asm
      have q169 : x5_1 < (l0.length : Int) := asm
      obtain ⟨ad169, e169, hx169_0⟩ := Kd.at_int HR0.out x5_1 p169 q169
      cases e169
      replace p169 := eq_true p169
      replace q169 := eq_true q169
      have p170 : 0 ≤ (x5_1 : Int) := asm
      have q170 : x5_1 < (l1.length : Int) := asm
      obtain ⟨ad170, e170, hx170_0⟩ := Kd.at_int HR1.out x5_1 p170 q170
      cases e170
      replace p170 := eq_true p170
      replace q170 := eq_true q170
      go_wp2
      repeat (go_quiet (fail); try go_wp2)
      go_ret
      exact ⟨es, by repeat (first | exact Drawn0.refl _ | apply Drawn0.step)⟩
    ·obtain rfl := Option.some.inj H
     go_wp2
     repeat (go_quiet (fail); try go_wp2)
     go_ret
     exact ⟨es, by repeat (first | exact Drawn0.refl _ | apply Drawn0.step)⟩
 ·rw [if_neg c3] at H
  have c3b0 : ((l0.length : Int) == (l1.length : Int)) = false := beq_eq_false_iff_ne.mpr c3
  have c3b1 : ((l0.length : Int) != (l1.length : Int)) = true := bne_iff_ne.mpr c3
  have c3b2 : (l0.length == l1.length) = false := by first | simpa using c3 | (simp at c3 ⊢; omega)
  obtain rfl := Option.some.inj H
  go_enter Try.func26, Try.ntmps26
  go_wp2
  repeat (go_quiet (fail); try go_wp2)
  go_ret
  exact ⟨es, by repeat (first | exact Drawn0.refl _ | apply Drawn0.step)⟩
def laws_eqTeam.f (a0_0 : ByteArray) (a0_1 : Int) (a0_2 : Int) (a1_0 : ByteArray) (a1_1 : Int) (a1_2 : Int) : Option (Bool) := if a0_0.toList = a1_0.toList then (if a0_1 = a1_1 then (if a0_2 = a1_2 then (some true) else (some false)) else (some false)) else (some false)
theorem laws_eqTeam.calls (a0_0 : ByteArray) (a0_1 : Int) (a0_2 : Int) (a1_0 : ByteArray) (a1_1 : Int) (a1_2 : Int) (r : Bool) (w : World) (h : laws_eqTeam.f a0_0 a0_1 a0_2 a1_0 a1_1 a1_2 = some r) : Calls Try.prog 100 #[.agg #[.string a0_0, .int .i64 a0_1, .int .i64 a0_2], .agg #[.string a1_0, .int .i64 a1_1, .int .i64 a1_2]] w fun e w' => e = .returned (.bool r) ∧ Below w.heap.size w w' := by
 have hu101 := Try.underlying101
 have HB := am (Below.refl w.heap.size w)
 have H : (if a0_0.toList = a1_0.toList then (if a0_1 = a1_1 then (if a0_2 = a1_2 then (some true) else (some false)) else (some false)) else (some false)) = some r := h
 clear h
 by_cases c3 : a0_0.toList = a1_0.toList
 ·rw [if_pos c3] at H
  have c3b0 : (a0_0.toList == a1_0.toList) = true := beq_iff_eq.mpr c3
  have c3b1 : (a0_0.toList != a1_0.toList) = false := bne_eq_false_iff_eq.mpr c3
  clear c3
  replace H := ie H; obtain ⟨c4b0, c4b1, H⟩ | ⟨⟨c4, c4b0, c4b1⟩, H⟩ := H
  ·replace H := ie H; obtain ⟨c5b0, c5b1, H⟩ | ⟨⟨c5, c5b0, c5b1⟩, H⟩ := H
   ·obtain rfl := Option.some.inj H
    go_enter Try.func100, Try.ntmps100
    go_wp2_with (first | ((with_reducible refine gd 2 ?_); refine bx w 2 #[.string a0_0, .int .i64 a0_1, .int .i64 a0_2] 101 ?_; clear HB; intro gb171 w6 BK171 GE171 HB) | ((with_reducible refine gd 3 ?_); refine by_ w 3 #[.string a1_0, .int .i64 a1_1, .int .i64 a1_2] 101 ?_; clear HB; intro gb172 hg w7 BK172 GE172 hb HB; have NB171_172 := am ((nlt hg BK171.out : gb171 ≠ gb172)); have NB172_171 := am ((ngt hg BK171.out : gb172 ≠ gb171)); replace BK171 := b1 BK171 hb; clear hb hg; have hnb8 := NB171_172.out; have hnc8 := NB172_171.out; obtain ⟨_, _, _, _, _, _⟩ := cf3 BK171.out; obtain ⟨_, _, _, _, _, _⟩ := cf3 BK172.out))
    go_ret
    exact ⟨er, bel⟩
   ·obtain rfl := Option.some.inj H
    go_enter Try.func100, Try.ntmps100
    go_wp2_with (first | ((with_reducible refine gd 2 ?_); refine bx w 2 #[.string a0_0, .int .i64 a0_1, .int .i64 a0_2] 101 ?_; clear HB; intro gb171 w11 BK171 GE171 HB) | ((with_reducible refine gd 3 ?_); refine by_ w 3 #[.string a1_0, .int .i64 a1_1, .int .i64 a1_2] 101 ?_; clear HB; intro gb172 hg w12 BK172 GE172 hb HB; have NB171_172 := am ((nlt hg BK171.out : gb171 ≠ gb172)); have NB172_171 := am ((ngt hg BK171.out : gb172 ≠ gb171)); replace BK171 := b1 BK171 hb; clear hb hg; have hnb13 := NB171_172.out; have hnc13 := NB172_171.out; obtain ⟨_, _, _, _, _, _⟩ := cf3 BK171.out; obtain ⟨_, _, _, _, _, _⟩ := cf3 BK172.out))
    go_ret
    exact ⟨er, bel⟩
  ·obtain rfl := Option.some.inj H
   go_enter Try.func100, Try.ntmps100
   go_wp2_with (first | ((with_reducible refine gd 2 ?_); refine bx w 2 #[.string a0_0, .int .i64 a0_1, .int .i64 a0_2] 101 ?_; clear HB; intro gb171 w16 BK171 GE171 HB) | ((with_reducible refine gd 3 ?_); refine by_ w 3 #[.string a1_0, .int .i64 a1_1, .int .i64 a1_2] 101 ?_; clear HB; intro gb172 hg w17 BK172 GE172 hb HB; have NB171_172 := am ((nlt hg BK171.out : gb171 ≠ gb172)); have NB172_171 := am ((ngt hg BK171.out : gb172 ≠ gb171)); replace BK171 := b1 BK171 hb; clear hb hg; have hnb18 := NB171_172.out; have hnc18 := NB172_171.out; obtain ⟨_, _, _, _, _, _⟩ := cf3 BK171.out; obtain ⟨_, _, _, _, _, _⟩ := cf3 BK172.out))
   go_ret
   exact ⟨er, bel⟩
 ·rw [if_neg c3] at H
  have c3b0 : (a0_0.toList == a1_0.toList) = false := beq_eq_false_iff_ne.mpr c3
  have c3b1 : (a0_0.toList != a1_0.toList) = true := bne_iff_ne.mpr c3
  obtain rfl := Option.some.inj H
  go_enter Try.func100, Try.ntmps100
  go_wp2_with (first | ((with_reducible refine gd 2 ?_); refine bx w 2 #[.string a0_0, .int .i64 a0_1, .int .i64 a0_2] 101 ?_; clear HB; intro gb171 w21 BK171 GE171 HB) | ((with_reducible refine gd 3 ?_); refine by_ w 3 #[.string a1_0, .int .i64 a1_1, .int .i64 a1_2] 101 ?_; clear HB; intro gb172 hg w22 BK172 GE172 hb HB; have NB171_172 := am ((nlt hg BK171.out : gb171 ≠ gb172)); have NB172_171 := am ((ngt hg BK171.out : gb172 ≠ gb171)); replace BK171 := b1 BK171 hb; clear hb hg; have hnb23 := NB171_172.out; have hnc23 := NB172_171.out; obtain ⟨_, _, _, _, _, _⟩ := cf3 BK171.out; obtain ⟨_, _, _, _, _, _⟩ := cf3 BK172.out))
  go_ret
  exact ⟨er, bel⟩
end Go.Proofs.Ytgalpgakdcfilaa.Q
