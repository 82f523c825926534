-- Written by a program of this session (wip/xp.py, over the kit's print) out of the translation: functions, and the walks that show them.
import Derived.Test.YteaemblallbgpaaX0
namespace Go.Proofs.Yteaemblallbgpaa.X
open Go.RowKit Go.Proofs.YteaemblallbgpaaW.PrintWords Go.Proofs.YteaemblallbgpaaW.PrintLast Go.Proofs.YteaemblallbgpaaW.PrintMore
attribute [local go_sem] max2_int min2_int max_two min_two max_three min_three max_four min_four   -- for this text's walks alone
set_option linter.unusedVariables false
set_option linter.unusedSimpArgs false

/-! ### laws_markBoolS: function 32 -/
def laws_markBoolS.l0 : Nat → List Bool → Int → Int → Option (Int × List Bool)
  | 0, _, _, _ => none
  | k + 1, x0, x1, x5 => if x5 < (x0.length : Int) then (if 0 ≤ x5 then (laws_markBoolS.l0 k (x0.set (x5 : Int).toNat ((Int.tmod x1 3) == 0)) (wrap64 (x1 + 1)) (wrap64 (x5 + 1))) else (none)) else (some (x1, x0))
def laws_markBoolS.f (k : Nat) (l0 : List Bool) (a1 : Int) : Option (Int × List Bool) := laws_markBoolS.l0 k l0 a1 0
theorem laws_markBoolS.mono_l : ∀ k, (∀ y0 y1 y2, LeO (laws_markBoolS.l0 k y0 y1 y2) (laws_markBoolS.l0 (k + 1) y0 y1 y2))
  | 0 => fun _ _ _ r h => by simp [laws_markBoolS.l0] at h
  | k + 1 => by
    have ih0 := laws_markBoolS.mono_l k
    · intro y0 y1 y2
      unfold laws_markBoolS.l0
      repeat' first
      | (with_reducible exact ih0 _ _ _)
      | (with_reducible exact LeO.refl _)
      | (with_reducible exact LeO.none _)
      | (with_reducible refine LeO.ite ?_ ?_)
      | (with_reducible refine LeO.bind ?_ (fun _ => ?_))
      | exact ih0 _ _ _
      | exact LeO.none _
      | refine LeO.ite ?_ ?_
      | refine LeO.bind ?_ (fun _ => ?_)
theorem laws_markBoolS.mono : ∀ a0 a1 k, LeO (laws_markBoolS.f k a0 a1) (laws_markBoolS.f (k + 1) a0 a1) := by
  intro a0 a1 k
  have ih0 := laws_markBoolS.mono_l k
  unfold laws_markBoolS.f
  repeat' first
      | (with_reducible exact ih0 _ _ _)
      | (with_reducible exact LeO.refl _)
      | (with_reducible exact LeO.none _)
      | (with_reducible refine LeO.ite ?_ ?_)
      | (with_reducible refine LeO.bind ?_ (fun _ => ?_))
      | exact ih0 _ _ _
      | exact LeO.none _
      | refine LeO.ite ?_ ?_
      | refine LeO.bind ?_ (fun _ => ?_)
set_option maxHeartbeats 8000000 in
set_option maxRecDepth 100000 in
theorem laws_markBoolS.calls (k : Nat) (P0_ : Nat → Prop) (u9000_ : Value) (l0 : List Bool) (a1 : Int) (r1 : Int) (r2 : List Bool) (w0 w : World) (hB : Below w0.heap.size w0 w) (ho0 : Kd.R Kd.bool 4 w w0.heap.size P0_ u9000_ l0) (h : laws_markBoolS.f k l0 a1 = some (r1, r2)) :
    Calls Try.prog 32 #[u9000_, .int .i64 a1] w fun e w' => e = .returned (.int .i64 r1) ∧ Kd.R Kd.bool 4 w' w0.heap.size (fun k_ => (P0_ k_ ∨ w.heap.size ≤ k_)) u9000_ r2 ∧ Below w0.heap.size w0 w' ∧ Kept w w' (fun k_ => P0_ k_) := by
  have HO0 := Aside0.mk (show Kd.R Kd.bool 4 w w0.heap.size (fun k_ => (P0_ k_ ∨ w.heap.size ≤ k_)) u9000_ l0 from Kd.R_mono ho0 (fun k_ hk => (.inl hk)))
  have HK := Aside0.mk (Kept.refl w (fun k_ => P0_ k_))
  have HW0 := Aside0.mk hB.size
  have HB := Aside0.mk hB
  clear hB
  have H : (laws_markBoolS.l0 k l0 a1 0) = some (r1, r2) := h
  clear h
  have H' := Aside0.mk H
  clear H
  go_enter Try.func32, Try.ntmps32
  go_wp2
  go_loopg [1, 5] k (fun kq v1 v5 w' => ∃ (x0_1 : List Bool) (x1_1 : Int) (x5_1 : Int), v1 = .int .i64 x1_1 ∧ v5 = .int .i64 x5_1 ∧ Aside0 (laws_markBoolS.l0 kq x0_1 x1_1 x5_1 = some (r1, r2)) ∧ Aside0 (kq ≤ k) ∧ Aside0 (Kd.R Kd.bool 4 w' w0.heap.size (fun k_ => (P0_ k_ ∨ w.heap.size ≤ k_)) u9000_ x0_1) ∧ Aside0 (Kept w w' (fun k_ => P0_ k_)) ∧ Aside0 (Below w0.heap.size w0 w'))
  case atStart => exact ⟨(l0), (a1), (0), (es), (es), H', ⟨Nat.le_refl _⟩, ⟨rk HO0.out⟩, ⟨by repeat (first | (with_reducible first | exact HK.out | apply Kept.alloc | apply Kept.drewN | apply Kept.drew) | exact HK.out)⟩, ⟨bel⟩⟩
  case round =>
    clear H'
    try clear p2
    obtain ⟨x0_1, x1_1, x5_1, rfl, rfl, HA, HK1, HO_0, HK, HB⟩ := hrel
    cases gk with
    | zero => exact absurd HA.out (by simp [laws_markBoolS.l0])
    | succ k1 =>
      have H := HA.out
      clear HA
      simp only [laws_markBoolS.l0] at H
      by_cases c3 : x5_1 < (x0_1.length : Int)
      · rw [if_pos c3] at H
        have c3b0 : decide (x5_1 < (x0_1.length : Int)) = true := decide_eq_true c3
        clear c3
        by_cases c4 : 0 ≤ x5_1
        · rw [if_pos c4] at H
          have c4b0 : decide (0 ≤ x5_1) = true := decide_eq_true c4
          clear c4
          obtain ⟨y411, hy411⟩ : ∃ y_ : List Bool, y_ = (x0_1.set (x5_1 : Int).toNat ((Int.tmod x1_1 3) == 0)) := ⟨_, rfl⟩
          replace H : (laws_markBoolS.l0 k1 y411 (wrap64 (x1_1 + 1)) (wrap64 (x5_1 + 1))) = some (r1, r2) := by first | (rw [hy411]; with_reducible exact H) | (have H2_ := (Option.bind_some _ _).symm.trans H; rw [hy411]; with_reducible exact H2_) | (have H2_ := (Option.bind_some _ _).symm.trans H; with_reducible exact H2_) | with_reducible exact H | (rw [hy411]; exact H) | exact H
          have Ny411 := Aside0.mk hy411
          clear hy411
          have H' := Aside0.mk H
          clear H
          obtain ⟨Ao6, co6, eo6⟩ := Kd.R_slice HO_0.out
          subst eo6
          have p5 : 0 ≤ (x5_1 : Int) := asm
          have q5 : (x5_1 : Int) < ((x0_1.length : Int) : Int) := asm
          obtain ⟨go5, co5, eo5, gb5, gl5, cl5, HG5⟩ := Kd.R_form HO_0.out (by omega)
          (first | cases eo5 | (injection eo5 with ea_ en_ ec_; (first | subst ea_ | (injection ea_ with ea_; subst ea_)); subst ec_; clear en_))
          have GB5 := Aside0.mk gb5
          have GG5 := Aside0.mk HG5
          clear gb5 gl5 HG5
          have HMgo5 := Aside0.mk (show (P0_ go5 ∨ w.heap.size ≤ go5) from (HO_0.out.1 _ rfl))
          obtain ⟨hx5_0, hf5_0⟩ := Kd.R_celln false HO_0.out (x5_1 : Int) p5 q5
          replace p5 := eq_true p5
          replace q5 := eq_true q5
          have HP7 := Kd.R_putg HO_0.out (x5_1 : Int) ((Int.tmod x1_1 3) == 0)
          go_wp2_with (first | ((with_reducible refine gate_store (t := 4) (p := 17) rfl ?_); refine store_event (t := 4) (p := 17) (v := ?vo_w8) (w1 := (wr.setCell ⟨go5, (x5_1 : Int).toNat, none⟩ (.bool ((Int.tmod x1_1 3) == 0)))) ?hg ?ho ?hn ?hr ?_; (case ho => rfl); (case hg => rfl); (case hn => rfl); (case hr => first | (go_simp; done) | (go_simp; rfl)); intro w8 hw; have hg : wr.grownBy w8 (some go5) := (by rw [hw]; exact HP7.2); have hp_ : Kd.R Kd.bool 4 w8 w0.heap.size (fun k_ => (P0_ k_ ∨ w.heap.size ≤ k_)) (.slice (some ⟨go5, 0, none⟩) x0_1.length co6) y411 := (by rw [hw, Ny411.out]; exact HP7.1); clear HP7; have n0_ := Aside0.mk (hp_); have n1_ := Aside0.mk ((by rw [hw]; exact below_set (HB.out) GB5.out : Below w0.heap.size w0 w8)); have n2_ := Aside0.mk (Kept.of_grown (S := (fun k_ => P0_ k_)) hg (by repeat (first | (with_reducible first | exact HK.out | apply Kept.alloc | apply Kept.drewN | apply Kept.drew) | exact HK.out)) (fun k_ e_ => (HO_0.out.1 k_ e_))); clear HO_0; clear HB; clear HK; have HO_0 := n0_; have HB := n1_; have HK := n2_; clear n0_ n1_ n2_; clear hg hw hp_))
          go_roundg k1
          case measure => have := HK1.out; omega
          case rel => exact ⟨(y411), (wrap64 (x1_1 + 1)), (wrap64 (x5_1 + 1)), (es), (es), H', ⟨by have := HK1.out; omega⟩, ⟨rk HO_0.out⟩, ⟨by repeat (first | (with_reducible first | exact HK.out | apply Kept.alloc | apply Kept.drewN | apply Kept.drew) | exact HK.out)⟩, ⟨bel⟩⟩
        · rw [if_neg c4] at H
          exact absurd H (by simp)
      · rw [if_neg c3] at H
        have c3b0 : decide (x5_1 < (x0_1.length : Int)) = false := decide_eq_false c3
        clear c3
        simp only [Option.some.injEq, Prod.mk.injEq] at H
        obtain ⟨rfl, rfl⟩ := H
        obtain ⟨Ao9, co9, eo9⟩ := Kd.R_slice HO_0.out
        subst eo9
        go_wp2
        go_ret
        exact ⟨er, rk HO_0.out, bel, by repeat (first | (with_reducible first | exact HK.out | apply Kept.alloc | apply Kept.drewN | apply Kept.drew) | exact HK.out)⟩

/-! ### laws_heldBoolS: function 33 -/
def laws_heldBoolS.l0 : Nat → List Bool → Int → Int → Option (Int)
  | 0, _, _, _ => none
  | k + 1, x0, x1, x5 => if x5 < (x0.length : Int) then (if 0 ≤ x5 then (if ((rdOf false x0 x5) != ((Int.tmod x1 3) == 0)) = true then (some (-1)) else (laws_heldBoolS.l0 k x0 (wrap64 (x1 + 1)) (wrap64 (x5 + 1)))) else (none)) else (some x1)
def laws_heldBoolS.f (k : Nat) (l0 : List Bool) (a1 : Int) : Option (Int) := laws_heldBoolS.l0 k l0 a1 0
theorem laws_heldBoolS.mono_l : ∀ k, (∀ y0 y1 y2, LeO (laws_heldBoolS.l0 k y0 y1 y2) (laws_heldBoolS.l0 (k + 1) y0 y1 y2))
  | 0 => fun _ _ _ r h => by simp [laws_heldBoolS.l0] at h
  | k + 1 => by
    have ih0 := laws_heldBoolS.mono_l k
    · intro y0 y1 y2
      unfold laws_heldBoolS.l0
      repeat' first
      | (with_reducible exact ih0 _ _ _)
      | (with_reducible exact LeO.refl _)
      | (with_reducible exact LeO.none _)
      | (with_reducible refine LeO.ite ?_ ?_)
      | (with_reducible refine LeO.bind ?_ (fun _ => ?_))
      | exact ih0 _ _ _
      | exact LeO.none _
      | refine LeO.ite ?_ ?_
      | refine LeO.bind ?_ (fun _ => ?_)
theorem laws_heldBoolS.mono : ∀ a0 a1 k, LeO (laws_heldBoolS.f k a0 a1) (laws_heldBoolS.f (k + 1) a0 a1) := by
  intro a0 a1 k
  have ih0 := laws_heldBoolS.mono_l k
  unfold laws_heldBoolS.f
  repeat' first
      | (with_reducible exact ih0 _ _ _)
      | (with_reducible exact LeO.refl _)
      | (with_reducible exact LeO.none _)
      | (with_reducible refine LeO.ite ?_ ?_)
      | (with_reducible refine LeO.bind ?_ (fun _ => ?_))
      | exact ih0 _ _ _
      | exact LeO.none _
      | refine LeO.ite ?_ ?_
      | refine LeO.bind ?_ (fun _ => ?_)
set_option maxHeartbeats 8000000 in
set_option maxRecDepth 100000 in
theorem laws_heldBoolS.calls (k : Nat) (A0 : Option Addr) (c0 : Nat) (l0 : List Bool) (a1 : Int) (r : Int) (w : World) (hr0 : Kd.C Kd.bool w A0 l0.length l0) (hc0 : l0.length ≤ c0) (h : laws_heldBoolS.f k l0 a1 = some r) :
    Calls Try.prog 33 #[.slice A0 l0.length c0, .int .i64 a1] w fun e w' => e = .returned (.int .i64 r) ∧ Drawn0 w w' := by
  have HR0 := Aside0.mk hr0
  have HC0 := Aside0.mk hc0
  clear hr0 hc0
  have H : (laws_heldBoolS.l0 k l0 a1 0) = some r := h
  clear h
  have H' := Aside0.mk H
  clear H
  go_enter Try.func33, Try.ntmps33
  go_wp2
  go_loopg [1, 5] k (fun kq v1 v5 w' => ∃ (x1_1 : Int) (x5_1 : Int), v1 = .int .i64 x1_1 ∧ v5 = .int .i64 x5_1 ∧ Aside0 (laws_heldBoolS.l0 kq l0 x1_1 x5_1 = some r) ∧ Aside0 (kq ≤ k) ∧ Drawn0 w w')
  case atStart => exact ⟨(a1), (0), (es), (es), H', ⟨Nat.le_refl _⟩, by repeat (first | exact Drawn0.refl _ | apply Drawn0.step)⟩
  case round =>
    clear H'
    try clear p2
    obtain ⟨x1_1, x5_1, rfl, rfl, HA, HK1, ⟨m1, rfl⟩⟩ := hrel
    cases gk with
    | zero => exact absurd HA.out (by simp [laws_heldBoolS.l0])
    | succ k1 =>
      have H := HA.out
      clear HA
      simp only [laws_heldBoolS.l0] at H
      by_cases c3 : x5_1 < (l0.length : Int)
      · rw [if_pos c3] at H
        have c3b0 : decide (x5_1 < (l0.length : Int)) = true := decide_eq_true c3
        clear c3
        by_cases c4 : 0 ≤ x5_1
        · rw [if_pos c4] at H
          have c4b0 : decide (0 ≤ x5_1) = true := decide_eq_true c4
          clear c4
          by_cases c5 : ((rdOf false l0 x5_1) != ((Int.tmod x1_1 3) == 0)) = true
          · rw [if_pos c5] at H
            have c5b0 : ((rdOf false l0 x5_1) != ((Int.tmod x1_1 3) == 0)) = true := c5
            (try (have c5b1 : decide ((rdOf false l0 x5_1) = ((Int.tmod x1_1 3) == 0)) = false := by simpa using c5))
            (try (have c5b2 : ((rdOf false l0 x5_1) == ((Int.tmod x1_1 3) == 0)) = false := by simpa using c5))
            (try (have c5b3 : ¬ ((rdOf false l0 x5_1) = ((Int.tmod x1_1 3) == 0)) := by simpa using c5))
            clear c5
            obtain rfl := Option.some.inj H
            have p412 : 0 ≤ (x5_1 : Int) := asm
            have q412 : x5_1 < (l0.length : Int) := asm
            obtain ⟨ad412, e412, hx412_0⟩ := Kd.at_bool HR0.out x5_1 p412 q412
            cases e412
            replace p412 := eq_true p412
            replace q412 := eq_true q412
            go_wp2
            go_ret
            exact ⟨es, by repeat (first | exact Drawn0.refl _ | apply Drawn0.step)⟩
          · rw [if_neg c5] at H
            have c5b0 : ((rdOf false l0 x5_1) != ((Int.tmod x1_1 3) == 0)) = false := by simpa using c5
            (try (have c5b1 : decide ((rdOf false l0 x5_1) = ((Int.tmod x1_1 3) == 0)) = true := by simpa using c5))
            (try (have c5b2 : ((rdOf false l0 x5_1) == ((Int.tmod x1_1 3) == 0)) = true := by simpa using c5))
            clear c5
            have H' := Aside0.mk H
            clear H
            have p412 : 0 ≤ (x5_1 : Int) := asm
            have q412 : x5_1 < (l0.length : Int) := asm
            obtain ⟨ad412, e412, hx412_0⟩ := Kd.at_bool HR0.out x5_1 p412 q412
            cases e412
            replace p412 := eq_true p412
            replace q412 := eq_true q412
            go_wp2
            go_roundg k1
            case measure => have := HK1.out; omega
            case rel => exact ⟨(wrap64 (x1_1 + 1)), (wrap64 (x5_1 + 1)), (es), (es), H', ⟨by have := HK1.out; omega⟩, by repeat (first | exact Drawn0.refl _ | apply Drawn0.step)⟩
        · rw [if_neg c4] at H
          exact absurd H (by simp)
      · rw [if_neg c3] at H
        have c3b0 : decide (x5_1 < (l0.length : Int)) = false := decide_eq_false c3
        clear c3
        obtain rfl := Option.some.inj H
        go_wp2
        go_ret
        exact ⟨es, by repeat (first | exact Drawn0.refl _ | apply Drawn0.step)⟩

-- NOT PRINTED: function 8 (laws_FnExactSourceSide)

/-! ### spec_l17Back: function 48 -/
def spec_l17Back.f (a0_0 : Int) (l0_1 : List (S60)) (l1 : List Int) (a2 : Int) : Option (Int × Int) := if a2 > 0 then (if 0 ≤ (wrap64 (a2 - 1)) then (if (wrap64 (a2 - 1)) < (l0_1.length : Int) then (if (wrap64 (a2 - 1)) < (l1.length : Int) then (some ((rd_T60 l0_1 (wrap64 (a2 - 1))).f0, wrap64 (((rd_T60 l0_1 (wrap64 (a2 - 1))).f2) - (rd l1 (wrap64 (a2 - 1)))))) else (none)) else (none)) else (none)) else (if 0 ≤ (wrap64 ((wrap64 (-a2)) - 1)) then (if (wrap64 ((wrap64 (-a2)) - 1)) < (l0_1.length : Int) then (if (wrap64 ((wrap64 (-a2)) - 1)) < (l1.length : Int) then (some ((rd_T60 l0_1 (wrap64 ((wrap64 (-a2)) - 1))).f1, rd l1 (wrap64 ((wrap64 (-a2)) - 1)))) else (none)) else (none)) else (none))
set_option maxHeartbeats 8000000 in
set_option maxRecDepth 100000 in
theorem spec_l17Back.calls (a0_0 : Int) (A0_1 : Option Addr) (c0_1 : Nat) (l0_1 : List (S60)) (A1 : Option Addr) (c1 : Nat) (l1 : List Int) (a2 : Int) (r1 : Int) (r2 : Int) (w : World) (hr0_1 : Kd.C k60 w A0_1 l0_1.length l0_1) (hc0_1 : l0_1.length ≤ c0_1) (hr1 : Kd.C (Kd.int .i64) w A1 l1.length l1) (hc1 : l1.length ≤ c1) (h : spec_l17Back.f a0_0 l0_1 l1 a2 = some (r1, r2)) :
    Calls Try.prog 48 #[.agg #[.int .i64 a0_0, .slice A0_1 l0_1.length c0_1], .slice A1 l1.length c1, .int .i64 a2] w fun e w' => e = .returned (.tuple #[.int .i64 r1, .int .i64 r2]) ∧ Below w.heap.size w w' := by
  have hu29 := Try.underlying29
  have hu60 := Try.underlying60
  have HR0_1 := Aside0.mk hr0_1
  have HC0_1 := Aside0.mk hc0_1
  clear hr0_1 hc0_1
  have HR1 := Aside0.mk hr1
  have HC1 := Aside0.mk hc1
  clear hr1 hc1
  have HB := Aside0.mk (Below.refl w.heap.size w)
  have H : (if a2 > 0 then (if 0 ≤ (wrap64 (a2 - 1)) then (if (wrap64 (a2 - 1)) < (l0_1.length : Int) then (if (wrap64 (a2 - 1)) < (l1.length : Int) then (some ((rd_T60 l0_1 (wrap64 (a2 - 1))).f0, wrap64 (((rd_T60 l0_1 (wrap64 (a2 - 1))).f2) - (rd l1 (wrap64 (a2 - 1)))))) else (none)) else (none)) else (none)) else (if 0 ≤ (wrap64 ((wrap64 (-a2)) - 1)) then (if (wrap64 ((wrap64 (-a2)) - 1)) < (l0_1.length : Int) then (if (wrap64 ((wrap64 (-a2)) - 1)) < (l1.length : Int) then (some ((rd_T60 l0_1 (wrap64 ((wrap64 (-a2)) - 1))).f1, rd l1 (wrap64 ((wrap64 (-a2)) - 1)))) else (none)) else (none)) else (none))) = some (r1, r2) := h
  clear h
  by_cases c4 : a2 > 0
  · rw [if_pos c4] at H
    have c4b0 : decide (0 < a2) = true := decide_eq_true c4
    clear c4
    obtain ⟨ji5, hji5⟩ : ∃ j_ : Int, (wrap64 (a2 - 1)) = j_ := ⟨_, rfl⟩
    replace H : (if 0 ≤ (ji5) then (if (ji5) < (l0_1.length : Int) then (if (ji5) < (l1.length : Int) then (some ((rd_T60 l0_1 (ji5)).f0, wrap64 (((rd_T60 l0_1 (ji5)).f2) - (rd l1 (ji5))))) else (none)) else (none)) else (none)) = some (r1, r2) := by first | (rw [hji5] at H; exact H) | (simp only [hji5] at H ⊢; exact H)
    have hji5w : (IntKind.i64.wrap (a2 - 1)) = ji5 := (i64_w _).trans hji5
    by_cases c6 : 0 ≤ (ji5)
    · rw [if_pos c6] at H
      have c6b0 : decide (0 ≤ (ji5)) = true := decide_eq_true c6
      clear c6
      by_cases c7 : (ji5) < (l0_1.length : Int)
      · rw [if_pos c7] at H
        have c7b0 : decide ((ji5) < (l0_1.length : Int)) = true := decide_eq_true c7
        clear c7
        by_cases c8 : (ji5) < (l1.length : Int)
        · rw [if_pos c8] at H
          have c8b0 : decide ((ji5) < (l1.length : Int)) = true := decide_eq_true c8
          clear c8
          simp only [Option.some.injEq, Prod.mk.injEq] at H
          obtain ⟨rfl, rfl⟩ := H
          go_enter Try.func48, Try.ntmps48
          go_wp2_with (first | ((with_reducible refine gate_dst (N := 3) rfl ?_); refine box_event ?hg (N := 3) ?hd (cs := #[.int .i64 a0_0, .slice A0_1 l0_1.length c0_1]) (t := 29) ?hr ?_; (case hd => rfl); (case hg => rfl); (case hr => first | (go_simp; done) | (go_simp; rfl)); intro gb422 hg w9 hbox hb; have BK422 := Aside0.mk (hbox); have GW422 := Aside0.mk ((bsz hg : w.heap.size ≤ gb422)); have GE422 := Aside0.mk ((bsz hg : w.heap.size ≤ gb422)); replace HB := Aside0.mk (below_step bel hb); clear hb hbox hg; obtain ⟨hcz10_0, hcz10_1, hfz10_0, hfz10_1⟩ := cf2 BK422.out; have p423 : 0 ≤ ((ji5) : Int) := asm; have q423 : (ji5) < (l0_1.length : Int) := asm; obtain ⟨ad423, e423, hx423_0, hx423_1, hx423_2⟩ := at_T60 HR0_1.out (ji5) p423 q423; cases e423; replace hx423_0 := hcl HB.out hx423_0; replace hx423_1 := hcl HB.out hx423_1; replace hx423_2 := hcl HB.out hx423_2; replace p423 := eq_true p423; replace q423 := eq_true q423) | ((with_reducible refine gate_dst (N := 8) rfl ?_); refine box_event ?hg (N := 8) ?hd (cs := #[.int .i64 0, .int .i64 0, .int .i64 0]) (t := 60) ?hr ?_; (case hd => rfl); (case hg => rfl); (case hr => first | (go_simp; done) | (go_simp; rfl)); intro gb424 hg w11 hbox hb; have BK424 := Aside0.mk (hbox); have GW424 := Aside0.mk ((bsz hg : w.heap.size ≤ gb424)); have GE424 := Aside0.mk ((bsz hg : w.heap.size ≤ gb424)); have NB422_424 := Aside0.mk ((nlt hg BK422.out : gb422 ≠ gb424)); have NB424_422 := Aside0.mk ((ngt hg BK422.out : gb424 ≠ gb422)); replace BK422 := Aside0.mk (bb BK422.out hb); replace HB := Aside0.mk (below_step bel hb); clear hb hbox hg; have hnb12 := NB424_422.out; have hnc12 := NB422_424.out; obtain ⟨hcz13_0, hcz13_1, hcz13_2, hfz13_0, hfz13_1, hfz13_2⟩ := cf3 BK424.out; have p425 : 0 ≤ ((ji5) : Int) := asm; have q425 : (ji5) < (l1.length : Int) := asm; obtain ⟨ad425, e425, hx425_0⟩ := Kd.at_int HR1.out (ji5) p425 q425; cases e425; have hn425_0 : ad425.block ≠ gb424 := Nat.ne_of_lt (Nat.lt_of_lt_of_le (by have := World.block_lt_of_cell? _ _ hx425_0; first | rwa [add_block] at this | exact this) GW424.out); have hn425_1 : ad425.block ≠ gb424 := Nat.ne_of_lt (Nat.lt_of_lt_of_le (by have := World.block_lt_of_cell? _ _ hx425_0; first | rwa [add_block] at this | exact this) GW424.out); have hn425_2 : ad425.block ≠ gb424 := Nat.ne_of_lt (Nat.lt_of_lt_of_le (by have := World.block_lt_of_cell? _ _ hx425_0; first | rwa [add_block] at this | exact this) GW424.out); replace hx425_0 := hcl HB.out hx425_0; replace hx425_0 := (cell_far (p := ⟨gb424, 0, none⟩) (by first | (rw [add_block]; exact hn425_0) | (show (Addr.add _ _).block ≠ _; rw [add_block]; exact hn425_0) | exact hn425_0) (.int .i64 ((rd_T60 l0_1 (ji5)).f0))).trans hx425_0; replace hx425_0 := (cell_far (p := ⟨gb424, 1, none⟩) (by first | (rw [add_block]; exact hn425_1) | (show (Addr.add _ _).block ≠ _; rw [add_block]; exact hn425_1) | exact hn425_1) (.int .i64 ((rd_T60 l0_1 (ji5)).f1))).trans hx425_0; replace hx425_0 := (cell_far (p := ⟨gb424, 2, none⟩) (by first | (rw [add_block]; exact hn425_2) | (show (Addr.add _ _).block ≠ _; rw [add_block]; exact hn425_2) | exact hn425_2) (.int .i64 ((rd_T60 l0_1 (ji5)).f2))).trans hx425_0; (try have hy425_0 := fun (n_ : Nat) => (show (((((w11.drewN n_).setCell ⟨gb424, 0, none⟩ (.int .i64 ((rd_T60 l0_1 (ji5)).f0))).setCell ⟨gb424, 1, none⟩ (.int .i64 ((rd_T60 l0_1 (ji5)).f1))).setCell ⟨gb424, 2, none⟩ (.int .i64 ((rd_T60 l0_1 (ji5)).f2)))).cell? _ = some _ from hx425_0)); clear hn425_0; clear hn425_1; clear hn425_2; replace p425 := eq_true p425; replace q425 := eq_true q425))
          repeat (go_quiet (first | ((with_reducible refine gate_dst (N := 3) rfl ?_); refine box_event ?hg (N := 3) ?hd (cs := #[.int .i64 a0_0, .slice A0_1 l0_1.length c0_1]) (t := 29) ?hr ?_; (case hd => rfl); (case hg => rfl); (case hr => first | (go_simp; done) | (go_simp; rfl)); intro gb422 hg w9 hbox hb; have BK422 := Aside0.mk (hbox); have GW422 := Aside0.mk ((bsz hg : w.heap.size ≤ gb422)); have GE422 := Aside0.mk ((bsz hg : w.heap.size ≤ gb422)); replace HB := Aside0.mk (below_step bel hb); clear hb hbox hg; obtain ⟨hcz10_0, hcz10_1, hfz10_0, hfz10_1⟩ := cf2 BK422.out; have p423 : 0 ≤ ((ji5) : Int) := asm; have q423 : (ji5) < (l0_1.length : Int) := asm; obtain ⟨ad423, e423, hx423_0, hx423_1, hx423_2⟩ := at_T60 HR0_1.out (ji5) p423 q423; cases e423; replace hx423_0 := hcl HB.out hx423_0; replace hx423_1 := hcl HB.out hx423_1; replace hx423_2 := hcl HB.out hx423_2; replace p423 := eq_true p423; replace q423 := eq_true q423) | ((with_reducible refine gate_dst (N := 8) rfl ?_); refine box_event ?hg (N := 8) ?hd (cs := #[.int .i64 0, .int .i64 0, .int .i64 0]) (t := 60) ?hr ?_; (case hd => rfl); (case hg => rfl); (case hr => first | (go_simp; done) | (go_simp; rfl)); intro gb424 hg w11 hbox hb; have BK424 := Aside0.mk (hbox); have GW424 := Aside0.mk ((bsz hg : w.heap.size ≤ gb424)); have GE424 := Aside0.mk ((bsz hg : w.heap.size ≤ gb424)); have NB422_424 := Aside0.mk ((nlt hg BK422.out : gb422 ≠ gb424)); have NB424_422 := Aside0.mk ((ngt hg BK422.out : gb424 ≠ gb422)); replace BK422 := Aside0.mk (bb BK422.out hb); replace HB := Aside0.mk (below_step bel hb); clear hb hbox hg; have hnb12 := NB424_422.out; have hnc12 := NB422_424.out; obtain ⟨hcz13_0, hcz13_1, hcz13_2, hfz13_0, hfz13_1, hfz13_2⟩ := cf3 BK424.out; have p425 : 0 ≤ ((ji5) : Int) := asm; have q425 : (ji5) < (l1.length : Int) := asm; obtain ⟨ad425, e425, hx425_0⟩ := Kd.at_int HR1.out (ji5) p425 q425; cases e425; have hn425_0 : ad425.block ≠ gb424 := Nat.ne_of_lt (Nat.lt_of_lt_of_le (by have := World.block_lt_of_cell? _ _ hx425_0; first | rwa [add_block] at this | exact this) GW424.out); have hn425_1 : ad425.block ≠ gb424 := Nat.ne_of_lt (Nat.lt_of_lt_of_le (by have := World.block_lt_of_cell? _ _ hx425_0; first | rwa [add_block] at this | exact this) GW424.out); have hn425_2 : ad425.block ≠ gb424 := Nat.ne_of_lt (Nat.lt_of_lt_of_le (by have := World.block_lt_of_cell? _ _ hx425_0; first | rwa [add_block] at this | exact this) GW424.out); replace hx425_0 := hcl HB.out hx425_0; replace hx425_0 := (cell_far (p := ⟨gb424, 0, none⟩) (by first | (rw [add_block]; exact hn425_0) | (show (Addr.add _ _).block ≠ _; rw [add_block]; exact hn425_0) | exact hn425_0) (.int .i64 ((rd_T60 l0_1 (ji5)).f0))).trans hx425_0; replace hx425_0 := (cell_far (p := ⟨gb424, 1, none⟩) (by first | (rw [add_block]; exact hn425_1) | (show (Addr.add _ _).block ≠ _; rw [add_block]; exact hn425_1) | exact hn425_1) (.int .i64 ((rd_T60 l0_1 (ji5)).f1))).trans hx425_0; replace hx425_0 := (cell_far (p := ⟨gb424, 2, none⟩) (by first | (rw [add_block]; exact hn425_2) | (show (Addr.add _ _).block ≠ _; rw [add_block]; exact hn425_2) | exact hn425_2) (.int .i64 ((rd_T60 l0_1 (ji5)).f2))).trans hx425_0; (try have hy425_0 := fun (n_ : Nat) => (show (((((w11.drewN n_).setCell ⟨gb424, 0, none⟩ (.int .i64 ((rd_T60 l0_1 (ji5)).f0))).setCell ⟨gb424, 1, none⟩ (.int .i64 ((rd_T60 l0_1 (ji5)).f1))).setCell ⟨gb424, 2, none⟩ (.int .i64 ((rd_T60 l0_1 (ji5)).f2)))).cell? _ = some _ from hx425_0)); clear hn425_0; clear hn425_1; clear hn425_2; replace p425 := eq_true p425; replace q425 := eq_true q425)); try go_wp2_with (first | ((with_reducible refine gate_dst (N := 3) rfl ?_); refine box_event ?hg (N := 3) ?hd (cs := #[.int .i64 a0_0, .slice A0_1 l0_1.length c0_1]) (t := 29) ?hr ?_; (case hd => rfl); (case hg => rfl); (case hr => first | (go_simp; done) | (go_simp; rfl)); intro gb422 hg w9 hbox hb; have BK422 := Aside0.mk (hbox); have GW422 := Aside0.mk ((bsz hg : w.heap.size ≤ gb422)); have GE422 := Aside0.mk ((bsz hg : w.heap.size ≤ gb422)); replace HB := Aside0.mk (below_step bel hb); clear hb hbox hg; obtain ⟨hcz10_0, hcz10_1, hfz10_0, hfz10_1⟩ := cf2 BK422.out; have p423 : 0 ≤ ((ji5) : Int) := asm; have q423 : (ji5) < (l0_1.length : Int) := asm; obtain ⟨ad423, e423, hx423_0, hx423_1, hx423_2⟩ := at_T60 HR0_1.out (ji5) p423 q423; cases e423; replace hx423_0 := hcl HB.out hx423_0; replace hx423_1 := hcl HB.out hx423_1; replace hx423_2 := hcl HB.out hx423_2; replace p423 := eq_true p423; replace q423 := eq_true q423) | ((with_reducible refine gate_dst (N := 8) rfl ?_); refine box_event ?hg (N := 8) ?hd (cs := #[.int .i64 0, .int .i64 0, .int .i64 0]) (t := 60) ?hr ?_; (case hd => rfl); (case hg => rfl); (case hr => first | (go_simp; done) | (go_simp; rfl)); intro gb424 hg w11 hbox hb; have BK424 := Aside0.mk (hbox); have GW424 := Aside0.mk ((bsz hg : w.heap.size ≤ gb424)); have GE424 := Aside0.mk ((bsz hg : w.heap.size ≤ gb424)); have NB422_424 := Aside0.mk ((nlt hg BK422.out : gb422 ≠ gb424)); have NB424_422 := Aside0.mk ((ngt hg BK422.out : gb424 ≠ gb422)); replace BK422 := Aside0.mk (bb BK422.out hb); replace HB := Aside0.mk (below_step bel hb); clear hb hbox hg; have hnb12 := NB424_422.out; have hnc12 := NB422_424.out; obtain ⟨hcz13_0, hcz13_1, hcz13_2, hfz13_0, hfz13_1, hfz13_2⟩ := cf3 BK424.out; have p425 : 0 ≤ ((ji5) : Int) := asm; have q425 : (ji5) < (l1.length : Int) := asm; obtain ⟨ad425, e425, hx425_0⟩ := Kd.at_int HR1.out (ji5) p425 q425; cases e425; have hn425_0 : ad425.block ≠ gb424 := Nat.ne_of_lt (Nat.lt_of_lt_of_le (by have := World.block_lt_of_cell? _ _ hx425_0; first | rwa [add_block] at this | exact this) GW424.out); have hn425_1 : ad425.block ≠ gb424 := Nat.ne_of_lt (Nat.lt_of_lt_of_le (by have := World.block_lt_of_cell? _ _ hx425_0; first | rwa [add_block] at this | exact this) GW424.out); have hn425_2 : ad425.block ≠ gb424 := Nat.ne_of_lt (Nat.lt_of_lt_of_le (by have := World.block_lt_of_cell? _ _ hx425_0; first | rwa [add_block] at this | exact this) GW424.out); replace hx425_0 := hcl HB.out hx425_0; replace hx425_0 := (cell_far (p := ⟨gb424, 0, none⟩) (by first | (rw [add_block]; exact hn425_0) | (show (Addr.add _ _).block ≠ _; rw [add_block]; exact hn425_0) | exact hn425_0) (.int .i64 ((rd_T60 l0_1 (ji5)).f0))).trans hx425_0; replace hx425_0 := (cell_far (p := ⟨gb424, 1, none⟩) (by first | (rw [add_block]; exact hn425_1) | (show (Addr.add _ _).block ≠ _; rw [add_block]; exact hn425_1) | exact hn425_1) (.int .i64 ((rd_T60 l0_1 (ji5)).f1))).trans hx425_0; replace hx425_0 := (cell_far (p := ⟨gb424, 2, none⟩) (by first | (rw [add_block]; exact hn425_2) | (show (Addr.add _ _).block ≠ _; rw [add_block]; exact hn425_2) | exact hn425_2) (.int .i64 ((rd_T60 l0_1 (ji5)).f2))).trans hx425_0; (try have hy425_0 := fun (n_ : Nat) => (show (((((w11.drewN n_).setCell ⟨gb424, 0, none⟩ (.int .i64 ((rd_T60 l0_1 (ji5)).f0))).setCell ⟨gb424, 1, none⟩ (.int .i64 ((rd_T60 l0_1 (ji5)).f1))).setCell ⟨gb424, 2, none⟩ (.int .i64 ((rd_T60 l0_1 (ji5)).f2)))).cell? _ = some _ from hx425_0)); clear hn425_0; clear hn425_1; clear hn425_2; replace p425 := eq_true p425; replace q425 := eq_true q425)))
          go_ret2
          exact ⟨by first | rfl | (simp [errW_none, errW_some] <;> rfl) | (simp only [← hji5]; first | rfl | (simp [errW_none, errW_some] <;> rfl)) | (simp [*, errW_none, errW_some] <;> rfl), bel⟩
        · rw [if_neg c8] at H
          exact absurd H (by simp)
      · rw [if_neg c7] at H
        exact absurd H (by simp)
    · rw [if_neg c6] at H
      exact absurd H (by simp)
  · rw [if_neg c4] at H
    have c4b0 : decide (0 < a2) = false := decide_eq_false c4
    clear c4
    obtain ⟨ji14, hji14⟩ : ∃ j_ : Int, (wrap64 ((wrap64 (-a2)) - 1)) = j_ := ⟨_, rfl⟩
    replace H : (if 0 ≤ (ji14) then (if (ji14) < (l0_1.length : Int) then (if (ji14) < (l1.length : Int) then (some ((rd_T60 l0_1 (ji14)).f1, rd l1 (ji14))) else (none)) else (none)) else (none)) = some (r1, r2) := by first | (rw [hji14] at H; exact H) | (simp only [hji14] at H ⊢; exact H)
    have hji14w : (IntKind.i64.wrap ((wrap64 (-a2)) - 1)) = ji14 := (i64_w _).trans hji14
    by_cases c15 : 0 ≤ (ji14)
    · rw [if_pos c15] at H
      have c15b0 : decide (0 ≤ (ji14)) = true := decide_eq_true c15
      clear c15
      by_cases c16 : (ji14) < (l0_1.length : Int)
      · rw [if_pos c16] at H
        have c16b0 : decide ((ji14) < (l0_1.length : Int)) = true := decide_eq_true c16
        clear c16
        by_cases c17 : (ji14) < (l1.length : Int)
        · rw [if_pos c17] at H
          have c17b0 : decide ((ji14) < (l1.length : Int)) = true := decide_eq_true c17
          clear c17
          simp only [Option.some.injEq, Prod.mk.injEq] at H
          obtain ⟨rfl, rfl⟩ := H
          go_enter Try.func48, Try.ntmps48
          go_wp2_with (first | ((with_reducible refine gate_dst (N := 3) rfl ?_); refine box_event ?hg (N := 3) ?hd (cs := #[.int .i64 a0_0, .slice A0_1 l0_1.length c0_1]) (t := 29) ?hr ?_; (case hd => rfl); (case hg => rfl); (case hr => first | (go_simp; done) | (go_simp; rfl)); intro gb422 hg w18 hbox hb; have BK422 := Aside0.mk (hbox); have GW422 := Aside0.mk ((bsz hg : w.heap.size ≤ gb422)); have GE422 := Aside0.mk ((bsz hg : w.heap.size ≤ gb422)); replace HB := Aside0.mk (below_step bel hb); clear hb hbox hg; obtain ⟨hcz19_0, hcz19_1, hfz19_0, hfz19_1⟩ := cf2 BK422.out; have p426 : 0 ≤ ((ji14) : Int) := asm; have q426 : (ji14) < (l0_1.length : Int) := asm; obtain ⟨ad426, e426, hx426_0, hx426_1, hx426_2⟩ := at_T60 HR0_1.out (ji14) p426 q426; cases e426; replace hx426_0 := hcl HB.out hx426_0; replace hx426_1 := hcl HB.out hx426_1; replace hx426_2 := hcl HB.out hx426_2; replace p426 := eq_true p426; replace q426 := eq_true q426; have p427 : 0 ≤ ((ji14) : Int) := asm; have q427 : (ji14) < (l1.length : Int) := asm; obtain ⟨ad427, e427, hx427_0⟩ := Kd.at_int HR1.out (ji14) p427 q427; cases e427; replace hx427_0 := hcl HB.out hx427_0; replace p427 := eq_true p427; replace q427 := eq_true q427))
          repeat (go_quiet (first | ((with_reducible refine gate_dst (N := 3) rfl ?_); refine box_event ?hg (N := 3) ?hd (cs := #[.int .i64 a0_0, .slice A0_1 l0_1.length c0_1]) (t := 29) ?hr ?_; (case hd => rfl); (case hg => rfl); (case hr => first | (go_simp; done) | (go_simp; rfl)); intro gb422 hg w18 hbox hb; have BK422 := Aside0.mk (hbox); have GW422 := Aside0.mk ((bsz hg : w.heap.size ≤ gb422)); have GE422 := Aside0.mk ((bsz hg : w.heap.size ≤ gb422)); replace HB := Aside0.mk (below_step bel hb); clear hb hbox hg; obtain ⟨hcz19_0, hcz19_1, hfz19_0, hfz19_1⟩ := cf2 BK422.out; have p426 : 0 ≤ ((ji14) : Int) := asm; have q426 : (ji14) < (l0_1.length : Int) := asm; obtain ⟨ad426, e426, hx426_0, hx426_1, hx426_2⟩ := at_T60 HR0_1.out (ji14) p426 q426; cases e426; replace hx426_0 := hcl HB.out hx426_0; replace hx426_1 := hcl HB.out hx426_1; replace hx426_2 := hcl HB.out hx426_2; replace p426 := eq_true p426; replace q426 := eq_true q426; have p427 : 0 ≤ ((ji14) : Int) := asm; have q427 : (ji14) < (l1.length : Int) := asm; obtain ⟨ad427, e427, hx427_0⟩ := Kd.at_int HR1.out (ji14) p427 q427; cases e427; replace hx427_0 := hcl HB.out hx427_0; replace p427 := eq_true p427; replace q427 := eq_true q427)); try go_wp2_with (first | ((with_reducible refine gate_dst (N := 3) rfl ?_); refine box_event ?hg (N := 3) ?hd (cs := #[.int .i64 a0_0, .slice A0_1 l0_1.length c0_1]) (t := 29) ?hr ?_; (case hd => rfl); (case hg => rfl); (case hr => first | (go_simp; done) | (go_simp; rfl)); intro gb422 hg w18 hbox hb; have BK422 := Aside0.mk (hbox); have GW422 := Aside0.mk ((bsz hg : w.heap.size ≤ gb422)); have GE422 := Aside0.mk ((bsz hg : w.heap.size ≤ gb422)); replace HB := Aside0.mk (below_step bel hb); clear hb hbox hg; obtain ⟨hcz19_0, hcz19_1, hfz19_0, hfz19_1⟩ := cf2 BK422.out; have p426 : 0 ≤ ((ji14) : Int) := asm; have q426 : (ji14) < (l0_1.length : Int) := asm; obtain ⟨ad426, e426, hx426_0, hx426_1, hx426_2⟩ := at_T60 HR0_1.out (ji14) p426 q426; cases e426; replace hx426_0 := hcl HB.out hx426_0; replace hx426_1 := hcl HB.out hx426_1; replace hx426_2 := hcl HB.out hx426_2; replace p426 := eq_true p426; replace q426 := eq_true q426; have p427 : 0 ≤ ((ji14) : Int) := asm; have q427 : (ji14) < (l1.length : Int) := asm; obtain ⟨ad427, e427, hx427_0⟩ := Kd.at_int HR1.out (ji14) p427 q427; cases e427; replace hx427_0 := hcl HB.out hx427_0; replace p427 := eq_true p427; replace q427 := eq_true q427)))
          go_ret2
          exact ⟨by first | rfl | (simp [errW_none, errW_some] <;> rfl) | (simp only [← hji14]; first | rfl | (simp [errW_none, errW_some] <;> rfl)) | (simp [*, errW_none, errW_some] <;> rfl), bel⟩
        · rw [if_neg c17] at H
          exact absurd H (by simp)
      · rw [if_neg c16] at H
        exact absurd H (by simp)
    · rw [if_neg c15] at H
      exact absurd H (by simp)

-- NOT PRINTED: function 34 (spec_GreatestFlow)

-- NOT PRINTED: function 35 (impl_GreatestFlow)

end Go.Proofs.Yteaemblallbgpaa.X
