-- Written by a program of this session (wip/xp.py, over the kit's print) out of the translation: functions, and the walks that show them.
import Derived.Test.YtaopcamaceddnaaX0
namespace Go.Proofs.Ytaopcamaceddnaa.X
open Go.RowKit Go.Proofs.YtaopcamaceddnaaW.PrintWords Go.Proofs.YtaopcamaceddnaaW.PrintLast Go.Proofs.YtaopcamaceddnaaW.PrintMore
attribute [local go_sem] max2_int min2_int max_two min_two max_three min_three max_four min_four   -- for this text's walks alone
set_option linter.unusedVariables false
set_option linter.unusedSimpArgs false

/-! ### laws_markIntS: function 30 -/
def laws_markIntS.l0 : Nat → List Int → Int → Int → Option (Int × List Int)
  | 0, _, _, _ => none
  | k + 1, x0, x1, x5 => if x5 < (x0.length : Int) then (if 0 ≤ x5 then (laws_markIntS.l0 k (x0.set (x5 : Int).toNat x1) (wrap64 (x1 + 1)) (wrap64 (x5 + 1))) else (none)) else (some (x1, x0))
def laws_markIntS.f (k : Nat) (l0 : List Int) (a1 : Int) : Option (Int × List Int) := laws_markIntS.l0 k l0 a1 0
theorem laws_markIntS.mono_l : ∀ k, (∀ y0 y1 y2, LeO (laws_markIntS.l0 k y0 y1 y2) (laws_markIntS.l0 (k + 1) y0 y1 y2))
  | 0 => fun _ _ _ r h => by simp [laws_markIntS.l0] at h
  | k + 1 => by
    have ih0 := laws_markIntS.mono_l k
    · intro y0 y1 y2
      unfold laws_markIntS.l0
      repeat' first
      | (with_reducible exact ih0 _ _ _)
      | (with_reducible exact LeO.refl _)
      | (with_reducible exact LeO.none _)
      | (with_reducible refine LeO.ite ?_ ?_)
      | (with_reducible refine LeO.bind ?_ (fun _ => ?_))
      | exact ih0 _ _ _
      | exact LeO.none _
      | refine LeO.ite ?_ ?_
      | refine LeO.bind ?_ (fun _ => ?_)
theorem laws_markIntS.mono : ∀ a0 a1 k, LeO (laws_markIntS.f k a0 a1) (laws_markIntS.f (k + 1) a0 a1) := by
  intro a0 a1 k
  have ih0 := laws_markIntS.mono_l k
  unfold laws_markIntS.f
  repeat' first
      | (with_reducible exact ih0 _ _ _)
      | (with_reducible exact LeO.refl _)
      | (with_reducible exact LeO.none _)
      | (with_reducible refine LeO.ite ?_ ?_)
      | (with_reducible refine LeO.bind ?_ (fun _ => ?_))
      | exact ih0 _ _ _
      | exact LeO.none _
      | refine LeO.ite ?_ ?_
      | refine LeO.bind ?_ (fun _ => ?_)
set_option maxHeartbeats 8000000 in
set_option maxRecDepth 100000 in
theorem laws_markIntS.calls (k : Nat) (P0_ : Nat → Prop) (u9000_ : Value) (l0 : List Int) (a1 : Int) (r1 : Int) (r2 : List Int) (w0 w : World) (hB : Below w0.heap.size w0 w) (ho0 : Kd.R (Kd.int .i64) 3 w w0.heap.size P0_ u9000_ l0) (h : laws_markIntS.f k l0 a1 = some (r1, r2)) :
    Calls Try.prog 30 #[u9000_, .int .i64 a1] w fun e w' => e = .returned (.int .i64 r1) ∧ Kd.R (Kd.int .i64) 3 w' w0.heap.size (fun k_ => (P0_ k_ ∨ w.heap.size ≤ k_)) u9000_ r2 ∧ Below w0.heap.size w0 w' ∧ Kept w w' (fun k_ => P0_ k_) := by
  have HO0 := Aside0.mk (show Kd.R (Kd.int .i64) 3 w w0.heap.size (fun k_ => (P0_ k_ ∨ w.heap.size ≤ k_)) u9000_ l0 from Kd.R_mono ho0 (fun k_ hk => (.inl hk)))
  have HK := Aside0.mk (Kept.refl w (fun k_ => P0_ k_))
  have HW0 := Aside0.mk hB.size
  have HB := Aside0.mk hB
  clear hB
  have H : (laws_markIntS.l0 k l0 a1 0) = some (r1, r2) := h
  clear h
  have H' := Aside0.mk H
  clear H
  go_enter Try.func30, Try.ntmps30
  go_wp2
  go_loopg [1, 5] k (fun kq v1 v5 w' => ∃ (x0_1 : List Int) (x1_1 : Int) (x5_1 : Int), v1 = .int .i64 x1_1 ∧ v5 = .int .i64 x5_1 ∧ Aside0 (laws_markIntS.l0 kq x0_1 x1_1 x5_1 = some (r1, r2)) ∧ Aside0 (kq ≤ k) ∧ Aside0 (Kd.R (Kd.int .i64) 3 w' w0.heap.size (fun k_ => (P0_ k_ ∨ w.heap.size ≤ k_)) u9000_ x0_1) ∧ Aside0 (Kept w w' (fun k_ => P0_ k_)) ∧ Aside0 (Below w0.heap.size w0 w'))
  case atStart => exact ⟨(l0), (a1), (0), (es), (es), H', ⟨Nat.le_refl _⟩, ⟨rk HO0.out⟩, ⟨by repeat (first | (with_reducible first | exact HK.out | apply Kept.alloc | apply Kept.drewN | apply Kept.drew) | exact HK.out)⟩, ⟨bel⟩⟩
  case round =>
    clear H'
    try clear p2
    obtain ⟨x0_1, x1_1, x5_1, rfl, rfl, HA, HK1, HO_0, HK, HB⟩ := hrel
    cases gk with
    | zero => exact absurd HA.out (by simp [laws_markIntS.l0])
    | succ k1 =>
      have H := HA.out
      clear HA
      simp only [laws_markIntS.l0] at H
      by_cases c3 : x5_1 < (x0_1.length : Int)
      · rw [if_pos c3] at H
        have c3b0 : decide (x5_1 < (x0_1.length : Int)) = true := decide_eq_true c3
        clear c3
        by_cases c4 : 0 ≤ x5_1
        · rw [if_pos c4] at H
          have c4b0 : decide (0 ≤ x5_1) = true := decide_eq_true c4
          clear c4
          obtain ⟨y230, hy230⟩ : ∃ y_ : List Int, y_ = (x0_1.set (x5_1 : Int).toNat x1_1) := ⟨_, rfl⟩
          replace H : (laws_markIntS.l0 k1 y230 (wrap64 (x1_1 + 1)) (wrap64 (x5_1 + 1))) = some (r1, r2) := by first | (rw [hy230]; with_reducible exact H) | (have H2_ := (Option.bind_some _ _).symm.trans H; rw [hy230]; with_reducible exact H2_) | (have H2_ := (Option.bind_some _ _).symm.trans H; with_reducible exact H2_) | with_reducible exact H | (rw [hy230]; exact H) | exact H
          have Ny230 := Aside0.mk hy230
          clear hy230
          have H' := Aside0.mk H
          clear H
          obtain ⟨Ao6, co6, eo6⟩ := Kd.R_slice HO_0.out
          subst eo6
          have p5 : 0 ≤ (x5_1 : Int) := asm
          have q5 : (x5_1 : Int) < ((x0_1.length : Int) : Int) := asm
          obtain ⟨go5, co5, eo5, gb5, gl5, cl5, HG5⟩ := Kd.R_form HO_0.out (by omega)
          (first | cases eo5 | (injection eo5 with ea_ en_ ec_; (first | subst ea_ | (injection ea_ with ea_; subst ea_)); subst ec_; clear en_))
          have GB5 := Aside0.mk gb5
          have GG5 := Aside0.mk HG5
          clear gb5 gl5 HG5
          have HMgo5 := Aside0.mk (show (P0_ go5 ∨ w.heap.size ≤ go5) from (HO_0.out.1 _ rfl))
          obtain ⟨hx5_0, hf5_0⟩ := Kd.R_celln 0 HO_0.out (x5_1 : Int) p5 q5
          replace p5 := eq_true p5
          replace q5 := eq_true q5
          have HP7 := Kd.R_putg HO_0.out (x5_1 : Int) x1_1
          go_wp2_with (first | ((with_reducible refine gate_store (t := 3) (p := 15) rfl ?_); refine store_event (t := 3) (p := 15) (v := ?vo_w8) (w1 := (wr.setCell ⟨go5, (x5_1 : Int).toNat, none⟩ (.int .i64 x1_1))) ?hg ?ho ?hn ?hr ?_; (case ho => rfl); (case hg => rfl); (case hn => rfl); (case hr => first | (go_simp; done) | (go_simp; rfl)); intro w8 hw; have hg : wr.grownBy w8 (some go5) := (by rw [hw]; exact HP7.2); have hp_ : Kd.R (Kd.int .i64) 3 w8 w0.heap.size (fun k_ => (P0_ k_ ∨ w.heap.size ≤ k_)) (.slice (some ⟨go5, 0, none⟩) x0_1.length co6) y230 := (by rw [hw, Ny230.out]; exact HP7.1); clear HP7; have n0_ := Aside0.mk (hp_); have n1_ := Aside0.mk ((by rw [hw]; exact below_set (HB.out) GB5.out : Below w0.heap.size w0 w8)); have n2_ := Aside0.mk (Kept.of_grown (S := (fun k_ => P0_ k_)) hg (by repeat (first | (with_reducible first | exact HK.out | apply Kept.alloc | apply Kept.drewN | apply Kept.drew) | exact HK.out)) (fun k_ e_ => (HO_0.out.1 k_ e_))); clear HO_0; clear HB; clear HK; have HO_0 := n0_; have HB := n1_; have HK := n2_; clear n0_ n1_ n2_; clear hg hw hp_))
          go_roundg k1
          case measure => have := HK1.out; omega
          case rel => exact ⟨(y230), (wrap64 (x1_1 + 1)), (wrap64 (x5_1 + 1)), (es), (es), H', ⟨by have := HK1.out; omega⟩, ⟨rk HO_0.out⟩, ⟨by repeat (first | (with_reducible first | exact HK.out | apply Kept.alloc | apply Kept.drewN | apply Kept.drew) | exact HK.out)⟩, ⟨bel⟩⟩
        · rw [if_neg c4] at H
          exact absurd H (by simp)
      · rw [if_neg c3] at H
        have c3b0 : decide (x5_1 < (x0_1.length : Int)) = false := decide_eq_false c3
        clear c3
        simp only [Option.some.injEq, Prod.mk.injEq] at H
        obtain ⟨rfl, rfl⟩ := H
        obtain ⟨Ao9, co9, eo9⟩ := Kd.R_slice HO_0.out
        subst eo9
        go_wp2
        go_ret
        exact ⟨er, rk HO_0.out, bel, by repeat (first | (with_reducible first | exact HK.out | apply Kept.alloc | apply Kept.drewN | apply Kept.drew) | exact HK.out)⟩

/-! ### laws_markContestS: function 29 (this session's own text) -/
theorem laws_markContestS.lend {W : World} {base g n cap : Nat} {ok : Nat → Prop} {xs : List (S38)} (h : Kd.S k38 38 W base ok (.slice (some ⟨g, 0, none⟩) n cap) xs) (i : Int) (h0 : 0 ≤ i) (h1 : i < (n : Int)) :
    ∃ (oki : Nat → Prop) (ve : Value), W.cell? ⟨g, i.toNat * 3, none⟩ = some ve ∧ (Kd.int .i64).R 3 W base oki ve (rd_T38 xs i).f0 ∧ (∀ k, oki k → ok k) ∧ ∀ (W' : World) (t : List Int), Kept W W' oki → (Kd.int .i64).R 3 W' base oki ve t → Kd.S k38 38 W' base ok (.slice (some ⟨g, 0, none⟩) n cap) (xs.set i.toNat (⟨t, (rd_T38 xs i).f1, (rd_T38 xs i).f2⟩ : S38)) := by
  obtain ⟨oki, ce, hcl, hM, hcc, hfr, hoki, hH⟩ := Kd.S_elem h z38 i h0 h1
  obtain ⟨ve, rfl, ge⟩ := k38_openM hM
  have hx := hcc 0 _ rfl
  (try simp only [show (k38).sz = 3 from rfl, Nat.mul_one, Nat.add_zero] at hx)
  refine ⟨oki, ve, hx, ge, fun k hk => (hoki k hk).1, fun W' t hK hR => ?_⟩
  obtain ⟨ho, f, hr⟩ := hH
  have hH' : Kd.H k38 38 W' base ok (.slice (some ⟨g, 0, none⟩) n cap) xs i oki [ve, .int .i64 (rd_T38 xs i).f1, .int .i64 (rd_T38 xs i).f2] := ⟨ho, f, Kd.R_step hr (fun k hk hlt => hK.2 k hlt hk.2)⟩
  exact Kd.H_back hH' (okp := oki) (k38_mkM _ _ _ (⟨t, (rd_T38 xs i).f1, (rd_T38 xs i).f2⟩ : S38) hR) (fun k hk => hk)
theorem laws_markContestS.put1 {W : World} {base g n cap : Nat} {ok : Nat → Prop} {xs : List (S38)} (h : Kd.S k38 38 W base ok (.slice (some ⟨g, 0, none⟩) n cap) xs) (i : Int) (h0 : 0 ≤ i) (h1 : i < (n : Int)) (a : Int) :
    ∃ v, W.cell? ⟨g, i.toNat * 3 + 1, none⟩ = some v ∧ W.frozen? ⟨g, i.toNat * 3 + 1, none⟩ = false ∧ Kd.S k38 38 (W.setCell ⟨g, i.toNat * 3 + 1, none⟩ (.int .i64 a)) base ok (.slice (some ⟨g, 0, none⟩) n cap) (xs.set i.toNat (⟨(rd_T38 xs i).f0, a, (rd_T38 xs i).f2⟩ : S38)) ∧ W.grownBy (W.setCell ⟨g, i.toNat * 3 + 1, none⟩ (.int .i64 a)) (some g) := by
  have h' : Kd.S k38 38 W base (fun k => ok k ∧ ¬ (fun _ => False) k) (.slice (some ⟨g, 0, none⟩) n cap) xs := Kd.S_mono h (fun k hk => ⟨hk, fun q => q⟩)
  obtain ⟨oki, ce, hcl, hM, hcc, hfr, hoki, hH⟩ := Kd.S_elem h' z38 i h0 h1
  obtain ⟨ve, rfl, ge⟩ := k38_openM hM
  have hx := hcc 1 _ rfl
  (try simp only [show (k38).sz = 3 from rfl, Nat.mul_one, Nat.add_zero] at hx)
  have hf := hfr 1
  (try simp only [show (k38).sz = 3 from rfl, Nat.mul_one, Nat.add_zero] at hf)
  have hP := Kd.S_seg (okp := oki) (okg := fun _ => False) hH h0 h1 (seg := [.int .i64 a]) (j := 1) (show 2 ≤ 3 from by decide) (x' := (⟨(rd_T38 xs i).f0, a, (rd_T38 xs i).f2⟩ : S38)) (k38_mkM _ _ _ (⟨(rd_T38 xs i).f0, a, (rd_T38 xs i).f2⟩ : S38) ge) (fun k hk => Or.inl hk) (fun k hk => hk.elim)
  exact ⟨_, hx, hf, hP.1, hP.2⟩
theorem laws_markContestS.put2 {W : World} {base g n cap : Nat} {ok : Nat → Prop} {xs : List (S38)} (h : Kd.S k38 38 W base ok (.slice (some ⟨g, 0, none⟩) n cap) xs) (i : Int) (h0 : 0 ≤ i) (h1 : i < (n : Int)) (a : Int) :
    ∃ v, W.cell? ⟨g, i.toNat * 3 + 2, none⟩ = some v ∧ W.frozen? ⟨g, i.toNat * 3 + 2, none⟩ = false ∧ Kd.S k38 38 (W.setCell ⟨g, i.toNat * 3 + 2, none⟩ (.int .i64 a)) base ok (.slice (some ⟨g, 0, none⟩) n cap) (xs.set i.toNat (⟨(rd_T38 xs i).f0, (rd_T38 xs i).f1, a⟩ : S38)) ∧ W.grownBy (W.setCell ⟨g, i.toNat * 3 + 2, none⟩ (.int .i64 a)) (some g) := by
  have h' : Kd.S k38 38 W base (fun k => ok k ∧ ¬ (fun _ => False) k) (.slice (some ⟨g, 0, none⟩) n cap) xs := Kd.S_mono h (fun k hk => ⟨hk, fun q => q⟩)
  obtain ⟨oki, ce, hcl, hM, hcc, hfr, hoki, hH⟩ := Kd.S_elem h' z38 i h0 h1
  obtain ⟨ve, rfl, ge⟩ := k38_openM hM
  have hx := hcc 2 _ rfl
  (try simp only [show (k38).sz = 3 from rfl, Nat.mul_one, Nat.add_zero] at hx)
  have hf := hfr 2
  (try simp only [show (k38).sz = 3 from rfl, Nat.mul_one, Nat.add_zero] at hf)
  have hP := Kd.S_seg (okp := oki) (okg := fun _ => False) hH h0 h1 (seg := [.int .i64 a]) (j := 2) (show 3 ≤ 3 from by decide) (x' := (⟨(rd_T38 xs i).f0, (rd_T38 xs i).f1, a⟩ : S38)) (k38_mkM _ _ _ (⟨(rd_T38 xs i).f0, (rd_T38 xs i).f1, a⟩ : S38) ge) (fun k hk => Or.inl hk) (fun k hk => hk.elim)
  exact ⟨_, hx, hf, hP.1, hP.2⟩
theorem laws_markContestS.rds {xs : List (S38)} {x : S38} {i : Int} (h : i.toNat < xs.length) : rd_T38 (xs.set i.toNat x) i = x := by simp [rd_T38, List.getD_eq_getElem?_getD, h]
def laws_markContestS.l0 : Nat → List (S38) → Int → Int → Option (Int × List (S38))
  | 0, _, _, _ => none
  | k + 1, xs, a, i => if i < (xs.length : Int) then (if 0 ≤ i then ((laws_markIntS.f k (rd_T38 xs i).f0 a).bind fun b => laws_markContestS.l0 k (xs.set i.toNat (⟨b.2, b.1, (wrap64 (b.1 + 1))⟩ : S38)) (wrap64 ((wrap64 (b.1 + 1)) + 1)) (wrap64 (i + 1))) else (none)) else (some (a, xs))
def laws_markContestS.f (k : Nat) (l0 : List (S38)) (a1 : Int) : Option (Int × List (S38)) := laws_markContestS.l0 k l0 a1 0
theorem laws_markContestS.mono_l : ∀ k, (∀ y0 y1 y2, LeO (laws_markContestS.l0 k y0 y1 y2) (laws_markContestS.l0 (k + 1) y0 y1 y2))
  | 0 => fun _ _ _ r h => by simp [laws_markContestS.l0] at h
  | k + 1 => by
    have ih0 := laws_markContestS.mono_l k
    · intro y0 y1 y2
      unfold laws_markContestS.l0
      repeat' first
      | (with_reducible exact ih0 _ _ _)
      | (with_reducible exact laws_markIntS.mono _ _ _)
      | (with_reducible exact LeO.refl _)
      | (with_reducible exact LeO.none _)
      | (with_reducible refine LeO.ite ?_ ?_)
      | (with_reducible refine LeO.bind ?_ (fun _ => ?_))
      | exact ih0 _ _ _
      | exact laws_markIntS.mono _ _ _
      | exact LeO.none _
      | refine LeO.ite ?_ ?_
      | refine LeO.bind ?_ (fun _ => ?_)
theorem laws_markContestS.mono : ∀ a0 a1 k, LeO (laws_markContestS.f k a0 a1) (laws_markContestS.f (k + 1) a0 a1) := by
  intro a0 a1 k
  have ih0 := laws_markContestS.mono_l k
  unfold laws_markContestS.f
  repeat' first
      | (with_reducible exact ih0 _ _ _)
      | (with_reducible exact laws_markIntS.mono _ _ _)
      | (with_reducible exact LeO.refl _)
      | (with_reducible exact LeO.none _)
      | (with_reducible refine LeO.ite ?_ ?_)
      | (with_reducible refine LeO.bind ?_ (fun _ => ?_))
      | exact ih0 _ _ _
      | exact laws_markIntS.mono _ _ _
      | exact LeO.none _
      | refine LeO.ite ?_ ?_
      | refine LeO.bind ?_ (fun _ => ?_)
set_option maxHeartbeats 8000000 in
set_option maxRecDepth 100000 in
theorem laws_markContestS.calls (k : Nat) (P0_ : Nat → Prop) (u9000_ : Value) (l0 : List (S38)) (a1 : Int) (r1 : Int) (r2 : List (S38)) (w0 w : World) (hB : Below w0.heap.size w0 w) (ho0 : Kd.S k38 38 w w0.heap.size P0_ u9000_ l0) (h : laws_markContestS.f k l0 a1 = some (r1, r2)) :
    Calls Try.prog 29 #[u9000_, .int .i64 a1] w fun e w' => e = .returned (.int .i64 r1) ∧ Kd.S k38 38 w' w0.heap.size (fun k_ => (P0_ k_ ∨ w.heap.size ≤ k_)) u9000_ r2 ∧ Below w0.heap.size w0 w' ∧ Kept w w' (fun k_ => P0_ k_) := by
  have HO0 := Aside0.mk (Kd.S_mono (ok' := (fun k_ => (P0_ k_ ∨ w.heap.size ≤ k_))) ho0 (fun k_ hk => (.inl hk)))
  have HK := Aside0.mk (Kept.refl w (fun k_ => P0_ k_))
  have HB := Aside0.mk hB
  clear hB ho0
  have H' := Aside0.mk h
  clear h
  replace H' : Aside0 (laws_markContestS.l0 k l0 a1 0 = some (r1, r2)) := H'
  go_enter Try.func29, Try.ntmps29
  go_wp2
  go_loopg [1, 5] k (fun kq v1 v5 w' => ∃ (xs : List (S38)) (a i : Int), v1 = .int .i64 a ∧ v5 = .int .i64 i ∧ Aside0 (laws_markContestS.l0 kq xs a i = some (r1, r2)) ∧ Aside0 (kq ≤ k) ∧ Aside0 (Kd.S k38 38 w' w0.heap.size (fun k_ => (P0_ k_ ∨ w.heap.size ≤ k_)) u9000_ xs) ∧ Aside0 (Kept w w' (fun k_ => P0_ k_)) ∧ Aside0 (Below w0.heap.size w0 w'))
  case atStart => exact ⟨l0, a1, 0, rfl, rfl, H', ⟨Nat.le_refl _⟩, HO0, HK, HB⟩
  case round =>
    clear H' HO0 HK HB
    obtain ⟨xs, a, i, rfl, rfl, HA, HK1, HO, HK, HB⟩ := hrel
    cases gk with
    | zero => exact absurd HA.out (by simp [laws_markContestS.l0])
    | succ k1 =>
      have H := HA.out
      clear HA
      simp only [laws_markContestS.l0] at H
      by_cases c3 : i < (xs.length : Int)
      · rw [if_pos c3] at H
        by_cases c4 : 0 ≤ i
        · rw [if_pos c4] at H
          obtain ⟨⟨b1, b2⟩, A30, H⟩ := Option.bind_eq_some_iff.mp H
          have A3 := Aside0.mk A30
          have HN := Aside0.mk H
          clear H A30
          obtain ⟨go, co, eo, gb0, gl, cl, HG⟩ := Kd.S_form HO.out (by omega)
          (first | cases eo | (injection eo with ea_ en_ ec_; (first | subst ea_ | (injection ea_ with ea_; subst ea_)); subst ec_; clear en_))
          have GB := Aside0.mk gb0
          have HMgo := Aside0.mk (show (P0_ go ∨ w.heap.size ≤ go) from ((Kd.S_R HO.out).1 _ rfl))
          clear gb0 gl HG
          have HLT := Aside0.mk c3
          have hlt : i.toNat < xs.length := by omega
          have HT := Aside0.mk hlt
          clear hlt
          have c3b0 : decide (i < (xs.length : Int)) = true := decide_eq_true c3
          have c4b0 : decide (0 ≤ i) = true := decide_eq_true c4
          have p5 : 0 ≤ i := c4
          have q5 : i < (xs.length : Int) := c3
          obtain ⟨oki, ve, hx0, ge, hok, hnext⟩ := laws_markContestS.lend HO.out i c4 (by have := HLT.out; omega); (try simp only [laws_markContestS.rds HT.out] at ge); have GE := Aside0.mk ge; have HOK := Aside0.mk hok; have HNX := Aside0.mk hnext; clear ge hok hnext
          clear c3
          have C4 := Aside0.mk c4
          clear c4
          replace p5 := eq_true p5
          replace q5 := eq_true q5
          go_wp2_with (first | (go_at_call 30; (with_reducible refine (laws_markIntS.calls k1 oki ve _ a b1 b2 w0 _ ?sideB ?sideR A3.out).mono ?_); (case sideB => exact HB.out); (case sideR => exact GE.out); rintro e W0 ⟨rfl, hR, hb, hk⟩; replace HB := Aside0.mk hb; replace HO := Aside0.mk (HNX.out W0 b2 hk (Kd.R_mono (Kd.R_tight rfl hR) (fun k_ h_ => GE.out.1 k_ h_.symm))); replace HK := Aside0.mk (Kept.then_ HK.out hk (fun k_ h_ => HOK.out k_ h_)); clear hR hb hk; obtain ⟨vx1, hx1, hf1, hS1, hg1⟩ := laws_markContestS.put1 HO.out i C4.out (by have := HLT.out; omega) b1; have HS1 := Aside0.mk hS1; have HG1 := Aside0.mk hg1; clear hS1 hg1) | ((with_reducible refine gate_store (t := 3) (p := 23) rfl ?_); refine store_event (t := 3) (p := 23) (v := ?vo_) (w1 := (W0.setCell ⟨go, i.toNat * 3 + 1, none⟩ (.int .i64 b1))) ?hg ?ho ?hn ?hr ?_; (case ho => rfl); (case hg => rfl); (case hn => rfl); (case hr => first | (go_simp; done) | (go_simp; rfl)); intro W1 hw; have hg_ : W0.grownBy W1 (some go) := (by rw [hw]; exact HG1.out); replace HO := Aside0.mk ((by rw [hw]; exact HS1.out : Kd.S k38 38 W1 w0.heap.size (fun k_ => (P0_ k_ ∨ w.heap.size ≤ k_)) (.slice (some ⟨go, 0, none⟩) xs.length co) _)); replace HB := Aside0.mk ((by rw [hw]; exact below_set HB.out GB.out : Below w0.heap.size w0 W1)); replace HK := Aside0.mk (Kept.of_grown (S := (fun k_ => P0_ k_)) hg_ HK.out (fun k_ e_ => by injection e_ with e_; subst e_; exact HMgo.out)); clear hg_ hw; obtain ⟨vx2, hx2, hf2, hS2, hg2⟩ := laws_markContestS.put2 HO.out i C4.out (by have := HLT.out; omega) (wrap64 (b1 + 1)); have HS2 := Aside0.mk hS2; have HG2 := Aside0.mk hg2; clear hS2 hg2) | ((with_reducible refine gate_store (t := 3) (p := 30) rfl ?_); refine store_event (t := 3) (p := 30) (v := ?vo_) (w1 := (W1.setCell ⟨go, i.toNat * 3 + 2, none⟩ (.int .i64 (wrap64 (b1 + 1))))) ?hg ?ho ?hn ?hr ?_; (case ho => rfl); (case hg => rfl); (case hn => rfl); (case hr => first | (go_simp; done) | (go_simp; rfl)); intro W2 hw; have hg_ : W1.grownBy W2 (some go) := (by rw [hw]; exact HG2.out); replace HO := Aside0.mk ((by rw [hw]; exact HS2.out : Kd.S k38 38 W2 w0.heap.size (fun k_ => (P0_ k_ ∨ w.heap.size ≤ k_)) (.slice (some ⟨go, 0, none⟩) xs.length co) _)); replace HB := Aside0.mk ((by rw [hw]; exact below_set HB.out GB.out : Below w0.heap.size w0 W2)); replace HK := Aside0.mk (Kept.of_grown (S := (fun k_ => P0_ k_)) hg_ HK.out (fun k_ e_ => by injection e_ with e_; subst e_; exact HMgo.out)); clear hg_ hw))
          go_roundg k1
          case measure => have := HK1.out; omega
          case rel =>
            have q := HO.out
            have hlt := HT.out
            (try simp only [laws_markContestS.rds, List.length_set, hlt, List.set_set] at q)
            first
            | exact ⟨_, _, _, rfl, es, HN, ⟨by have := HK1.out; omega⟩, ⟨q⟩, HK, HB⟩
            | (have q2 := HS2.out; simp only [laws_markContestS.rds, List.length_set, hlt, List.set_set] at q2; exact ⟨_, _, _, rfl, es, HN, ⟨by have := HK1.out; omega⟩, ⟨q2⟩, ⟨Kept.of_grown (S := (fun k_ => P0_ k_)) HG2.out HK.out (fun k_ e_ => by injection e_ with e_; subst e_; exact HMgo.out)⟩, ⟨below_set HB.out GB.out⟩⟩)
        · rw [if_neg c4] at H
          exact absurd H (by simp)
      · rw [if_neg c3] at H
        have c3b0 : decide (i < (xs.length : Int)) = false := decide_eq_false c3
        clear c3
        simp only [Option.some.injEq, Prod.mk.injEq] at H
        obtain ⟨rfl, rfl⟩ := H
        obtain ⟨Ao9, co9, eo9⟩ := Kd.S_slice HO.out
        subst eo9
        go_wp2
        go_ret
        exact ⟨rfl, HO.out, HB.out, HK.out⟩

end Go.Proofs.Ytaopcamaceddnaa.X
