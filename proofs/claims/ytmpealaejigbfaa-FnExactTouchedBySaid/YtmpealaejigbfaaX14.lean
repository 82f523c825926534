-- Written by a program of this session (wip/xp.py, over the kit's print) out of the translation: functions, and the walks that show them.
import Derived.Lib.SliceRun
import Derived.Test.YtmpealaejigbfaaX0
import Derived.Test.YtmpealaejigbfaaX13
namespace Go.Proofs.Ytmpealaejigbfaa.X
open Go.RowKit Go.Proofs.YtmpealaejigbfaaW.PrintWords Go.Proofs.YtmpealaejigbfaaW.PrintLast Go.Proofs.YtmpealaejigbfaaW.PrintMore
attribute [local go_sem] max2_int min2_int max_two min_two max_three min_three max_four min_four   -- for this text's walks alone
set_option linter.unusedVariables false
set_option linter.unusedSimpArgs false

/-! ### impl_TouchedBy: slices.DeleteFunc (function 43) with the closure 45 (this session's own text) -/
def impl_TouchedBy.ix (p : Nat → Int → Option Bool) : Nat → List Int → Nat → Option Int
  | 0, _, _ => none
  | k + 1, xs, i => if i < xs.length then ((p k (xs.getD i 0)).bind fun b => (if b = true then (some (i : Int)) else (impl_TouchedBy.ix p k xs (i + 1)))) else (some (-1))
def impl_TouchedBy.dl (p : Nat → Int → Option Bool) : Nat → List Int → Nat → Nat → Option (List Int)
  | 0, _, _, _ => none
  | k + 1, xs, i, j => if j < xs.length then ((p k (xs.getD j 0)).bind fun b => (if b = true then (impl_TouchedBy.dl p k xs i (j + 1)) else (if i < xs.length then (impl_TouchedBy.dl p k (xs.set i (xs.getD j 0)) (i + 1) (j + 1)) else (none)))) else (if i < xs.length then (some (xs.take i)) else (none))
def impl_TouchedBy.del (p : Nat → Int → Option Bool) (k : Nat) (xs : List Int) : Option (List Int) := (impl_TouchedBy.ix p k xs 0).bind fun t => (if t = -1 then (some xs) else (if 0 ≤ t then (impl_TouchedBy.dl p k xs t.toNat (t.toNat + 1)) else (none)))
theorem impl_TouchedBy.ix_mono {p : Nat → Int → Option Bool} (hp : ∀ k x, LeO (p k x) (p (k + 1) x)) : ∀ k xs i, LeO (impl_TouchedBy.ix p k xs i) (impl_TouchedBy.ix p (k + 1) xs i)
  | 0, _, _ => fun r h => by simp [impl_TouchedBy.ix] at h
  | k + 1, xs, i => by
    have ih := impl_TouchedBy.ix_mono hp k
    unfold impl_TouchedBy.ix
    exact LeO.ite (LeO.bind (hp _ _) (fun _ => LeO.ite (LeO.refl _) (ih _ _))) (LeO.refl _)
theorem impl_TouchedBy.dl_mono {p : Nat → Int → Option Bool} (hp : ∀ k x, LeO (p k x) (p (k + 1) x)) : ∀ k xs i j, LeO (impl_TouchedBy.dl p k xs i j) (impl_TouchedBy.dl p (k + 1) xs i j)
  | 0, _, _, _ => fun r h => by simp [impl_TouchedBy.dl] at h
  | k + 1, xs, i, j => by
    have ih := impl_TouchedBy.dl_mono hp k
    unfold impl_TouchedBy.dl
    exact LeO.ite (LeO.bind (hp _ _) (fun _ => LeO.ite (ih _ _ _) (LeO.ite (ih _ _ _) (LeO.refl _)))) (LeO.ite (LeO.refl _) (LeO.refl _))
theorem impl_TouchedBy.del_mono {p : Nat → Int → Option Bool} (hp : ∀ k x, LeO (p k x) (p (k + 1) x)) (k : Nat) (xs : List Int) : LeO (impl_TouchedBy.del p k xs) (impl_TouchedBy.del p (k + 1) xs) := by
  unfold impl_TouchedBy.del
  exact LeO.bind (impl_TouchedBy.ix_mono hp _ _ _) (fun _ => LeO.ite (LeO.refl _) (LeO.ite (impl_TouchedBy.dl_mono hp _ _ _ _) (LeO.refl _)))
theorem impl_TouchedBy.puts {base g n cap : Nat} {ok : Nat → Prop} : ∀ (m : Nat) (W : World) (xs : List Int) (i : Nat), (Kd.int .i64).R 3 W base ok (.slice (some ⟨g, 0, none⟩) n cap) xs → i + m ≤ n →
    ∃ ys : List Int, (Kd.int .i64).R 3 (W.setCells g i (List.replicate m (.int .i64 0))) base ok (.slice (some ⟨g, 0, none⟩) n cap) ys ∧ ys.take i = xs.take i ∧ ys.length = xs.length ∧ W.grownBy (W.setCells g i (List.replicate m (.int .i64 0))) (some g) ∧ ∀ (w0 : World), Below w0.heap.size w0 W → w0.heap.size ≤ g → Below w0.heap.size w0 (W.setCells g i (List.replicate m (.int .i64 0)))
  | 0, W, xs, i, h, hi => ⟨xs, h, rfl, rfl, World.grownBy.refl _ _, fun _ hb _ => hb⟩
  | m + 1, W, xs, i, h, hi => by
    have h1 := Kd.R_putg h (i : Int) 0
    rw [Int.toNat_natCast] at h1
    obtain ⟨ys, h2, h3, h4, h5, h6⟩ := impl_TouchedBy.puts m (W.setCell ⟨g, i, none⟩ (.int .i64 0)) (xs.set i 0) (i + 1) h1.1 (by omega)
    refine ⟨ys, h2, ?_, by rw [h4]; simp, h1.2.andThen h5 (fun j hj => .inr hj), fun w0 hb hg => h6 w0 (below_set hb hg) hg⟩
    have := congrArg (List.take i) h3
    rw [List.take_take, List.take_take, Nat.min_eq_left (by omega)] at this
    rw [this, List.take_set]
    exact List.set_eq_of_length_le (by rw [List.length_take]; omega)
theorem impl_TouchedBy.wn {i : Nat} (h : i < 4611686018427387905) : Value.int .i64 (wrap64 ((i : Int) + 1)) = .int .i64 ((i + 1 : Nat) : Int) := by
  rw [show wrap64 ((i : Int) + 1) = ((i + 1 : Nat) : Int) by unfold wrap64; omega]
theorem impl_TouchedBy.ix_lt {p : Nat → Int → Option Bool} : ∀ {k : Nat} {xs : List Int} {i t : Nat}, impl_TouchedBy.ix p k xs i = some (t : Int) → t < xs.length
  | 0, _, _, _, h => by simp [impl_TouchedBy.ix] at h
  | k + 1, xs, i, t, h => by
    simp only [impl_TouchedBy.ix] at h
    by_cases c : i < xs.length
    · rw [if_pos c] at h
      obtain ⟨b, _, h⟩ := Option.bind_eq_some_iff.mp h
      cases b with
      | true => rw [if_pos rfl] at h; have := Option.some.inj h; omega
      | false => rw [if_neg (by decide)] at h; exact impl_TouchedBy.ix_lt h
    · rw [if_neg c] at h
      have := Option.some.inj h
      omega
set_option maxHeartbeats 8000000 in
set_option maxRecDepth 100000 in
theorem impl_TouchedBy.search (p : Nat → Int → Option Bool) (k : Nat) (b0 b1 : Nat) (A0 : Option Addr) (c0 : Nat) (l0 : List Int) (r : Int) (w : World) (hr0 : Kd.C (Kd.int .i64) w A0 l0.length l0) (hc0 : l0.length ≤ c0) (hb0 : l0.length ≤ 4611686018427387904)
    (hp : ∀ (k : Nat) (x : Int) (b : Bool) (W : World), p k x = some b → Below w.heap.size w W → Calls Try.prog 45 #[.int .i64 x, .pointer (some ⟨b0, 0, none⟩), .pointer (some ⟨b1, 0, none⟩)] W fun e w' => e = .returned (.bool b) ∧ Below W.heap.size W w') (h : impl_TouchedBy.ix p k l0 0 = some r) :
    Calls Try.prog 65 #[.slice A0 l0.length c0, .func (.func 45) #[] #[.pointer (some ⟨b0, 0, none⟩), .pointer (some ⟨b1, 0, none⟩)]] w fun e w' => e = .returned (.int .i64 r) ∧ Below w.heap.size w w' := by
  have HR0 := Aside0.mk hr0
  have HC0 := Aside0.mk hc0
  have HN := Aside0.mk hb0
  have HP := Aside0.mk hp
  clear hr0 hc0 hp hb0
  have H' := Aside0.mk h
  clear h
  have HB := Aside0.mk (Below.refl w.heap.size w)
  go_enter Try.func65, Try.ntmps65
  go_wp2
  go_loopg [8] k (fun kq v w' => ∃ (i : Nat), v = .int .i64 (i : Int) ∧ Aside0 (impl_TouchedBy.ix p kq l0 i = some r) ∧ Aside0 (kq ≤ k) ∧ Aside0 (Below w.heap.size w w'))
  case atStart => exact ⟨0, rfl, H', ⟨Nat.le_refl _⟩, HB⟩
  case round =>
    clear H' HB
    obtain ⟨i, rfl, HA, HK1, HB⟩ := hrel
    cases gk with
    | zero => exact absurd HA.out (by simp [impl_TouchedBy.ix])
    | succ k1 =>
      have H := HA.out
      clear HA
      simp only [impl_TouchedBy.ix] at H
      by_cases c7 : i < l0.length
      · rw [if_pos c7] at H
        have hltz : (i : Int) < (l0.length : Int) := by omega
        replace H := Option.bind_eq_some_iff.mp H
        obtain ⟨b, A30, H⟩ := H
        have HH := Aside0.mk H
        clear H
        have hcall := HP.out k1 _ _ _ A30 (bel : Below w.heap.size w wr)
        clear A30
        obtain ⟨ad1, e1, hx1_0⟩ := Kd.at_int HR0.out (i : Int) (by omega) hltz
        cases e1
        replace hx1_0 := hcl HB.out hx1_0
        rw [Int.toNat_natCast] at hx1_0
        have hv : rd l0 (i : Int) = l0.getD i 0 := by simp [rd]
        rw [hv] at hx1_0
        clear hv
        have HL := Aside0.mk c7
        clear c7
        cases b with
        | true =>
          have H := HH.out
          rw [if_pos rfl] at H
          obtain rfl := Option.some.inj H
          clear H HH
          have HQ := Aside0.mk hcall
          clear hcall
          go_wp2_with (go_at_call 45; refine HQ.out.mono ?_; rintro e w' ⟨rfl, hb⟩; replace HB := Aside0.mk (below_step bel hb); clear hb)
          go_ret
          exact ⟨er, bel⟩
        | false =>
          have H := HH.out
          rw [if_neg (by decide)] at H
          have HN2 := Aside0.mk H
          clear H HH
          have HQ := Aside0.mk hcall
          clear hcall
          go_wp2_with (go_at_call 45; refine HQ.out.mono ?_; rintro e w' ⟨rfl, hb⟩; replace HB := Aside0.mk (below_step bel hb); clear hb)
          go_roundg k1
          case measure => have := HK1.out; omega
          case rel =>
            have hN := HN.out
            have hL := HL.out
            exact ⟨i + 1, impl_TouchedBy.wn (by omega), HN2, ⟨by have := HK1.out; omega⟩, ⟨bel⟩⟩
      · rw [if_neg c7] at H
        have hltz : ¬ (i : Int) < (l0.length : Int) := by omega
        clear c7
        obtain rfl := Option.some.inj H
        go_wp2
        go_ret
        exact ⟨er, bel⟩
set_option maxHeartbeats 8000000 in
set_option maxRecDepth 100000 in
theorem impl_TouchedBy.delCalls (p : Nat → Int → Option Bool) (k : Nat) (b0 b1 : Nat) (P0_ : Nat → Prop) (u : Value) (l0 r : List Int) (w0 w : World) (hb0 : l0.length ≤ 4611686018427387904) (hB : Below w0.heap.size w0 w) (ho0 : Kd.R (Kd.int .i64) 3 w w0.heap.size P0_ u l0)
    (hp : ∀ (k : Nat) (x : Int) (b : Bool) (W : World), p k x = some b → Kept w W P0_ → Calls Try.prog 45 #[.int .i64 x, .pointer (some ⟨b0, 0, none⟩), .pointer (some ⟨b1, 0, none⟩)] W fun e w' => e = .returned (.bool b) ∧ Below W.heap.size W w') (h : impl_TouchedBy.del p k l0 = some r) :
    Calls Try.prog 43 #[u, .func (.func 45) #[] #[.pointer (some ⟨b0, 0, none⟩), .pointer (some ⟨b1, 0, none⟩)]] w fun e w' => ∃ v_ : Value, e = .returned v_ ∧ Kd.R (Kd.int .i64) 3 w' w0.heap.size P0_ v_ r ∧ Below w0.heap.size w0 w' ∧ Kept w w' P0_ := by
  obtain ⟨A0, c0, rfl⟩ := Kd.R_slice ho0
  have HN := Aside0.mk hb0
  have HP := Aside0.mk hp
  have HO := Aside0.mk ho0
  have HB := Aside0.mk hB
  have HK := Aside0.mk (Kept.refl w P0_)
  clear hp hb0 ho0 hB
  obtain ⟨t, A1, H⟩ := Option.bind_eq_some_iff.mp h
  clear h
  have A1 := Aside0.mk A1
  have HH := Aside0.mk H
  clear H
  by_cases ct : t = -1
  · subst ct
    have H := HH.out
    rw [if_pos rfl] at H
    obtain rfl := Option.some.inj H
    clear H HH
    go_enter Try.func43, Try.ntmps43
    go_wp2_with (go_at_call 65; (with_reducible refine (impl_TouchedBy.search p k b0 b1 A0 c0 l0 (-1) w ?side1 ?side2 ?side3 ?side4 A1.out).mono ?_); (case side1 => exact (Kd.R_reads' HO.out).2.2); (case side2 => exact (Kd.R_reads' HO.out).2.1); (case side3 => exact HN.out); (case side4 => exact fun k x b W hx hw => HP.out k x b W hx (Kept.of_below hw _)); rintro e w1 ⟨rfl, hb⟩; replace HO := Aside0.mk (Kd.R_below HO.out hb); replace HK := Aside0.mk (Kept.of_below hb P0_); replace HB := Aside0.mk (below_step HB.out hb); clear hb)
    go_ret
    exact ⟨_, rfl, HO.out, HB.out, HK.out⟩
  · have H := HH.out
    rw [if_neg ct] at H
    by_cases ct2 : 0 ≤ t
    · rw [if_pos ct2] at H
      obtain ⟨i0, rfl⟩ := Int.eq_ofNat_of_zero_le ct2
      rw [Int.toNat_natCast] at H
      have H' := Aside0.mk H
      clear H HH ct2
      have hne1 : ((i0 : Int) == -1) = false := beq_eq_false_iff_ne.2 ct
      have HNE := Aside0.mk ct
      clear ct
      have HI : Aside0 (i0 < l0.length) := ⟨impl_TouchedBy.ix_lt A1.out⟩
      have hn0 : 0 < l0.length := by have := HI.out; omega
      obtain ⟨g, cap, eo, gb0, gl, cl, HG⟩ := Kd.R_form HO.out hn0
      (first | cases eo | (injection eo with ea_ en_ ec_; (first | subst ea_ | (injection ea_ with ea_; subst ea_)); subst ec_; clear en_))
      have GB := Aside0.mk gb0
      have HMg := Aside0.mk (show P0_ g from HO.out.1 _ rfl)
      clear gb0 gl HG hn0
      obtain ⟨n, hn⟩ : ∃ n, n = l0.length := ⟨_, rfl⟩
      have HLN := Aside0.mk hn
      clear hn
      go_enter Try.func43, Try.ntmps43
      go_wp2_with (go_at_call 65; (with_reducible refine (impl_TouchedBy.search p k b0 b1 _ c0 l0 (i0 : Int) w ?side1 ?side2 ?side3 ?side4 A1.out).mono ?_); (case side1 => exact (Kd.R_reads' HO.out).2.2); (case side2 => exact (Kd.R_reads' HO.out).2.1); (case side3 => exact HN.out); (case side4 => exact fun k x b W hx hw => HP.out k x b W hx (Kept.of_below hw _)); rintro e w1 ⟨rfl, hb⟩; replace HO := Aside0.mk (Kd.R_below HO.out hb); replace HK := Aside0.mk (Kept.of_below hb P0_); replace HB := Aside0.mk (below_step HB.out hb); clear hb)
      go_loopg [5, 6, 7] k (fun kq v5 v6 _ w' => ∃ (xs : List Int) (i j : Nat), v5 = .int .i64 (i : Int) ∧ v6 = .int .i64 (j : Int) ∧ Aside0 (xs.length = l0.length) ∧ Aside0 (j ≤ l0.length) ∧ Aside0 (impl_TouchedBy.dl p kq xs i j = some r) ∧ Aside0 (kq ≤ k) ∧ Aside0 (Kd.R (Kd.int .i64) 3 w' w0.heap.size P0_ (.slice (some ⟨g, 0, none⟩) l0.length c0) xs) ∧ Aside0 (Kept w w' P0_) ∧ Aside0 (Below w0.heap.size w0 w'))
      case atStart => exact ⟨l0, i0, i0 + 1, rfl, impl_TouchedBy.wn (by have := HI.out; have := HN.out; omega), ⟨rfl⟩, ⟨HI.out⟩, H', ⟨Nat.le_refl _⟩, HO, HK, HB⟩
      case round =>
        clear H' HO HK HB A1 HI HNE hne1
        obtain ⟨xs, i, j, rfl, rfl, HX, HJ, HA, HK1, HO, HK, HB⟩ := hrel
        cases gk with
        | zero => exact absurd HA.out (by simp [impl_TouchedBy.dl])
        | succ k1 =>
          have H := HA.out
          clear HA
          simp only [impl_TouchedBy.dl] at H
          by_cases c7 : j < xs.length
          · rw [if_pos c7] at H
            have hltz : (j : Int) < (l0.length : Int) := by have := HX.out; omega
            replace H := Option.bind_eq_some_iff.mp H
            obtain ⟨b, A30, H⟩ := H
            have HH := Aside0.mk H
            clear H
            have HQ := Aside0.mk (HP.out k1 _ _ _ A30 HK.out)
            clear A30
            obtain ⟨hxj, hfj⟩ := Kd.R_celln 0 HO.out (j : Int) (by omega) hltz
            rw [Int.toNat_natCast, show rdOf 0 xs (j : Int) = xs.getD j 0 by simp [rdOf]] at hxj
            clear hfj
            have HL := Aside0.mk c7
            clear c7
            cases b with
            | true =>
              have H := HH.out
              rw [if_pos rfl] at H
              have HN2 := Aside0.mk H
              clear H HH
              go_wp2_with (go_at_call 45; refine HQ.out.mono ?_; rintro e w2 ⟨rfl, hb⟩; replace HO := Aside0.mk (Kd.R_below HO.out hb); replace HK := Aside0.mk (Kept.then_ HK.out (Kept.of_below hb (fun _ => False)) (fun _ h_ => h_.elim)); replace HB := Aside0.mk (below_step HB.out hb); clear hb)
              go_roundg k1
              case measure => have := HK1.out; omega
              case rel =>
                have hN := HN.out
                have hL := HL.out
                have hX := HX.out
                exact ⟨xs, i, j + 1, rfl, impl_TouchedBy.wn (by omega), HX, ⟨by omega⟩, HN2, ⟨by have := HK1.out; omega⟩, HO, HK, HB⟩
            | false =>
              have H := HH.out
              rw [if_neg (by decide)] at H
              by_cases c8 : i < xs.length
              · rw [if_pos c8] at H
                have HN2 := Aside0.mk H
                clear H HH
                have hlti : (i : Int) < (l0.length : Int) := by have := HX.out; omega
                have HLI := Aside0.mk c8
                clear c8
                go_wp2_with (go_at_call 45; refine HQ.out.mono ?_; rintro e w2 ⟨rfl, hb⟩; replace HO := Aside0.mk (Kd.R_below HO.out hb); replace HK := Aside0.mk (Kept.then_ HK.out (Kept.of_below hb (fun _ => False)) (fun _ h_ => h_.elim)); replace HB := Aside0.mk (below_step HB.out hb); clear hb; obtain ⟨hxi, hfi⟩ := Kd.R_celln 0 HO.out (i : Int) (by omega) hlti; rw [Int.toNat_natCast] at hxi hfi)
                go_roundg k1
                case measure => have := HK1.out; omega
                case rel =>
                  have hN := HN.out
                  have hL := HL.out
                  have hI := HLI.out
                  have hX := HX.out
                  have hP := Kd.R_putg HO.out (i : Int) (xs.getD j 0)
                  rw [Int.toNat_natCast] at hP
                  exact ⟨xs.set i (xs.getD j 0), i + 1, j + 1, impl_TouchedBy.wn (by omega), impl_TouchedBy.wn (by omega), ⟨by simpa using hX⟩, ⟨by omega⟩, HN2, ⟨by have := HK1.out; omega⟩, ⟨hP.1⟩, ⟨Kept.of_grown hP.2 HK.out (fun k_ e_ => by injection e_ with e_; subst e_; exact .inl HMg.out)⟩, ⟨below_set HB.out GB.out⟩⟩
              · rw [if_neg c8] at H
                exact absurd H (by simp)
          · rw [if_neg c7] at H
            have hltz : ¬ (j : Int) < (l0.length : Int) := by have := HX.out; omega
            clear c7
            by_cases c8 : i < xs.length
            · rw [if_pos c8] at H
              obtain rfl := Option.some.inj H
              clear H
              have hil : i < l0.length := by have := HX.out; omega
              obtain ⟨ys, hy1, hy2, hy3, hy4, hy5⟩ := impl_TouchedBy.puts (l0.length - i) wr xs i HO.out (by omega)
              have hclr : ∀ ty, (Builtin.clear_ #[22] ty #[.slice (some ⟨g, i, none⟩) (l0.length - i) (c0 - i)]).run Try.prog wr = .ok (.tuple #[]) (wr.setCells g i (List.replicate (l0.length - i) (.int .i64 0))) :=
                fun ty => Lib.run_clear_slice wr _ _ ty _ Try.underlying22 (fun w => by rfl) rfl rfl g i _ _ (by omega) (fun t ht => by have q := (Kd.R_celln 0 HO.out ((i + t : Nat) : Int) (by omega) (by omega)).1; rw [Int.toNat_natCast] at q; rw [q]; rfl) (fun t ht => by have q := (Kd.R_celln 0 HO.out ((i + t : Nat) : Int) (by omega) (by omega)).2; rw [Int.toNat_natCast] at q; exact q)
              have HY := Aside0.mk (Kd.R_take (m := i) hy1 (by rw [hy3]; exact Nat.le_of_lt c8))
              have HT := Aside0.mk hy2
              have HGR := Aside0.mk hy4
              have HBL := Aside0.mk (hy5 w0 HB.out GB.out)
              have hcc := Aside0.mk (Kd.R_reads' HO.out).2.1
              clear hy1 hy2 hy3 hy4 hy5
              have hic : i ≤ c0 := by have := hcc.out; omega
              have hlc : l0.length ≤ c0 := hcc.out
              clear c8
              go_wp2
              go_ret
              rw [HT.out] at HY
              exact ⟨_, rfl, by simpa using HY.out, HBL.out, Kept.of_grown (S := P0_) HGR.out HK.out (fun k_ e_ => by injection e_ with e_; subst e_; exact .inl HMg.out)⟩
            · rw [if_neg c8] at H
              exact absurd H (by simp)
    · rw [if_neg ct2] at H
      exact absurd H (by simp)
set_option maxHeartbeats 8000000 in
set_option maxRecDepth 100000 in
theorem impl_TouchedBy.test (b0 b1 : Nat) (A0 : Option Addr) (c0 : Nat) (l0 : List (S27)) (x0 : Int) (i : Int) (r : Bool) (w : World) (hr0 : Kd.C k27 w A0 l0.length l0) (h0 : w.cell? ⟨b0, 0, none⟩ = some (.slice A0 l0.length c0)) (h1 : w.cell? ⟨b1, 0, none⟩ = some (.int .i64 x0)) (h : (if 0 ≤ i then (if i < (l0.length : Int) then some (decide ((rd_T27 l0 i).f0 < x0)) else none) else none) = some r) :
    Calls Try.prog 45 #[.int .i64 i, .pointer (some ⟨b0, 0, none⟩), .pointer (some ⟨b1, 0, none⟩)] w fun e w' => e = .returned (.bool r) ∧ Below w.heap.size w w' := by
  have HR0 := Aside0.mk hr0
  clear hr0
  have HB := Aside0.mk (Below.refl w.heap.size w)
  by_cases c1 : 0 ≤ i
  · rw [if_pos c1] at h
    by_cases c2 : i < (l0.length : Int)
    · rw [if_pos c2] at h
      obtain rfl := Option.some.inj h
      have p1 := c1
      have q1 := c2
      have c1b : decide (0 ≤ i) = true := decide_eq_true c1
      have c2b : decide (i < (l0.length : Int)) = true := decide_eq_true c2
      clear c1 c2
      obtain ⟨ad1, A1_, c1_, e1, hx1_0, hx1_1, hl1_, hi1_⟩ := at_T27 HR0.out i p1 q1; clear hl1_ hi1_ hx1_1
      cases e1
      replace p1 := eq_true p1
      replace q1 := eq_true q1
      go_enter Try.func45, Try.ntmps45
      go_wp2
      go_region
      all_goals go_wp2
      all_goals go_ret
      all_goals exact ⟨er, bel⟩
    · rw [if_neg c2] at h
      exact absurd h (by simp)
  · rw [if_neg c1] at h
    exact absurd h (by simp)
def impl_TouchedBy.p (l0 : List (S27)) (x0 : Int) (_ : Nat) (i : Int) : Option Bool := if 0 ≤ i then (if i < (l0.length : Int) then some (decide ((rd_T27 l0 i).f0 < x0)) else none) else none
def impl_TouchedBy.f (k : Nat) (l0 : List (S27)) (a1_0 : Int) (a1_1 : Int) (a1_2 : Int) (a1_3 : Int) (a1_4 : Int) (a1_5 : Int) (a1_6 : Int) : Option (List Int) := (impl_upTo.f k (l0.length : Int)).bind fun u => (if u.length ≤ 4611686018427387904 then (impl_TouchedBy.del (impl_TouchedBy.p l0 a1_0) k u) else (none))
theorem impl_TouchedBy.mono : ∀ a0 x0 x1 x2 x3 x4 x5 x6 k, LeO (impl_TouchedBy.f k a0 x0 x1 x2 x3 x4 x5 x6) (impl_TouchedBy.f (k + 1) a0 x0 x1 x2 x3 x4 x5 x6) := by
  intros
  unfold impl_TouchedBy.f
  exact LeO.bind (impl_upTo.mono _ _) (fun _ => LeO.ite (impl_TouchedBy.del_mono (fun _ _ => LeO.refl _) _ _) (LeO.refl _))
set_option maxHeartbeats 8000000 in
set_option maxRecDepth 100000 in
theorem impl_TouchedBy.calls (k : Nat) (A0 : Option Addr) (c0 : Nat) (l0 : List (S27)) (a1_0 : Int) (a1_1 : Int) (a1_2 : Int) (a1_3 : Int) (a1_4 : Int) (a1_5 : Int) (a1_6 : Int) (r : List Int) (w : World) (hr0 : Kd.C k27 w A0 l0.length l0) (hc0 : l0.length ≤ c0)  (h : impl_TouchedBy.f k l0 a1_0 a1_1 a1_2 a1_3 a1_4 a1_5 a1_6 = some r) :
    Calls Try.prog 22 #[.slice A0 l0.length c0, .agg #[.int .i64 a1_0, .int .i64 a1_1, .int .i64 a1_2, .int .i64 a1_3, .int .i64 a1_4, .int .i64 a1_5, .int .i64 a1_6]] w fun e w' => ∃ v0_ : Value, e = .returned (v0_) ∧ Kd.R (Kd.int .i64) 3 w' w.heap.size (fun _ => True) v0_ r ∧ Below w.heap.size w w' := by
  have HR0 := Aside0.mk hr0
  have HC0 := Aside0.mk hc0
  clear hr0 hc0
  have HB := Aside0.mk (Below.refl w.heap.size w)
  obtain ⟨u, A10, H⟩ := Option.bind_eq_some_iff.mp h
  clear h
  have A1 := Aside0.mk A10
  clear A10
  by_cases cl : u.length ≤ 4611686018427387904
  · rw [if_pos cl] at H
    have A2 := Aside0.mk H
    have HL := Aside0.mk cl
    clear H cl
    go_enter Try.func22, Try.ntmps22
    go_wp2_with (first | ((with_reducible refine gate_dst (N := 2) rfl ?_); refine box_event ?hg (N := 2) ?hd (cs := #[.slice A0 l0.length c0]) (t := 45) ?hr ?_; (case hd => rfl); (case hg => rfl); (case hr => first | (go_simp; done) | (go_simp; rfl)); intro gb0 hg w5 hbox hb; have BK0 := Aside0.mk (hbox); have GW0 := Aside0.mk ((bsz hg : w.heap.size ≤ gb0)); replace HB := Aside0.mk (below_step bel hb); clear hb hbox hg; obtain ⟨hcz0_0, hfz0_0⟩ := cf1 BK0.out) | ((with_reducible refine gate_dst (N := 3) rfl ?_); refine box_event ?hg (N := 3) ?hd (cs := #[.int .i64 a1_0, .int .i64 a1_1, .int .i64 a1_2, .int .i64 a1_3, .int .i64 a1_4, .int .i64 a1_5, .int .i64 a1_6]) (t := 49) ?hr ?_; (case hd => rfl); (case hg => rfl); (case hr => first | (go_simp; done) | (go_simp; rfl)); intro gb1 hg w6 hbox hb; replace BK0 := Aside0.mk (bb BK0.out hb); have BK1 := Aside0.mk (hbox); have GW1 := Aside0.mk ((bsz hg : w.heap.size ≤ gb1)); replace HB := Aside0.mk (below_step bel hb); clear hb hbox hg; obtain ⟨hcz0_0, hfz0_0⟩ := cf1 BK0.out) | ((with_reducible refine gate_callee (f := 44) rfl ?_); refine goesL_ (some 7) rfl rfl Try.func44 (by kernel_rfl) rfl #[.int .i64 (l0.length : Int)] rfl ga ?_; (with_reducible refine (impl_upTo.calls k (l0.length : Int) u _ A1.out).mono ?_); rintro e w7 ⟨v1, rfl, ho, hb⟩; refine ⟨_, rfl, ?_⟩; obtain ⟨n1, m1, hn_, hm_, hF⟩ := mk_rowR ho (bel : Below w.heap.size w _); have HF := Aside0.mk hF; have HG0 := Aside0.mk (show gb0 < n1 by rw [hn_]; exact blk_lt BK0.out); have HG1 := Aside0.mk (show gb1 < n1 by rw [hn_]; exact blk_lt BK1.out); have HWN := Aside0.mk (show w.heap.size ≤ n1 by rw [hn_]; exact below_size HB.out); replace BK0 := Aside0.mk (bb BK0.out hb); replace BK1 := Aside0.mk (bb BK1.out hb); replace HB := Aside0.mk (below_step bel hb); clear hb ho hm_ hn_ hF; obtain ⟨Ao1, co1, eo_⟩ := Kd.R_slice HF.out; subst eo_) | (go_at_call 43; (with_reducible refine (impl_TouchedBy.delCalls (impl_TouchedBy.p l0 a1_0) k gb0 gb1 (fun k_ => n1 ≤ k_ ∧ k_ < m1) _ u r w _ HL.out ?side1 ?side2 ?side3 A2.out).mono ?_); (case side1 => exact bel); (case side2 => exact HF.out); (case side3 => (intro kk xx bb_ WW hpp hkk; exact impl_TouchedBy.test gb0 gb1 A0 c0 l0 a1_0 xx bb_ WW (Kd.C_kept_came k27_heap HR0.out HB.out (fun k_ h_ => Nat.le_trans HWN.out h_.1) WW hkk) (cc1 (kept_blk BK0.out hkk (fun h_ => absurd h_.1 (Nat.not_le_of_lt HG0.out)))) ((fun h_ => (cc7 h_).1) (kept_blk BK1.out hkk (fun h_ => absurd h_.1 (Nat.not_le_of_lt HG1.out)))) hpp)); rintro e w8 ⟨v2, rfl, hR, hb, hk⟩; replace HB := Aside0.mk hb; have HR := Aside0.mk hR; clear hb hk hR))
    go_ret
    exact ⟨_, rfl, Kd.R_mono HR.out (fun _ _ => trivial), bel⟩
  · rw [if_neg cl] at H
    exact absurd H (by simp)

end Go.Proofs.Ytmpealaejigbfaa.X
