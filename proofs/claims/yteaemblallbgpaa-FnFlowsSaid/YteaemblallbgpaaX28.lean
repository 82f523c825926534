-- Written by a program of this session (wip/xp.py, over the kit's print) out of the translation: functions, and the walks that show them.
import Derived.Test.YteaemblallbgpaaX0
namespace Go.Proofs.Yteaemblallbgpaa.X
open Go.RowKit Go.Proofs.YteaemblallbgpaaW.PrintWords Go.Proofs.YteaemblallbgpaaW.PrintLast Go.Proofs.YteaemblallbgpaaW.PrintMore
attribute [local go_sem] max2_int min2_int max_two min_two max_three min_three max_four min_four   -- for this text's walks alone
set_option linter.unusedVariables false
set_option linter.unusedSimpArgs false

/-! ### impl_reach: function 46 (this session's own text: wip/reach.txt) -/
def impl_reach.vis (out : List S69) (ws : List Int) (nd pipe : Int) (back : Bool) : Option (List S69 × List Int) :=
  if 0 ≤ nd then (if nd < (out.length : Int) then (if (rd_T69 out nd).f2 = true then (some (out, ws)) else (if ws.length < 17592186044416 then (some (out.set nd.toNat ⟨pipe, back, true⟩, ws ++ [nd])) else (none))) else (none)) else (none)
/-- The two variables that the closure writes: the nodes that are reached, and those that wait. -/
def impl_reach.St (base : Nat) (W : World) (gO gW : Nat) (out : List S69) (ws : List Int) : Prop :=
  base ≤ gO ∧ base ≤ gW ∧ ∃ vO vW : Value, W.heap[gO]? = some (.cells #[vO] 66 (0, 0)) ∧ W.heap[gW]? = some (.cells #[vW] 33 (0, 0)) ∧ Kd.R k69 69 W base (fun _ => True) vO out ∧ Kd.Q (Kd.int .i64) 3 W base (fun _ => True) vW ws
def impl_reach.Kp (w w' : World) : Prop := ∀ (g : Nat) (cs : Array Value) (t : TypeId), (t = 29 ∨ t = 60) → w.heap[g]? = some (.cells cs t (0, 0)) → w'.heap[g]? = some (.cells cs t (0, 0))
theorem impl_reach.Kp.of_grown {w w1 : World} {row : Option Nat} (hg : w.grownBy w1 row) (hne : ∀ k, row = some k → ∃ cells t, w.heap[k]? = some (.cells cells t (0, 0)) ∧ t ≠ 29 ∧ t ≠ 60) : impl_reach.Kp w w1 := fun g cs t ht h => blk_grown h hg (fun e => by
  obtain ⟨cells, t', h1, h2, h3⟩ := hne g e.symm
  rw [h] at h1
  injection h1 with h1
  injection h1 with _ h1
  rcases ht with rfl | rfl
  · exact h2 h1.symm
  · exact h3 h1.symm)
theorem impl_reach.ne_typ {W : World} {a b : Nat} {ca cb : Array Value} {ta tb : TypeId} (h1 : W.heap[a]? = some (.cells ca ta (0, 0))) (h2 : W.heap[b]? = some (.cells cb tb (0, 0))) (ht : ta ≠ tb) : a ≠ b := by
  rintro rfl
  rw [h1] at h2
  injection h2 with h2
  injection h2 with _ h2
  exact ht h2
theorem impl_reach.St_below {base : Nat} {W W1 : World} {gO gW : Nat} {out : List S69} {ws : List Int} (h : impl_reach.St base W gO gW out ws) (hb : Below W.heap.size W W1) : impl_reach.St base W1 gO gW out ws := by
  obtain ⟨h1, h2, vO, vW, h3, h4, h5, h6⟩ := h
  exact ⟨h1, h2, vO, vW, blk_below h3 hb, blk_below h4 hb, Kd.R_below h5 hb, Kd.Q_below h6 hb⟩
theorem impl_reach.St_set {base : Nat} {W : World} {gO gW g : Nat} {out : List S69} {ws : List Int} {cs : Array Value} {t : TypeId} (h : impl_reach.St base W gO gW out ws) (hb : W.heap[g]? = some (.cells cs t (0, 0))) (ht : t ≠ 66 ∧ t ≠ 33 ∧ t ≠ 69 ∧ t ≠ 3) (j : Nat) (u : Value) : impl_reach.St base (W.setCell ⟨g, j, none⟩ u) gO gW out ws := by
  obtain ⟨h1, h2, vO, vW, h3, h4, h5, h6⟩ := h
  refine ⟨h1, h2, vO, vW, blk_far h3 (impl_reach.ne_typ h3 hb (fun e => ht.1 e.symm)) _, blk_far h4 (impl_reach.ne_typ h4 hb (fun e => ht.2.1 e.symm)) _, Kd.R_mono (Kd.R_far (Kd.R_types h5 hb (fun q hq => ?_)) (fun _ hk => hk.2) _) (fun _ _ => trivial), Kd.Q_set h6 hb (fun q hq => ?_) j u⟩
  · have : q = 69 := by simpa [k69, Kd.iso, Kd.pair, Kd.int, Kd.bool, Kd.scalar] using hq
    rw [this]; exact fun e => ht.2.2.1 e.symm
  · have : q = 3 := by simpa [Kd.int, Kd.scalar] using hq
    rw [this]; exact fun e => ht.2.2.2 e.symm
theorem impl_reach.St_far3 {base : Nat} {W W1 : World} {gO gW g : Nat} {out : List S69} {ws : List Int} {b0 b1 b2 a0 a1 a2 : Value} {t : TypeId} (h : impl_reach.St base W gO gW out ws) (hb : W.heap[g]? = some (.cells #[b0, b1, b2] t (0, 0))) (hw : W1 = (((W.setCell ⟨g, 0, none⟩ a0).setCell ⟨g, 1, none⟩ a1).setCell ⟨g, 2, none⟩ a2)) (ht : t ≠ 66 ∧ t ≠ 33 ∧ t ≠ 69 ∧ t ≠ 3) : impl_reach.St base W1 gO gW out ws := by
  subst hw
  exact impl_reach.St_set (impl_reach.St_set (impl_reach.St_set h hb ht 0 _) (blk_set hb 0 _) ht 1 _) (blk_set (blk_set hb 0 _) 1 _) ht 2 _
theorem impl_reach.far3 {W W1 : World} {g g' : Nat} {o : Obj} {a0 a1 a2 : Value} (h : W.heap[g']? = some o) (hne : g' ≠ g) (hw : W1 = (((W.setCell ⟨g, 0, none⟩ a0).setCell ⟨g, 1, none⟩ a1).setCell ⟨g, 2, none⟩ a2)) : W1.heap[g']? = some o := by
  subst hw
  exact (Below.heap_setCell _ _ _ _ hne).trans ((Below.heap_setCell _ _ _ _ hne).trans ((Below.heap_setCell _ _ _ _ hne).trans h))
theorem impl_reach.St_drew {base : Nat} {W : World} {gO gW : Nat} {out : List S69} {ws : List Int} (h : impl_reach.St base W gO gW out ws) : impl_reach.St base W.drew gO gW out ws := by
  obtain ⟨h1, h2, vO, vW, h3, h4, h5, h6⟩ := h
  exact ⟨h1, h2, vO, vW, h3, h4, Kd.R_drew h5, Kd.Q_drew h6⟩
theorem impl_reach.Kp.then_ {w w1 w2 : World} (h : impl_reach.Kp w w1) (k : impl_reach.Kp w1 w2) : impl_reach.Kp w w2 := fun g cs t ht hb => k g cs t ht (h g cs t ht hb)
theorem impl_reach.Kp.below {w w1 : World} (h : Below w.heap.size w w1) : impl_reach.Kp w w1 := fun g cs t ht hb => blk_below hb h
set_option maxHeartbeats 8000000 in
set_option maxRecDepth 100000 in
theorem impl_reach.vcalls (nd pipe : Int) (back : Bool) (gO gW : Nat) (out : List S69) (ws : List Int) (out' : List S69) (ws' : List Int) (w0 w : World) (hB : Below w0.heap.size w0 w) (hS : impl_reach.St w0.heap.size w gO gW out ws) (h : impl_reach.vis out ws nd pipe back = some (out', ws')) :
    Calls Try.prog 53 #[.int .i64 nd, .int .i64 pipe, .bool back, .pointer (some ⟨gO, 0, none⟩), .pointer (some ⟨gW, 0, none⟩)] w fun e w' => e = .returned (.tuple #[]) ∧ impl_reach.St w0.heap.size w' gO gW out' ws' ∧ Below w0.heap.size w0 w' ∧ impl_reach.Kp w w' := by
  have hu69 := Try.underlying69
  unfold impl_reach.vis at h
  by_cases c0 : 0 ≤ nd
  · rw [if_pos c0] at h
    by_cases c1 : nd < (out.length : Int)
    · rw [if_pos c1] at h
      obtain ⟨hgO, hgW, vO, vW, hbO, hbW, hO, hQ⟩ := hS
      obtain ⟨go, co, rfl, gb, gl, cl, HG⟩ := Kd.R_form hO (by omega)
      obtain ⟨Aw, cw, rfl, hlw⟩ := Kd.Q_slice hQ
      obtain ⟨ce, hcl, hM, hcc, hfr⟩ := Kd.R_elem hO z69 nd c0 c1
      obtain rfl := k69_openM hM
      have hx0 : w.cell? ⟨go, nd.toNat * 3, none⟩ = some (.int .i64 (rd_T69 out nd).f0) := hcc 0 _ rfl
      have hx1 : w.cell? ⟨go, nd.toNat * 3 + 1, none⟩ = some (.bool (rd_T69 out nd).f1) := hcc 1 _ rfl
      have hx2 : w.cell? ⟨go, nd.toNat * 3 + 2, none⟩ = some (.bool (rd_T69 out nd).f2) := hcc 2 _ rfl
      have hf0 : w.frozen? ⟨go, nd.toNat * 3, none⟩ = false := hfr 0
      have hf1 : w.frozen? ⟨go, nd.toNat * 3 + 1, none⟩ = false := hfr 1
      have hf2 : w.frozen? ⟨go, nd.toNat * 3 + 2, none⟩ = false := hfr 2
      have p0 : decide (0 ≤ nd) = true := decide_eq_true c0
      have q0 : decide (nd < (out.length : Int)) = true := decide_eq_true c1
      have p1 := eq_true c0
      have q1 := eq_true c1
      have cO := (cf1 hbO).1
      have cW := (cf1 hbW).1
      have fW := (cf1 hbW).2
      have HB := Aside0.mk hB
      have HO := Aside0.mk hO
      have HQ := Aside0.mk hQ
      have HbO := Aside0.mk hbO
      have HbW := Aside0.mk hbW
      have HgO := Aside0.mk hgO
      have HgW := Aside0.mk hgW
      have HGG := Aside0.mk HG
      have GB := Aside0.mk gb
      by_cases c2 : (rd_T69 out nd).f2 = true
      · rw [if_pos c2] at h
        obtain ⟨rfl, rfl⟩ := Prod.mk.inj (Option.some.inj h)
        rw [c2] at hx2
        clear h hB hO hQ hbO hbW hgO hgW HG c0 c1 c2 hcl hM hcc hfr gb gl
        go_enter Try.func53, Try.ntmps53
        go_wp2
        first | go_end0 | ((try simp only [Exit.inBlock, Exit.then]); refine bodyPost_ret (results_none rfl _ _ _) rfl ?_)
        exact ⟨er, ⟨HgO.out, HgW.out, _, _, HbO.out, HbW.out, HO.out, HQ.out⟩, HB.out, impl_reach.Kp.below (Below.refl _ _)⟩
      · rw [if_neg c2] at h
        by_cases c3 : ws.length < 17592186044416
        · rw [if_pos c3] at h
          obtain ⟨rfl, rfl⟩ := Prod.mk.inj (Option.some.inj h)
          have c2' : (rd_T69 out nd).f2 = false := by simpa using c2
          rw [c2'] at hx2
          have HP := Kd.R_seg hO nd c0 c1 (seg := [.int .i64 pipe, .bool back, .bool true]) (j := 0) hcl hcc (show 3 ≤ 3 from by decide) (x' := (⟨pipe, back, true⟩ : S69)) (k69_mkM _ _ _ (⟨pipe, back, true⟩ : S69)) (fun _ hk => hk)
          have LM := Aside0.mk c3
          clear h hB hO hQ hbO hbW hgO hgW HG c0 c1 c2 c3 c2' hcl hM hcc hfr gb gl
          go_enter Try.func53, Try.ntmps53
          go_wp2_with (first
            | ((with_reducible refine gate_store (t := 69) (p := 19) rfl ?_); refine store_event (t := 69) (p := 19) (v := ?vo1) (w1 := (((w.setCell ⟨go, nd.toNat * 3, none⟩ (.int .i64 pipe)).setCell ⟨go, nd.toNat * 3 + 1, none⟩ (.bool back)).setCell ⟨go, nd.toNat * 3 + 2, none⟩ (.bool true))) ?hg ?ho ?hn ?hr ?_; (case ho => rfl); (case hg => rfl); (case hn => rfl); (case hr => first | (go_simp; done) | (go_simp; rfl)); intro w1 hw; have hg : w.grownBy w1 (some go) := (by rw [hw]; exact HP.2); have HO1 := Aside0.mk (show Kd.R k69 69 w1 w0.heap.size (fun _ => True) (.slice (some ⟨go, 0, none⟩) out.length co) (out.set nd.toNat ⟨pipe, back, true⟩) from (by rw [hw]; exact HP.1)); have HQ1 := Aside0.mk (Kd.Q_over' HQ.out (Kd.R_typed HO.out) (by decide) hg); have HbO1 := Aside0.mk (blk_grown HbO.out hg (Kd.R_ne HO.out HbO.out (by decide))); have HbW1 := Aside0.mk (blk_grown HbW.out hg (Kd.R_ne HO.out HbW.out (by decide))); have HK1 := Aside0.mk (impl_reach.Kp.of_grown hg (fun k e => by cases e; exact ⟨cl, 69, HGG.out, by decide, by decide⟩)); have HB1 := Aside0.mk ((by rw [hw]; exact below_set (below_set (below_set (HB.out) GB.out) GB.out) GB.out : Below w0.heap.size w0 w1)); clear hg hw HP cO cW fW hx0 hx1 hx2 hf0 hf1 hf2 HO HQ HbO HbW; have cO := (cf1 HbO1.out).1; have cW := (cf1 HbW1.out).1; have fW := (cf1 HbW1.out).2)
            | ((with_reducible refine gate_builtin (b := .append) (xs := #[.tmp 20, .tmp 22]) rfl ?_); at_builtin; refine Kd.Q_append (Kd.int .i64) (w0 := w0) w0.heap.size rfl (.tmp 20) (.tmp 22) 33 3 (.int .i64 0) 8 rfl Try.underlying33 info3 rfl (by decide) (by omega) _ ws nd [.int .i64 nd] (fun _ => True) (fun _ => False) rfl rfl ?aP (fun _ hk => hk.elim) ?aF ?aO ?aB ?aS ?aL ?_; (case aP => exact rfl); (case aF => exact (fun _ _ => trivial)); (case aO => exact HQ1.out); (case aB => exact HB1.out); (case aS => exact HB1.out.size); (case aL => have := LM.out; omega); intro v2 w2 ho hb hg hat; obtain ⟨A2, c2, rfl, hl2⟩ := Kd.Q_slice ho; have HQ2 := Aside0.mk ho; have HO2 := Aside0.mk (Kd.R_over' HO1.out (Kd.Q_typed HQ1.out) (by decide) hg); have HbO2 := Aside0.mk (blk_grown HbO1.out hg (Kd.Q_ne HQ1.out HbO1.out (by decide))); have HbW2 := Aside0.mk (blk_grown HbW1.out hg (Kd.Q_ne HQ1.out HbW1.out (by decide))); have HK2 := Aside0.mk (impl_reach.Kp.then_ HK1.out (impl_reach.Kp.of_grown hg (fun k e => by obtain ⟨cells, hc⟩ := Kd.Q_typed HQ1.out k e; exact ⟨cells, 3, hc, by decide, by decide⟩))); have HB2 := Aside0.mk hb; clear ho hb hg hat cO cW fW HO1 HQ1 HbO1 HbW1 HB1 HK1 hl2; have cO := (cf1 HbO2.out).1; have cW := (cf1 HbW2.out).1; have fW := (cf1 HbW2.out).2))
          first | go_end0 | ((try simp only [Exit.inBlock, Exit.then]); refine bodyPost_ret (results_none rfl _ _ _) rfl ?_)
          refine ⟨er, ⟨HgO.out, HgW.out, _, _, blk_far HbO2.out ?_ _, blk_put HbW2.out 0 _ rfl, Kd.R_mono (Kd.R_far (Kd.R_types HO2.out HbW2.out (by decide)) (fun _ hk => hk.2) _) (fun _ _ => trivial), (by have h_ := Kd.Q_set HQ2.out HbW2.out (by decide) 0 (.slice A2 (ws ++ [nd]).length c2); rw [show (ws ++ [nd]).length = ws.length + 1 by simp] at h_; exact h_)⟩, below_set HB2.out HgW.out, ?_⟩
          · intro e; subst e; have h1 := HbO2.out; rw [HbW2.out] at h1; injection h1 with h1; injection h1 with _ h1; exact absurd h1 (by decide)
          · intro g cs t ht hb
            refine blk_far (HK2.out g cs t ht hb) ?_ _
            intro e
            subst e
            have h1 := HK2.out _ cs t ht hb
            rw [HbW2.out] at h1
            injection h1 with h1
            injection h1 with _ h1
            rcases ht with rfl | rfl <;> exact absurd h1 (by decide)
        · rw [if_neg c3] at h
          exact absurd h (by simp)
    · rw [if_neg c1] at h
      exact absurd h (by simp)
  · rw [if_neg c0] at h
    exact absurd h (by simp)
theorem impl_reach.info69 : (Try.prog.info? 69).map (fun i => (i.zero, i.size, i.bytes)) = some (some (.agg #[(.int .i64 0), (.bool false), (.bool false)]), 3, 16) := by kernel_rfl
def impl_reach.l1 : Nat → List S60 → List Int → Int → List S69 → List Int → Int → Option (List S69 × List Int)
  | 0, _, _, _, _, _, _ => none
  | k + 1, ps, fl, v, out, ws, i => if i < (ps.length : Int) then (if 0 ≤ i then ((if (rd_T60 ps i).f0 = v then (if i < (fl.length : Int) then (if rd fl i < (rd_T60 ps i).f2 then (impl_reach.vis out ws (rd_T60 ps i).f1 i false) else (some (out, ws))) else (none)) else (some (out, ws))).bind fun a => (if (rd_T60 ps i).f1 = v then (if i < (fl.length : Int) then (if 0 < rd fl i then (impl_reach.vis a.1 a.2 (rd_T60 ps i).f0 i true) else (some a)) else (none)) else (some a)).bind fun b => impl_reach.l1 k ps fl v b.1 b.2 (wrap64 (i + 1))) else (none)) else (some (out, ws))
def impl_reach.l0 : Nat → List S60 → List Int → List S69 → List Int → Option (List S69)
  | 0, _, _, _, _ => none
  | k + 1, ps, fl, out, ws => if (ws.length : Int) > 0 then ((impl_reach.l1 k ps fl (rd ws 0) out (ws.drop 1) 0).bind fun b => impl_reach.l0 k ps fl b.1 b.2) else (some out)
def impl_reach.f (k : Nat) (a0_0 : Int) (l0_1 : List S60) (a1 : Int) (l2 : List Int) : Option (List S69) := if 0 ≤ a0_0 then (if a0_0.toNat ≤ 8796093022208 then (if 0 ≤ a1 then (if a1 < ((List.replicate a0_0.toNat z69).length : Int) then (impl_reach.l0 k l0_1 l2 ((List.replicate a0_0.toNat z69).set a1.toNat ⟨-1, false, true⟩) [a1]) else (none)) else (none)) else (none)) else (none)
theorem impl_reach.mono_l : ∀ k, (∀ y0 y1 y2 y3 y4 y5, LeO (impl_reach.l1 k y0 y1 y2 y3 y4 y5) (impl_reach.l1 (k + 1) y0 y1 y2 y3 y4 y5)) ∧ (∀ y0 y1 y2 y3, LeO (impl_reach.l0 k y0 y1 y2 y3) (impl_reach.l0 (k + 1) y0 y1 y2 y3))
  | 0 => ⟨fun _ _ _ _ _ _ r h => by simp [impl_reach.l1] at h, fun _ _ _ _ r h => by simp [impl_reach.l0] at h⟩
  | k + 1 => by
    obtain ⟨ih0, ih1⟩ := impl_reach.mono_l k
    refine ⟨?_, ?_⟩
    · intro y0 y1 y2 y3 y4 y5
      unfold impl_reach.l1
      repeat' first
      | (with_reducible exact ih0 _ _ _ _ _ _)
      | (with_reducible exact ih1 _ _ _ _)
      | (with_reducible exact LeO.refl _)
      | (with_reducible exact LeO.none _)
      | (with_reducible refine LeO.ite ?_ ?_)
      | (with_reducible refine LeO.bind ?_ (fun _ => ?_))
      | exact ih0 _ _ _ _ _ _
      | exact ih1 _ _ _ _
      | exact LeO.none _
      | refine LeO.ite ?_ ?_
      | refine LeO.bind ?_ (fun _ => ?_)
    · intro y0 y1 y2 y3
      unfold impl_reach.l0
      repeat' first
      | (with_reducible exact ih0 _ _ _ _ _ _)
      | (with_reducible exact ih1 _ _ _ _)
      | (with_reducible exact LeO.refl _)
      | (with_reducible exact LeO.none _)
      | (with_reducible refine LeO.ite ?_ ?_)
      | (with_reducible refine LeO.bind ?_ (fun _ => ?_))
      | exact ih0 _ _ _ _ _ _
      | exact ih1 _ _ _ _
      | exact LeO.none _
      | refine LeO.ite ?_ ?_
      | refine LeO.bind ?_ (fun _ => ?_)
theorem impl_reach.mono : ∀ a0 a1 a2 a3 k, LeO (impl_reach.f k a0 a1 a2 a3) (impl_reach.f (k + 1) a0 a1 a2 a3) := by
  intro a0 a1 a2 a3 k
  obtain ⟨ih0, ih1⟩ := impl_reach.mono_l k
  unfold impl_reach.f
  repeat' first
      | (with_reducible exact ih0 _ _ _ _ _ _)
      | (with_reducible exact ih1 _ _ _ _)
      | (with_reducible exact LeO.refl _)
      | (with_reducible exact LeO.none _)
      | (with_reducible refine LeO.ite ?_ ?_)
      | (with_reducible refine LeO.bind ?_ (fun _ => ?_))
      | exact ih0 _ _ _ _ _ _
      | exact ih1 _ _ _ _
      | exact LeO.none _
      | refine LeO.ite ?_ ?_
      | refine LeO.bind ?_ (fun _ => ?_)
set_option maxHeartbeats 8000000 in
set_option maxRecDepth 100000 in
theorem impl_reach.calls (k : Nat) (a0_0 : Int) (A0_1 : Option Addr) (c0_1 : Nat) (l0_1 : List (S60)) (a1 : Int) (A2 : Option Addr) (c2 : Nat) (l2 : List Int) (r : List (S69)) (w : World) (hr0_1 : Kd.C k60 w A0_1 l0_1.length l0_1) (hc0_1 : l0_1.length ≤ c0_1) (hr2 : Kd.C (Kd.int .i64) w A2 l2.length l2) (hc2 : l2.length ≤ c2) (h : impl_reach.f k a0_0 l0_1 a1 l2 = some r) :
    Calls Try.prog 46 #[.agg #[.int .i64 a0_0, .slice A0_1 l0_1.length c0_1], .int .i64 a1, .slice A2 l2.length c2] w fun e w' => ∃ v0_ : Value, e = .returned (v0_) ∧ Kd.R k69 69 w' w.heap.size (fun _ => True) v0_ r ∧ Below w.heap.size w w' := by
  have hu69 := Try.underlying69
  have hu60 := Try.underlying60
  have hu24 := Try.underlying29
  unfold impl_reach.f at h
  by_cases c0 : 0 ≤ a0_0
  · rw [if_pos c0] at h
    by_cases c1 : a0_0.toNat ≤ 8796093022208
    · rw [if_pos c1] at h
      by_cases c2' : 0 ≤ a1
      · rw [if_pos c2'] at h
        by_cases c3 : a1 < ((List.replicate a0_0.toNat z69).length : Int)
        · rw [if_pos c3] at h
          have HR := Aside0.mk hr0_1
          have HC := Aside0.mk hc0_1
          have HF := Aside0.mk hr2
          have HFC := Aside0.mk hc2
          have H := Aside0.mk h
          have b0 : decide (0 ≤ a0_0) = true := decide_eq_true c0
          have b1 : decide (a0_0.toNat ≤ 8796093022208) = true := decide_eq_true c1
          have p1 := eq_true c2'
          obtain ⟨y0, hy0⟩ : ∃ y_ : List S69, y_ = List.replicate a0_0.toNat z69 := ⟨_, rfl⟩
          rw [← hy0] at c3
          have q1 := eq_true c3
          have Hlt := Aside0.mk c3
          have Hge := Aside0.mk c2'
          have Ny := Aside0.mk hy0
          have HB := Aside0.mk (Below.refl w.heap.size w)
          clear hr0_1 hc0_1 hr2 hc2 h c0 c1 c2' c3 hy0
          go_enter Try.func46, Try.ntmps46
          go_wp2_with (first
            | ((with_reducible refine gate_dst (N := 3) rfl ?_); refine box_event ?hg (N := 3) ?hd (cs := #[.int .i64 a0_0, .slice A0_1 l0_1.length c0_1]) (t := 29) ?hr ?_; (case hd => rfl); (case hg => rfl); (case hr => first | (go_simp; done) | (go_simp; rfl)); intro gn hg w1 hbox hb; have BN := Aside0.mk hbox; replace HB := Aside0.mk (below_step HB.out hb); clear hb hbox hg; obtain ⟨hn0, hn1, hnf0, hnf1⟩ := cf2 BN.out)
            | ((with_reducible refine gate_dst (N := 15) rfl ?_); refine Kd.R_make k69 _ 69 rfl (N := 15) rfl 66 _ _ rfl a0_0 rfl rfl Try.underlying66 (.agg #[(.int .i64 0), (.bool false), (.bool false)]) 16 impl_reach.info69 rfl (by decide) (by omega) z69 (ok := fun _ => True) (okp := fun _ => True) (k69_mkM _ _ _ z69) (fun _ hk => hk) trivial (asm) (Nat.le_trans (Nat.mul_le_mul_right _ (asm : a0_0.toNat ≤ 8796093022208)) (by omega)) (Below.refl _ _) (Nat.le_refl _) ?_; intro v4 w4 ho5 hb hg_ hnew_; clear hg_ hnew_; rw [← Ny.out] at ho5; have HO := Aside0.mk (Kd.R_lower ho5 (below_size HB.out)); replace BN := Aside0.mk (blk_below BN.out hb); replace HB := Aside0.mk (below_step HB.out hb); clear hb ho5 hn0 hn1 hnf0 hnf1; obtain ⟨hn0, hn1, hnf0, hnf1⟩ := cf2 BN.out; obtain ⟨go, co, eo, gb, gl, cl, HG⟩ := Kd.R_form HO.out (by have := Hlt.out; have := Hge.out; omega); (first | cases eo | subst eo); have GB := Aside0.mk gb; have HGG := Aside0.mk HG; clear gb gl HG)
            | ((with_reducible refine gate_dst (N := 7) rfl ?_); refine box_event ?hg (N := 7) ?hd (cs := #[.slice none 0 0]) (t := 66) ?hr ?_; (case hd => rfl); (case hg => rfl); (case hr => first | (go_simp; done) | (go_simp; rfl)); intro gO hg w5 hbox hb; have BO := Aside0.mk hbox; have GO := Aside0.mk (hg ▸ below_size HB.out : w.heap.size ≤ gO); have HO5 := Aside0.mk (Kd.R_below HO.out hb); replace BN := Aside0.mk (blk_below BN.out hb); replace HGG := Aside0.mk (blk_below HGG.out hb); replace HB := Aside0.mk (below_step HB.out hb); clear hb hbox hg HO hn0 hn1 hnf0 hnf1; obtain ⟨hn0, hn1, hnf0, hnf1⟩ := cf2 BN.out; obtain ⟨ho0, hof0⟩ := cf1 BO.out)
            | ((with_reducible refine gate_store (t := 66) (p := 7) rfl ?_); refine store_event (t := 66) (p := 7) (v := ?vo1) (w1 := (w5.setCell ⟨gO, 0, none⟩ (.slice (some ⟨go, 0, none⟩) y0.length co))) ?hg ?ho ?hn ?hr ?_; (case ho => rfl); (case hg => rfl); (case hn => rfl); (case hr => first | (go_simp; done) | (go_simp; rfl)); intro w6 hw; have BO6 := Aside0.mk (show w6.heap[gO]? = some (.cells #[.slice (some ⟨go, 0, none⟩) y0.length co] 66 (0, 0)) from by rw [hw]; exact blk_put BO.out 0 _ rfl); have BN6 := Aside0.mk (show w6.heap[gn]? = some (.cells #[.int .i64 a0_0, .slice A0_1 l0_1.length c0_1] 29 (0, 0)) from by rw [hw]; exact blk_far BN.out (impl_reach.ne_typ BN.out BO.out (by decide)) _); have HO6 := Aside0.mk (show Kd.R k69 69 w6 w.heap.size (fun _ => True) (.slice (some ⟨go, 0, none⟩) y0.length co) y0 from by rw [hw]; exact Kd.R_mono (Kd.R_far (Kd.R_types HO5.out BO.out (by decide)) (fun _ hk => hk.2) _) (fun _ _ => trivial)); have HB6 := Aside0.mk (show Below w.heap.size w w6 from by rw [hw]; exact below_set HB.out GO.out); clear hw HO5 BO BN HB HGG hn0 hn1 hnf0 hnf1 ho0 hof0; obtain ⟨hn0, hn1, hnf0, hnf1⟩ := cf2 BN6.out; obtain ⟨ho0, hof0⟩ := cf1 BO6.out; obtain ⟨ce, hcl, hM, hcc, hfr⟩ := Kd.R_elem HO6.out z69 a1 Hge.out Hlt.out; obtain rfl := k69_openM hM; have hx0 : w6.cell? ⟨go, a1.toNat * 3, none⟩ = some (.int .i64 (rd_T69 y0 a1).f0) := hcc 0 _ rfl; have hx1 : w6.cell? ⟨go, a1.toNat * 3 + 1, none⟩ = some (.bool (rd_T69 y0 a1).f1) := hcc 1 _ rfl; have hx2 : w6.cell? ⟨go, a1.toNat * 3 + 2, none⟩ = some (.bool (rd_T69 y0 a1).f2) := hcc 2 _ rfl; have hf0 : w6.frozen? ⟨go, a1.toNat * 3, none⟩ = false := hfr 0; have hf1 : w6.frozen? ⟨go, a1.toNat * 3 + 1, none⟩ = false := hfr 1; have hf2 : w6.frozen? ⟨go, a1.toNat * 3 + 2, none⟩ = false := hfr 2; have HP := Aside0.mk (Kd.R_seg HO6.out a1 Hge.out Hlt.out (seg := [.int .i64 (-1), .bool false, .bool true]) (j := 0) hcl hcc (show 3 ≤ 3 from by decide) (x' := (⟨-1, false, true⟩ : S69)) (k69_mkM _ _ _ (⟨-1, false, true⟩ : S69)) (fun _ hk => hk)); clear hcl hM hcc hfr)
            | ((with_reducible refine gate_store (t := 69) (p := 19) rfl ?_); refine store_event (t := 69) (p := 19) (v := ?vo2) (w1 := (((w6.setCell ⟨go, a1.toNat * 3, none⟩ (.int .i64 (-1))).setCell ⟨go, a1.toNat * 3 + 1, none⟩ (.bool false)).setCell ⟨go, a1.toNat * 3 + 2, none⟩ (.bool true))) ?hg ?ho ?hn ?hr ?_; (case ho => rfl); (case hg => rfl); (case hn => rfl); (case hr => first | (go_simp; done) | (go_simp; rfl)); intro w7 hw; have hg : w6.grownBy w7 (some go) := (by rw [hw]; exact HP.out.2); have HO7 := Aside0.mk (show Kd.R k69 69 w7 w.heap.size (fun _ => True) (.slice (some ⟨go, 0, none⟩) y0.length co) (y0.set a1.toNat ⟨-1, false, true⟩) from (by rw [hw]; exact HP.out.1)); have BO7 := Aside0.mk (blk_grown BO6.out hg (Kd.R_ne HO6.out BO6.out (by decide))); have BN7 := Aside0.mk (blk_grown BN6.out hg (Kd.R_ne HO6.out BN6.out (by decide))); have HB7 := Aside0.mk (by rw [hw]; exact below_set (below_set (below_set (HB6.out) GB.out) GB.out) GB.out : Below w.heap.size w w7); clear hw hg HP HO6 BO6 BN6 HB6 hn0 hn1 hnf0 hnf1 ho0 hof0 hx0 hx1 hx2 hf0 hf1 hf2; obtain ⟨hn0, hn1, hnf0, hnf1⟩ := cf2 BN7.out; obtain ⟨ho0, hof0⟩ := cf1 BO7.out)
            | ((with_reducible refine gate_dst (N := 21) rfl ?_); refine Kd.R_lit (Kd.int .i64) _ 3 ?hg (N := 21) ?hd (xs := ([a1] : List Int)) (inner := [.int .i64 a1]) (ok := fun _ => True) (okp := fun _ => True) ?hr ?hp (fun _ hk => hk) trivial (Below.refl _ _) (Nat.le_refl _) (by simp) ?_; (case hd => rfl); (case hg => rfl); (case hr => first | (go_simp; done) | (go_simp; rfl)); (case hp => exact (Reps.one (show Kd.M (Kd.int .i64) _ _ _ a1 [.int .i64 a1] from rfl) (Reps.none _ _))); intro v8 w8 ho20 hb hg_ hnew_; clear hg_ hnew_; obtain ⟨A8, c8, rfl⟩ := Kd.R_slice ho20; have HW8 := Aside0.mk (Kd.R_lower ho20 (below_size HB7.out)); have HO8 := Aside0.mk (Kd.R_below HO7.out hb); have BO8 := Aside0.mk (blk_below BO7.out hb); have BN8 := Aside0.mk (blk_below BN7.out hb); have HB8 := Aside0.mk (below_step HB7.out hb); clear hb ho20 HO7 BO7 BN7 HB7 hn0 hn1 hnf0 hnf1 ho0 hof0; obtain ⟨hn0, hn1, hnf0, hnf1⟩ := cf2 BN8.out; obtain ⟨ho0, hof0⟩ := cf1 BO8.out)
            | ((with_reducible refine gate_dst (N := 8) rfl ?_); refine box_event ?hg (N := 8) ?hd (cs := #[.slice none 0 0]) (t := 33) ?hr ?_; (case hd => rfl); (case hg => rfl); (case hr => first | (go_simp; done) | (go_simp; rfl)); intro gW hg w9 hbox hb; have BW9 := Aside0.mk hbox; have GW := Aside0.mk (hg ▸ below_size HB8.out : w.heap.size ≤ gW); have HW9 := Aside0.mk (Kd.R_below HW8.out hb); have HO9 := Aside0.mk (Kd.R_below HO8.out hb); have BO9 := Aside0.mk (blk_below BO8.out hb); have BN9 := Aside0.mk (blk_below BN8.out hb); have HB9 := Aside0.mk (below_step HB8.out hb); clear hb hbox hg HW8 HO8 BO8 BN8 HB8 hn0 hn1 hnf0 hnf1 ho0 hof0; obtain ⟨hn0, hn1, hnf0, hnf1⟩ := cf2 BN9.out; obtain ⟨ho0, hof0⟩ := cf1 BO9.out; obtain ⟨hw0, hwf0⟩ := cf1 BW9.out)
            | ((with_reducible refine gate_store (t := 33) (p := 8) rfl ?_); refine store_event (t := 33) (p := 8) (v := ?vo3) (w1 := (w9.setCell ⟨gW, 0, none⟩ (.slice A8 [a1].length c8))) ?hg ?ho ?hn ?hr ?_; (case ho => rfl); (case hg => rfl); (case hn => rfl); (case hr => first | (go_simp; done) | (go_simp; rfl)); intro wa hw; have SA := Aside0.mk (show impl_reach.St w.heap.size wa gO gW (y0.set a1.toNat ⟨-1, false, true⟩) [a1] from ⟨GO.out, GW.out, _, _, (by rw [hw]; exact blk_far BO9.out (impl_reach.ne_typ BO9.out BW9.out (by decide)) _), (by rw [hw]; exact blk_put BW9.out 0 _ rfl), (by rw [hw]; exact Kd.R_mono (Kd.R_far (Kd.R_types HO9.out BW9.out (by decide)) (fun _ hk => hk.2) _) (fun _ _ => trivial)), (by rw [hw]; exact Kd.Q_of_R (Kd.R_mono (Kd.R_far (Kd.R_types HW9.out BW9.out (by decide)) (fun _ hk => hk.2) _) (fun _ _ => trivial)))⟩); have BNa := Aside0.mk (show wa.heap[gn]? = some (.cells #[.int .i64 a0_0, .slice A0_1 l0_1.length c0_1] 29 (0, 0)) from by rw [hw]; exact blk_far BN9.out (impl_reach.ne_typ BN9.out BW9.out (by decide)) _); have HBa := Aside0.mk (show Below w.heap.size w wa from by rw [hw]; exact below_set HB9.out GW.out); clear hw HW9 HO9 BO9 BN9 HB9 BW9 hn0 hn1 hnf0 hnf1 ho0 hof0 hw0 hwf0))
          rw [Ny.out] at SA
          clear Hlt Ny
          (try simp only [Act.put, List.setIfInBounds_toArray, List.set_cons_zero, List.set_cons_succ])
          go_loopg [] k (fun kq w' => ∃ (out : List S69) (ws : List Int), Aside0 (impl_reach.l0 kq l0_1 l2 out ws = some r) ∧ Aside0 (kq ≤ k) ∧ Aside0 (impl_reach.St w.heap.size w' gO gW out ws) ∧ Aside0 (w'.heap[gn]? = some (.cells #[.int .i64 a0_0, .slice A0_1 l0_1.length c0_1] 29 (0, 0))) ∧ Aside0 (Below w.heap.size w w'))
          case atStart => exact ⟨_, _, H, ⟨Nat.le_refl _⟩, SA, BNa, HBa⟩
          case round =>
            clear H SA BNa HBa
            obtain ⟨out, ws, HA, HK1, SA, BN, HB⟩ := hrel
            cases gk with
            | zero => exact absurd HA.out (by simp [impl_reach.l0])
            | succ k1 =>
              have H := HA.out
              clear HA
              simp only [impl_reach.l0] at H
              obtain ⟨hgO, hgW, vO, vW, hbO, hbW, hO, hQ⟩ := SA.out
              obtain ⟨Ao, co2, rfl⟩ := Kd.R_slice hO
              obtain ⟨Aw, cw, rfl, hlw⟩ := Kd.Q_slice hQ
              obtain ⟨hw0, hwf0⟩ := cf1 hbW
              obtain ⟨ho0, hof0⟩ := cf1 hbO
              obtain ⟨hn0, hn1, hnf0, hnf1⟩ := cf2 BN.out
              by_cases c5 : (ws.length : Int) > 0
              · rw [if_pos c5] at H
                obtain ⟨⟨o2, w2⟩, A10, H2⟩ := Option.bind_eq_some_iff.mp H
                have A1 := Aside0.mk A10
                have H3 := Aside0.mk (show impl_reach.l0 k1 l0_1 l2 o2 w2 = some r from H2)
                obtain ⟨gq, oq, cq, eq_, _, _, _, _⟩ := Kd.Q_form hQ (by omega)
                cases eq_
                have hwc : wr.cell? ⟨gq, oq, none⟩ = some (.int .i64 (rd ws 0)) := (Kd.Q_cell 0 hQ 0 (by omega) c5).1
                have c5b : decide (0 < (ws.length : Int)) = true := decide_eq_true c5
                have c5c : decide (0 < ws.length) = true := decide_eq_true (by omega)
                have q5 := eq_true c5
                have q5n : 0 < ws.length := by omega
                have q5e := eq_true q5n
                obtain ⟨i0, hi0, _, hsz0, _⟩ := info_parts info3
                have hcut := cut_from (P := Try.prog) 33 3 .i64 Try.underlying33 hi0 1 hsz0 (some ⟨gq, oq, none⟩) ws.length cw 1 (by omega) (by omega)
                have hQd := Kd.Q_drop (k := 1) hQ (by omega)
                rw [show (1 : Int).toNat = 1 from rfl] at hcut
                rw [show (Kd.int .i64).sz = 1 from rfl] at hQd
                obtain ⟨Aq, hAq⟩ : ∃ Aq, (if cw = 1 then (some (⟨gq, oq, none⟩ : Addr)) else (some (⟨gq, oq, none⟩ : Addr)).map (·.add (1 * 1))) = Aq := ⟨_, rfl⟩
                rw [hAq] at hcut hQd
                have HO := Aside0.mk hO
                have HQd := Aside0.mk hQd
                have HbO := Aside0.mk hbO
                have HbW := Aside0.mk hbW
                have HgO := Aside0.mk hgO
                have HgW := Aside0.mk hgW
                clear hAq hQd H A10 H2 hO hQ hbO hbW hgO hgW hlw c5 SA hi0 hsz0
                go_wp2_with (first
                  | ((with_reducible refine gate_store (t := 33) (p := 8) rfl ?_); refine store_event (t := 33) (p := 8) (v := ?vo4) (w1 := (wr.setCell ⟨gW, 0, none⟩ (.slice Aq (ws.length - 1) (cw - 1)))) ?hg ?ho ?hn ?hr ?_; (case ho => rfl); (case hg => rfl); (case hn => rfl); (case hr => first | (go_simp; done) | (go_simp; rfl)); intro wb hw; have SB := Aside0.mk (show impl_reach.St w.heap.size wb gO gW out (ws.drop 1) from ⟨HgO.out, HgW.out, _, _, (by rw [hw]; exact blk_far HbO.out (impl_reach.ne_typ HbO.out HbW.out (by decide)) _), (by rw [hw]; exact blk_put HbW.out 0 _ rfl), (by rw [hw]; exact Kd.R_mono (Kd.R_far (Kd.R_types HO.out HbW.out (by decide)) (fun _ hk => hk.2) _) (fun _ _ => trivial)), (by rw [hw]; exact Kd.Q_set HQd.out HbW.out (by decide) 0 _)⟩); have BNb := Aside0.mk (show wb.heap[gn]? = some (.cells #[.int .i64 a0_0, .slice A0_1 l0_1.length c0_1] 29 (0, 0)) from by rw [hw]; exact blk_far BN.out (impl_reach.ne_typ BN.out HbW.out (by decide)) _); have HBb := Aside0.mk (show Below w.heap.size w wb from by rw [hw]; exact below_set HB.out HgW.out); clear hw HO HQd HbO HbW BN HB hw0 hwf0 ho0 hof0 hn0 hn1 hnf0 hnf1 hwc; obtain ⟨hn0, hn1, hnf0, hnf1⟩ := cf2 BNb.out))
                (try simp only [Act.put, List.setIfInBounds_toArray, List.set_cons_zero, List.set_cons_succ])
                go_loopg [34] k1 (fun kq v34 w' => ∃ (out' : List S69) (ws' : List Int) (i : Int), v34 = .int .i64 i ∧ Aside0 (impl_reach.l1 kq l0_1 l2 (rd ws 0) out' ws' i = some (o2, w2)) ∧ Aside0 (kq ≤ k1) ∧ Aside0 (impl_reach.St w.heap.size w' gO gW out' ws') ∧ Aside0 (w'.heap[gn]? = some (.cells #[.int .i64 a0_0, .slice A0_1 l0_1.length c0_1] 29 (0, 0))) ∧ Aside0 (Below w.heap.size w w'))
                case atStart => exact ⟨_, _, 0, rfl, A1, ⟨Nat.le_refl _⟩, SB, BNb, HBb⟩
                case round =>
                  clear A1 SB BNb HBb
                  obtain ⟨out', ws', i, rfl, HA, HK2, SA, BN, HB⟩ := hrel
                  cases gk with
                  | zero => exact absurd HA.out (by simp [impl_reach.l1])
                  | succ k2 =>
                    have H := HA.out
                    clear HA
                    simp only [impl_reach.l1] at H
                    by_cases c6 : i < (l0_1.length : Int)
                    · rw [if_pos c6] at H
                      have c6b : decide (i < (l0_1.length : Int)) = true := decide_eq_true c6
                      by_cases c7 : 0 ≤ i
                      · rw [if_pos c7] at H
                        have c7b : decide (0 ≤ i) = true := decide_eq_true c7
                        have p6 := eq_true c6
                        have p7 := eq_true c7
                        obtain ⟨adp, rfl, hp0, hp1, hp2⟩ := at_T60 HR.out i c7 c6
                        replace hp0 := hcl HB.out hp0
                        replace hp1 := hcl HB.out hp1
                        replace hp2 := hcl HB.out hp2
                        obtain ⟨⟨o3, w3⟩, A20, H⟩ := Option.bind_eq_some_iff.mp H
                        obtain ⟨⟨o4, w4⟩, A30, H⟩ := Option.bind_eq_some_iff.mp H
                        have B2 := Aside0.mk A20
                        have B3 := Aside0.mk A30
                        have H4 := Aside0.mk (show impl_reach.l1 k2 l0_1 l2 (rd ws 0) o4 w4 (wrap64 (i + 1)) = some (o2, w2) from H)
                        clear H A20 A30 c6 c7
                        go_wp2_with (first
                          | ((with_reducible refine gate_dst (N := 12) rfl ?_); refine box_event ?hg (N := 12) ?hd (cs := #[.int .i64 0, .int .i64 0, .int .i64 0]) (t := 60) ?hr ?_; (case hd => rfl); (case hg => rfl); (case hr => first | (go_simp; done) | (go_simp; rfl)); intro gp hg wc hbox hb; have BP := Aside0.mk hbox; have GP := Aside0.mk (hg ▸ below_size HB.out : w.heap.size ≤ gp); replace hp0 := hcl hb hp0; replace hp1 := hcl hb hp1; replace hp2 := hcl hb hp2; have SC := Aside0.mk (impl_reach.St_below SA.out hb); replace BN := Aside0.mk (blk_below BN.out hb); replace HB := Aside0.mk (below_step HB.out hb); clear hb hbox hg SA; obtain ⟨hq0, hq1, hq2, hqf0, hqf1, hqf2⟩ := cf3 BP.out)
                          | ((with_reducible refine gate_store (t := 60) (p := 12) rfl ?_); refine store_event (t := 60) (p := 12) (v := ?vo5) (w1 := (((wc.setCell ⟨gp, 0, none⟩ (.int .i64 (rd_T60 l0_1 i).f0)).setCell ⟨gp, 1, none⟩ (.int .i64 (rd_T60 l0_1 i).f1)).setCell ⟨gp, 2, none⟩ (.int .i64 (rd_T60 l0_1 i).f2))) ?hg ?ho ?hn ?hr ?_; (case ho => rfl); (case hg => rfl); (case hn => rfl); (case hr => first | (go_simp; done) | (go_simp; rfl)); intro wd hw; have BPd := Aside0.mk (pt3 BP.out hw); have SD := Aside0.mk (impl_reach.St_far3 SC.out BP.out hw (by decide)); have BNd := Aside0.mk (impl_reach.far3 BN.out (impl_reach.ne_typ BN.out BP.out (by decide)) hw); have HBd := Aside0.mk (bs3 HB.out GP.out hw); clear hw SC BP BN HB hq0 hq1 hq2 hqf0 hqf1 hqf2 hp0 hp1 hp2 hn0 hn1 hnf0 hnf1; obtain ⟨hq0, hq1, hq2, hqf0, hqf1, hqf2⟩ := cf3 BPd.out))
                        have H5 := B2.out
                        clear B2
                        by_cases cA : (rd_T60 l0_1 i).f0 = rd ws 0
                        · rw [if_pos cA] at H5
                          have cAb : ((rd_T60 l0_1 i).f0 == rd ws 0) = true := beq_iff_eq.mpr cA
                          by_cases cl : i < (l2.length : Int)
                          · rw [if_pos cl] at H5
                            have clb : decide (i < (l2.length : Int)) = true := decide_eq_true cl
                            have pl := eq_true cl
                            obtain ⟨adf, rfl, hfw⟩ := Kd.at_int HF.out i (of_eq_true p7) cl
                            have hfl := hcl HBd.out hfw
                            by_cases cD : rd l2 i < (rd_T60 l0_1 i).f2
                            · rw [if_pos cD] at H5
                              have B5 := Aside0.mk H5
                              have cDb : decide (rd l2 i < (rd_T60 l0_1 i).f2) = true := decide_eq_true cD
                              clear H5 cA cl cD
                              go_region
                              have S_ := Aside0.mk (impl_reach.St_drew SD.out)
                              have BN_ := Aside0.mk (blk_drew BNd.out)
                              have BP_ := Aside0.mk (blk_drew BPd.out)
                              have HB_ := Aside0.mk (below_drew1 HBd.out)
                              clear SD BNd BPd HBd hq0 hq1 hq2 hqf0 hqf1 hqf2
                              (try clear hfl)
                              generalize wd.drew = we at S_ BN_ BP_ HB_ ⊢
                              obtain ⟨hq0, hq1, hq2, hqf0, hqf1, hqf2⟩ := cf3 BP_.out
                              obtain ⟨hn0, hn1, hnf0, hnf1⟩ := cf2 BN_.out
                              have hfl := hcl HB_.out hfw
                              have H5 := B3.out
                              clear B3
                              by_cases cB : (rd_T60 l0_1 i).f1 = rd ws 0
                              · rw [if_pos cB] at H5
                                have cBb : ((rd_T60 l0_1 i).f1 == rd ws 0) = true := beq_iff_eq.mpr cB
                                by_cases cl2 : i < (l2.length : Int)
                                · rw [if_pos cl2] at H5
                                  have cl2b : decide (i < (l2.length : Int)) = true := decide_eq_true cl2
                                  have pl2 := eq_true cl2
                                  obtain ⟨adf, ef, hfw⟩ := Kd.at_int HF.out i (of_eq_true p7) cl2
                                  cases ef
                                  have hfl := hcl HB_.out hfw
                                  by_cases cC : 0 < rd l2 i
                                  · rw [if_pos cC] at H5
                                    have B6 := Aside0.mk H5
                                    have cCb : decide (0 < rd l2 i) = true := decide_eq_true cC
                                    clear H5 cB cl2 cC
                                    go_wp2_with (first | (go_at_call 53; refine (impl_reach.vcalls (rd_T60 l0_1 i).f1 i false gO gW out' ws' o3 w3 w _ HB_.out S_.out B5.out).mono ?_; rintro e wy ⟨rfl, h1, h2, h3⟩; have S2_ := Aside0.mk h1; have BN2_ := Aside0.mk (h3 _ _ _ (.inl rfl) BN_.out); have BP2_ := Aside0.mk (h3 _ _ _ (.inr rfl) BP_.out); have HB2_ := Aside0.mk h2; clear h1 h2 h3 S_ BN_ BP_ HB_ hq0 hq1 hq2 hqf0 hqf1 hqf2 hn0 hn1 hnf0 hnf1; (try replace hfl := hcl HB2_.out hfw); have S_ := S2_; have BN_ := BN2_; have BP_ := BP2_; have HB_ := HB2_; clear S2_ BN2_ BP2_ HB2_; obtain ⟨hq0, hq1, hq2, hqf0, hqf1, hqf2⟩ := cf3 BP_.out; obtain ⟨hn0, hn1, hnf0, hnf1⟩ := cf2 BN_.out) | (go_at_call 53; refine (impl_reach.vcalls (rd_T60 l0_1 i).f0 i true gO gW o3 w3 o4 w4 w _ HB_.out S_.out B6.out).mono ?_; rintro e wz ⟨rfl, h1, h2, h3⟩; have S2_ := Aside0.mk h1; have BN2_ := Aside0.mk (h3 _ _ _ (.inl rfl) BN_.out); have BP2_ := Aside0.mk (h3 _ _ _ (.inr rfl) BP_.out); have HB2_ := Aside0.mk h2; clear h1 h2 h3 S_ BN_ BP_ HB_ hq0 hq1 hq2 hqf0 hqf1 hqf2 hn0 hn1 hnf0 hnf1; (try replace hfl := hcl HB2_.out hfw); have S_ := S2_; have BN_ := BN2_; have BP_ := BP2_; have HB_ := HB2_; clear S2_ BN2_ BP2_ HB2_; obtain ⟨hq0, hq1, hq2, hqf0, hqf1, hqf2⟩ := cf3 BP_.out; obtain ⟨hn0, hn1, hnf0, hnf1⟩ := cf2 BN_.out))
                                    go_roundg k2
                                    case measure => have := HK2.out; omega
                                    case rel => exact ⟨_, _, wrap64 (i + 1), es, H4, ⟨by have := HK2.out; omega⟩, S_, BN_, HB_⟩
                                  · rw [if_neg cC] at H5
                                    obtain ⟨rfl, rfl⟩ := Prod.mk.inj (Option.some.inj H5)
                                    have cCb : decide (0 < rd l2 i) = false := decide_eq_false cC
                                    clear H5 cB cl2 cC
                                    go_wp2_with (first | (go_at_call 53; refine (impl_reach.vcalls (rd_T60 l0_1 i).f1 i false gO gW out' ws' o3 w3 w _ HB_.out S_.out B5.out).mono ?_; rintro e wy ⟨rfl, h1, h2, h3⟩; have S2_ := Aside0.mk h1; have BN2_ := Aside0.mk (h3 _ _ _ (.inl rfl) BN_.out); have BP2_ := Aside0.mk (h3 _ _ _ (.inr rfl) BP_.out); have HB2_ := Aside0.mk h2; clear h1 h2 h3 S_ BN_ BP_ HB_ hq0 hq1 hq2 hqf0 hqf1 hqf2 hn0 hn1 hnf0 hnf1; (try replace hfl := hcl HB2_.out hfw); have S_ := S2_; have BN_ := BN2_; have BP_ := BP2_; have HB_ := HB2_; clear S2_ BN2_ BP2_ HB2_; obtain ⟨hq0, hq1, hq2, hqf0, hqf1, hqf2⟩ := cf3 BP_.out; obtain ⟨hn0, hn1, hnf0, hnf1⟩ := cf2 BN_.out))
                                    go_roundg k2
                                    case measure => have := HK2.out; omega
                                    case rel => exact ⟨_, _, wrap64 (i + 1), es, H4, ⟨by have := HK2.out; omega⟩, S_, BN_, HB_⟩
                                · rw [if_neg cl2] at H5
                                  exact absurd H5 (by simp)
                              · rw [if_neg cB] at H5
                                obtain ⟨rfl, rfl⟩ := Prod.mk.inj (Option.some.inj H5)
                                have cBb : ((rd_T60 l0_1 i).f1 == rd ws 0) = false := beq_eq_false_iff_ne.mpr cB
                                clear H5 cB
                                go_wp2_with (first | (go_at_call 53; refine (impl_reach.vcalls (rd_T60 l0_1 i).f1 i false gO gW out' ws' o3 w3 w _ HB_.out S_.out B5.out).mono ?_; rintro e wy ⟨rfl, h1, h2, h3⟩; have S2_ := Aside0.mk h1; have BN2_ := Aside0.mk (h3 _ _ _ (.inl rfl) BN_.out); have BP2_ := Aside0.mk (h3 _ _ _ (.inr rfl) BP_.out); have HB2_ := Aside0.mk h2; clear h1 h2 h3 S_ BN_ BP_ HB_ hq0 hq1 hq2 hqf0 hqf1 hqf2 hn0 hn1 hnf0 hnf1; (try replace hfl := hcl HB2_.out hfw); have S_ := S2_; have BN_ := BN2_; have BP_ := BP2_; have HB_ := HB2_; clear S2_ BN2_ BP2_ HB2_; obtain ⟨hq0, hq1, hq2, hqf0, hqf1, hqf2⟩ := cf3 BP_.out; obtain ⟨hn0, hn1, hnf0, hnf1⟩ := cf2 BN_.out))
                                go_roundg k2
                                case measure => have := HK2.out; omega
                                case rel => exact ⟨_, _, wrap64 (i + 1), es, H4, ⟨by have := HK2.out; omega⟩, S_, BN_, HB_⟩
                            · rw [if_neg cD] at H5
                              obtain ⟨rfl, rfl⟩ := Prod.mk.inj (Option.some.inj H5)
                              have cDb : decide (rd l2 i < (rd_T60 l0_1 i).f2) = false := decide_eq_false cD
                              clear H5 cA cl cD
                              go_region
                              have S_ := Aside0.mk (impl_reach.St_drew SD.out)
                              have BN_ := Aside0.mk (blk_drew BNd.out)
                              have BP_ := Aside0.mk (blk_drew BPd.out)
                              have HB_ := Aside0.mk (below_drew1 HBd.out)
                              clear SD BNd BPd HBd hq0 hq1 hq2 hqf0 hqf1 hqf2
                              (try clear hfl)
                              generalize wd.drew = we at S_ BN_ BP_ HB_ ⊢
                              obtain ⟨hq0, hq1, hq2, hqf0, hqf1, hqf2⟩ := cf3 BP_.out
                              obtain ⟨hn0, hn1, hnf0, hnf1⟩ := cf2 BN_.out
                              have H5 := B3.out
                              clear B3
                              by_cases cB : (rd_T60 l0_1 i).f1 = rd ws 0
                              · rw [if_pos cB] at H5
                                have cBb : ((rd_T60 l0_1 i).f1 == rd ws 0) = true := beq_iff_eq.mpr cB
                                by_cases cl2 : i < (l2.length : Int)
                                · rw [if_pos cl2] at H5
                                  have cl2b : decide (i < (l2.length : Int)) = true := decide_eq_true cl2
                                  have pl2 := eq_true cl2
                                  obtain ⟨adf, ef, hfw⟩ := Kd.at_int HF.out i (of_eq_true p7) cl2
                                  cases ef
                                  have hfl := hcl HB_.out hfw
                                  by_cases cC : 0 < rd l2 i
                                  · rw [if_pos cC] at H5
                                    have B6 := Aside0.mk H5
                                    have cCb : decide (0 < rd l2 i) = true := decide_eq_true cC
                                    clear H5 cB cl2 cC
                                    go_wp2_with (first | (go_at_call 53; refine (impl_reach.vcalls (rd_T60 l0_1 i).f0 i true gO gW out' ws' o4 w4 w _ HB_.out S_.out B6.out).mono ?_; rintro e wz ⟨rfl, h1, h2, h3⟩; have S2_ := Aside0.mk h1; have BN2_ := Aside0.mk (h3 _ _ _ (.inl rfl) BN_.out); have BP2_ := Aside0.mk (h3 _ _ _ (.inr rfl) BP_.out); have HB2_ := Aside0.mk h2; clear h1 h2 h3 S_ BN_ BP_ HB_ hq0 hq1 hq2 hqf0 hqf1 hqf2 hn0 hn1 hnf0 hnf1; (try replace hfl := hcl HB2_.out hfw); have S_ := S2_; have BN_ := BN2_; have BP_ := BP2_; have HB_ := HB2_; clear S2_ BN2_ BP2_ HB2_; obtain ⟨hq0, hq1, hq2, hqf0, hqf1, hqf2⟩ := cf3 BP_.out; obtain ⟨hn0, hn1, hnf0, hnf1⟩ := cf2 BN_.out))
                                    go_roundg k2
                                    case measure => have := HK2.out; omega
                                    case rel => exact ⟨_, _, wrap64 (i + 1), es, H4, ⟨by have := HK2.out; omega⟩, S_, BN_, HB_⟩
                                  · rw [if_neg cC] at H5
                                    obtain ⟨rfl, rfl⟩ := Prod.mk.inj (Option.some.inj H5)
                                    have cCb : decide (0 < rd l2 i) = false := decide_eq_false cC
                                    clear H5 cB cl2 cC
                                    go_wp2
                                    go_roundg k2
                                    case measure => have := HK2.out; omega
                                    case rel => exact ⟨_, _, wrap64 (i + 1), es, H4, ⟨by have := HK2.out; omega⟩, S_, BN_, HB_⟩
                                · rw [if_neg cl2] at H5
                                  exact absurd H5 (by simp)
                              · rw [if_neg cB] at H5
                                obtain ⟨rfl, rfl⟩ := Prod.mk.inj (Option.some.inj H5)
                                have cBb : ((rd_T60 l0_1 i).f1 == rd ws 0) = false := beq_eq_false_iff_ne.mpr cB
                                clear H5 cB
                                go_wp2
                                go_roundg k2
                                case measure => have := HK2.out; omega
                                case rel => exact ⟨_, _, wrap64 (i + 1), es, H4, ⟨by have := HK2.out; omega⟩, S_, BN_, HB_⟩
                          · rw [if_neg cl] at H5
                            exact absurd H5 (by simp)
                        · rw [if_neg cA] at H5
                          obtain ⟨rfl, rfl⟩ := Prod.mk.inj (Option.some.inj H5)
                          have cAb : ((rd_T60 l0_1 i).f0 == rd ws 0) = false := beq_eq_false_iff_ne.mpr cA
                          clear H5 cA
                          go_region
                          have S_ := Aside0.mk (impl_reach.St_drew SD.out)
                          have BN_ := Aside0.mk (blk_drew BNd.out)
                          have BP_ := Aside0.mk (blk_drew BPd.out)
                          have HB_ := Aside0.mk (below_drew1 HBd.out)
                          clear SD BNd BPd HBd hq0 hq1 hq2 hqf0 hqf1 hqf2
                          (try clear hfl)
                          generalize wd.drew = we at S_ BN_ BP_ HB_ ⊢
                          obtain ⟨hq0, hq1, hq2, hqf0, hqf1, hqf2⟩ := cf3 BP_.out
                          obtain ⟨hn0, hn1, hnf0, hnf1⟩ := cf2 BN_.out
                          have H5 := B3.out
                          clear B3
                          by_cases cB : (rd_T60 l0_1 i).f1 = rd ws 0
                          · rw [if_pos cB] at H5
                            have cBb : ((rd_T60 l0_1 i).f1 == rd ws 0) = true := beq_iff_eq.mpr cB
                            by_cases cl2 : i < (l2.length : Int)
                            · rw [if_pos cl2] at H5
                              have cl2b : decide (i < (l2.length : Int)) = true := decide_eq_true cl2
                              have pl2 := eq_true cl2
                              obtain ⟨adf, ef, hfw⟩ := Kd.at_int HF.out i (of_eq_true p7) cl2
                              cases ef
                              have hfl := hcl HB_.out hfw
                              by_cases cC : 0 < rd l2 i
                              · rw [if_pos cC] at H5
                                have B6 := Aside0.mk H5
                                have cCb : decide (0 < rd l2 i) = true := decide_eq_true cC
                                clear H5 cB cl2 cC
                                go_wp2_with (first | (go_at_call 53; refine (impl_reach.vcalls (rd_T60 l0_1 i).f0 i true gO gW out' ws' o4 w4 w _ HB_.out S_.out B6.out).mono ?_; rintro e wz ⟨rfl, h1, h2, h3⟩; have S2_ := Aside0.mk h1; have BN2_ := Aside0.mk (h3 _ _ _ (.inl rfl) BN_.out); have BP2_ := Aside0.mk (h3 _ _ _ (.inr rfl) BP_.out); have HB2_ := Aside0.mk h2; clear h1 h2 h3 S_ BN_ BP_ HB_ hq0 hq1 hq2 hqf0 hqf1 hqf2 hn0 hn1 hnf0 hnf1; (try replace hfl := hcl HB2_.out hfw); have S_ := S2_; have BN_ := BN2_; have BP_ := BP2_; have HB_ := HB2_; clear S2_ BN2_ BP2_ HB2_; obtain ⟨hq0, hq1, hq2, hqf0, hqf1, hqf2⟩ := cf3 BP_.out; obtain ⟨hn0, hn1, hnf0, hnf1⟩ := cf2 BN_.out))
                                go_roundg k2
                                case measure => have := HK2.out; omega
                                case rel => exact ⟨_, _, wrap64 (i + 1), es, H4, ⟨by have := HK2.out; omega⟩, S_, BN_, HB_⟩
                              · rw [if_neg cC] at H5
                                obtain ⟨rfl, rfl⟩ := Prod.mk.inj (Option.some.inj H5)
                                have cCb : decide (0 < rd l2 i) = false := decide_eq_false cC
                                clear H5 cB cl2 cC
                                go_wp2
                                go_roundg k2
                                case measure => have := HK2.out; omega
                                case rel => exact ⟨_, _, wrap64 (i + 1), es, H4, ⟨by have := HK2.out; omega⟩, S_, BN_, HB_⟩
                            · rw [if_neg cl2] at H5
                              exact absurd H5 (by simp)
                          · rw [if_neg cB] at H5
                            obtain ⟨rfl, rfl⟩ := Prod.mk.inj (Option.some.inj H5)
                            have cBb : ((rd_T60 l0_1 i).f1 == rd ws 0) = false := beq_eq_false_iff_ne.mpr cB
                            clear H5 cB
                            go_wp2
                            go_roundg k2
                            case measure => have := HK2.out; omega
                            case rel => exact ⟨_, _, wrap64 (i + 1), es, H4, ⟨by have := HK2.out; omega⟩, S_, BN_, HB_⟩
                      · rw [if_neg c7] at H
                        exact absurd H (by simp)
                    · rw [if_neg c6] at H
                      obtain ⟨rfl, rfl⟩ := Prod.mk.inj (Option.some.inj H)
                      have c6b : decide (i < (l0_1.length : Int)) = false := decide_eq_false c6
                      clear H c6
                      go_wp2
                      go_roundg k1
                      case measure => have := HK1.out; omega
                      case rel => exact ⟨_, _, H3, ⟨by have := HK1.out; omega⟩, SA, BN, HB⟩
              · rw [if_neg c5] at H
                obtain rfl := Option.some.inj H
                have c5b : decide (0 < (ws.length : Int)) = false := decide_eq_false c5
                have c5c : decide (0 < ws.length) = false := decide_eq_false (by omega)
                have HO := Aside0.mk hO
                clear c5 H hO hQ hbO hbW hgO hgW hlw
                go_wp2
                go_ret
                exact ⟨_, rfl, HO.out, HB.out⟩
        · rw [if_neg c3] at h
          exact absurd h (by simp)
      · rw [if_neg c2'] at h
        exact absurd h (by simp)
    · rw [if_neg c1] at h
      exact absurd h (by simp)
  · rw [if_neg c0] at h
    exact absurd h (by simp)

end Go.Proofs.Yteaemblallbgpaa.X
