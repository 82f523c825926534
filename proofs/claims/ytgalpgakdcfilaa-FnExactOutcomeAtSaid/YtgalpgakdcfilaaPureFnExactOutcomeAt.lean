/- The pure part of the law FnExactOutcomeAt: what program and reference compute is the same. Conditions: those of the row. -/
import Derived.Test.YtgalpgakdcfilaaOpenA
import Derived.Test.YtgalpgakdcfilaaLawBkMark
import Derived.Test.YtgalpgakdcfilaaLawMark
import Derived.Test.YtgalpgakdcfilaaX35
import Derived.Test.YtgalpgakdcfilaaX46
import Derived.Test.YtgalpgakdcfilaaX47
import Derived.Test.YtgalpgakdcfilaaX48
namespace Go.Proofs.Ytgalpgakdcfilaa.X
set_option linter.unusedVariables false
set_option linter.unusedSimpArgs false
open Go.RowKit Go.Proofs.YtgalpgakdcfilaaW.PrintWords Go.Proofs.Ytgalpgakdcfilaa.PK
theorem co_loop (n : Nat) (hn : n ≤ 1048576) : ∃ v : Int, Ev (fun k => spec_CountOutcomes.l0 k 1 (n : Int) 0) v ∧ Ev (fun k => impl_CountOutcomes.l0 k 1 (n : Int) 0) v := by
  have := down (g := fun i => ∀ a : Int, ∃ v : Int, Ev (fun k => spec_CountOutcomes.l0 k a (n : Int) (i : Int)) v ∧ Ev (fun k => impl_CountOutcomes.l0 k a (n : Int) (i : Int)) v) (n := n) (fun i hi hn a => by
    have hw : wrap64 ((i : Int) + 1) = ((i + 1 : Nat) : Int) := w64s (by omega)
    obtain ⟨v, v1, v2⟩ := hn (wrap64 (3 * a))
    refine ⟨v, Ev.step (fun k => spec_CountOutcomes.l0.eq_2 ..) (Ev.pos (by omega) ?_), Ev.step (fun k => impl_CountOutcomes.l0.eq_2 ..) (Ev.pos (by omega) ?_)⟩
    · rw [hw]; exact v1
    · rw [hw, show a * 3 = 3 * a by omega]; exact v2) (fun a => ⟨a, Ev.step (fun k => spec_CountOutcomes.l0.eq_2 ..) (Ev.neg (by omega) (Ev.now _)), Ev.step (fun k => impl_CountOutcomes.l0.eq_2 ..) (Ev.neg (by omega) (Ev.now _))⟩) n 0 (by omega)
  exact this 1
theorem co_same (t : List T1) (a b c : Int) (o : List Int) (d : Bool) (g : List G1) (f q : List Int) (z1 : t.length ≤ 1048576) (zs : ∀ y ∈ t, y.f0.size ≤ 1048576) (z2 : o.length ≤ 1048576) (z3 : g.length ≤ 1048576) (z4 : f.length ≤ 1048576) (z5 : q.length ≤ 1048576) :
    ∃ v : Int, Ev (fun k => spec_CountOutcomes.f k t a b c o d g f q) v ∧ Ev (fun k => impl_CountOutcomes.f k t a b c o d g f q) v := by
  obtain ⟨v, p, v0, v5, h1, h2, h3⟩ := short_same t a b c o d g f q z1 zs z2 z3 z4 z5
  unfold spec_CountOutcomes.f impl_CountOutcomes.f
  cases p with
  | false => exact ⟨0, Ev.bind h1 (Ev.neg (by simp) (Ev.now _)), Ev.bind h2 (Ev.neg (by simp) (Ev.now _))⟩
  | true =>
    obtain ⟨r, r1, r2⟩ := co_loop v.length (by omega)
    exact ⟨r, Ev.bind h1 (Ev.pos rfl r1), Ev.bind h2 (Ev.pos rfl (Ev.bind h3 r2))⟩
theorem oa_loop (n : Nat) (hn : n ≤ 1048576) : ∀ m : Nat, m ≤ n → ∀ (x : Int) (l : List Int), l.length = n → ∃ v : List Int, v.length = n ∧ Ev (fun k => spec_l16At.l0 k x l ((m : Int) - 1)) v ∧ Ev (fun k => impl_outcomeAt.l0 k x l ((m : Int) - 1)) v
  | 0, _, x, l, hl => ⟨l, hl, Ev.step (fun k => spec_l16At.l0.eq_2 ..) (Ev.neg (by omega) (Ev.now _)), Ev.step (fun k => impl_outcomeAt.l0.eq_2 ..) (Ev.neg (by omega) (Ev.now _))⟩
  | m + 1, hm, x, l, hl => by
    have e : (((m + 1 : Nat) : Int) - 1) = (m : Int) := by omega
    obtain ⟨v, v0, v1, v2⟩ := oa_loop n hn m (by omega) (wrap64 (Int.tdiv x 3)) (l.set m (wrap64 (1 + Int.tmod x 3))) (by rw [List.length_set]; exact hl)
    have hw : wrap64 ((m : Int) - 1) = (m : Int) - 1 := w64 (by omega) (by omega)
    rw [e]
    refine ⟨v, v0, Ev.step (fun k => spec_l16At.l0.eq_2 ..) (Ev.pos (by omega) (Ev.pos (by omega) (Ev.pos (by omega) ?_))), Ev.step (fun k => impl_outcomeAt.l0.eq_2 ..) (Ev.pos (by omega) (Ev.pos (by omega) (Ev.pos (by omega) ?_)))⟩
    · rw [hw, Int.toNat_natCast]; exact v1
    · rw [hw, Int.toNat_natCast, show Int.tmod x 3 + 1 = 1 + Int.tmod x 3 by omega]; exact v2
theorem oa_same (t : List T1) (a b c : Int) (o : List Int) (d : Bool) (g : List G1) (f q : List Int) (x : Int) (z1 : t.length ≤ 1048576) (zs : ∀ y ∈ t, y.f0.size ≤ 1048576) (z2 : o.length ≤ 1048576) (z3 : g.length ≤ 1048576) (z4 : f.length ≤ 1048576) (z5 : q.length ≤ 1048576) :
    ∃ (v : List Int) (p : Bool), v.length ≤ 1048576 ∧ Ev (fun k => spec_OutcomeAt.f k t a b c o d g f q x) (v, p) ∧ Ev (fun k => impl_OutcomeAt.f k t a b c o d g f q x) (v, p) := by
  obtain ⟨n, n1, n2⟩ := co_same t a b c o d g f q z1 zs z2 z3 z4 z5
  obtain ⟨w, w0, w1, w2⟩ := open_same g z3
  unfold spec_OutcomeAt.f impl_OutcomeAt.f
  cases hx : decide (0 ≤ x ∧ x ≤ wrap64 (n - 1)) with
  | false => exact ⟨[], false, by simp, Ev.bind n1 (Ev.bind0 (spec_in _ _ _) (by rw [hx]; exact Ev.neg (by simp) (Ev.now _))), Ev.bind n2 (Ev.bind0 (impl_in _ _ _) (by rw [hx]; exact Ev.neg (by simp) (Ev.now _)))⟩
  | true =>
    obtain ⟨v, v0, v1, v2⟩ := oa_loop w.length (by omega) w.length (by omega) x (List.replicate w.length 0) (List.length_replicate ..)
    have hw : wrap64 ((w.length : Int) - 1) = (w.length : Int) - 1 := w64 (by omega) (by omega)
    have u1 : Ev (fun k => spec_l16At.f k (w.length : Int) x) v := by
      unfold spec_l16At.f
      rw [hw, Int.toNat_natCast]
      exact Ev.pos (by omega) (Ev.pos (by omega) v1)
    have u2 : Ev (fun k => impl_outcomeAt.f k (w.length : Int) x) v := by
      unfold impl_outcomeAt.f
      rw [hw, Int.toNat_natCast]
      exact Ev.pos (by omega) (Ev.pos (by omega) v2)
    exact ⟨v, true, by omega, Ev.bind n1 (Ev.bind0 (spec_in _ _ _) (by rw [hx]; exact Ev.pos rfl (Ev.bind w1 (Ev.bind u1 (Ev.now _))))), Ev.bind n2 (Ev.bind0 (impl_in _ _ _) (by rw [hx]; exact Ev.pos rfl (Ev.bind w2 (Ev.bind u2 (Ev.now _)))))⟩
theorem FnExactOutcomeAt.pure : ∀ (l0_0 : List (S97)) (a0_1 : Int) (a0_2 : Int) (a0_3 : Int) (l0_4 : List Int) (a0_5 : Bool) (l0_6 : List (S104)) (l0_7 : List Int) (l0_8 : List Int) (a1 : Int), (l0_0.length ≤ maxLen ∧ ∀ y ∈ l0_0, (y.f0.size ≤ maxLen ∧ (Lit.int .i64 y.f1).wf = true ∧ (Lit.int .i64 y.f2).wf = true)) → (Lit.int .i64 a0_1).wf = true → (Lit.int .i64 a0_2).wf = true → (Lit.int .i64 a0_3).wf = true → (l0_4.length ≤ maxLen ∧ ∀ y ∈ l0_4, (Lit.int .i64 y).wf = true) → (l0_6.length ≤ maxLen ∧ ∀ y ∈ l0_6, ((Lit.int .i64 y.f0).wf = true ∧ (Lit.int .i64 y.f1).wf = true ∧ (Lit.int .i64 y.f2).wf = true ∧ (Lit.int .i64 y.f3).wf = true ∧ (Lit.int .i64 y.f4).wf = true)) → (l0_7.length ≤ maxLen ∧ ∀ y ∈ l0_7, (Lit.int .i64 y).wf = true) → (l0_8.length ≤ maxLen ∧ ∀ y ∈ l0_8, (Lit.int .i64 y).wf = true) → (Lit.int .i64 a1).wf = true → ∃ k, laws_FnExactOutcomeAt.f k l0_0 a0_1 a0_2 a0_3 l0_4 a0_5 l0_6 l0_7 l0_8 a1 = some true := by
  intro t a b c o d g f q x ht _ _ _ ho hg hf hq _
  refine Ev.rounds (g := fun k => laws_FnExactOutcomeAt.f k t a b c o d g f q x) ?_
  obtain ⟨r, hr, hc⟩ := szBook_tells t a b c o d g f q 1048576 (by omega) (by omega) ht.1 (fun y hy => (ht.2 y hy).1) ho.1 hg.1 hf.1 hq.1
  by_cases c0 : r < 0
  · exact Ev.bind hr (Ev.pos c0 (Ev.now _))
  obtain ⟨r0, r1, hs⟩ := hc.resolve_left c0
  have h1 := toBook_same t a b c o d g f q hs
  obtain ⟨z1, z2, z3, z4, z5, z6⟩ := hs
  have l1 : (t.map tv).length ≤ 1048576 := by rw [List.length_map]; omega
  have l2 : (g.map gv).length ≤ 1048576 := by rw [List.length_map]; omega
  have ls : ∀ y ∈ t.map tv, y.f0.size ≤ 1048576 := by
    intro y hy
    obtain ⟨z, hz, rfl⟩ := List.mem_map.1 hy
    have := z2 z hz
    show z.f0.size ≤ 1048576
    omega
  obtain ⟨v, p, v0, h3, h4⟩ := oa_same (t.map tv) a b c o d (g.map gv) f q x l1 ls (by omega) l2 (by omega) (by omega)
  have h5 := eqBook_self (t.map tv) a b c o d (g.map gv) f q l1 (by omega) l2 (by omega) (by omega)
  obtain ⟨m1, hm1, p1, p2⟩ := markBook_some (t.map tv) a b c o d (g.map gv) f q 1 (by omega) (by omega) l1 (by omega) l2 (by omega) (by omega)
  have h7 := eqIntS_self v (by omega)
  have h8 := markIntS_marks v 1 (by omega) (by omega)
  have h9 := heldIntS_marks 1 v.length (by omega) (by omega)
  unfold laws_FnExactOutcomeAt.f
  repeat (first
    | exact Ev.now _
    | (with_reducible refine Ev.bind hr ?_)
    | (with_reducible refine Ev.bind h1 ?_)
    | (with_reducible refine Ev.bind h3 ?_)
    | (with_reducible refine Ev.bind h4 ?_)
    | (with_reducible refine Ev.bind h5 ?_)
    | (with_reducible refine Ev.bind hm1 ?_)
    | (with_reducible refine Ev.bind h7 ?_)
    | (with_reducible refine Ev.bind h8 ?_)
    | (with_reducible refine Ev.bind h9 ?_)
    | refine Ev.neg (by first | assumption | omega | exact bnot_ne_self) ?_
    | refine Ev.pos (by first | assumption | rfl | omega) ?_)
end Go.Proofs.Ytgalpgakdcfilaa.X
