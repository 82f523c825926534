/- The pure part of the law FnExactBestPoints: what program and reference compute is the same. Conditions: those of the row. -/
import Derived.Test.YtgalpgakdcfilaaTabB
import Derived.Test.YtgalpgakdcfilaaQ24
import Derived.Test.YtgalpgakdcfilaaQ40
import Derived.Test.YtgalpgakdcfilaaQ41
namespace Go.Proofs.Ytgalpgakdcfilaa.Q
set_option linter.unusedVariables false
set_option linter.unusedSimpArgs false
open Go.RowKit Go.Proofs.YtgalpgakdcfilaaW.PrintWords Go.Proofs.Ytgalpgakdcfilaa.PK
theorem bp_same (t : List T1) (a b c : Int) (o : List Int) (d : Bool) (g : List G1) (f q : List Int) (x : Int) (z1 : t.length ≤ 1048576) (zs : ∀ y ∈ t, y.f0.size ≤ 1048576) (z2 : o.length ≤ 1048576) (z3 : g.length ≤ 1048576) (z4 : f.length ≤ 1048576) (z5 : q.length ≤ 1048576) :
    ∃ v : Int, Ev (fun k => spec_BestPoints.f k t a b c o d g f q x) v ∧ Ev (fun k => impl_BestPoints.f k t a b c o d g f q x) v := by
  have hs := lead_spec t a b c o d g f q x z1 zs z2 z3 z4 z5
  have hi := lead_impl t a b c o d g f q x z1 zs z2 z3 z4 z5
  unfold spec_BestPoints.f impl_BestPoints.f
  cases hb : leadB t a b c o g f q x with
  | false =>
    rw [hb] at hs hi
    exact ⟨0, Ev.bind hs (Ev.neg (by simp) (Ev.now _)), Ev.bind hi (Ev.neg (by simp) (Ev.now _))⟩
  | true =>
    rw [hb] at hs hi
    obtain ⟨h1, h2, h3⟩ := lead_facts hb
    obtain ⟨_, k1, k2, k3, k4⟩ := book_facts h1
    obtain ⟨r, r1, r2⟩ := best_same t a b c o d g f q x k1 k2 z3 k4 h2 h3
    exact ⟨r, Ev.bind hs (Ev.pos rfl (Ev.bind r1 (Ev.now _))), Ev.bind hi (Ev.pos rfl (Ev.bind r2 (Ev.now _)))⟩
theorem FnExactBestPoints.pure : ∀ (l0_0 : List (S97)) (a0_1 : Int) (a0_2 : Int) (a0_3 : Int) (l0_4 : List Int) (a0_5 : Bool) (l0_6 : List (S104)) (l0_7 : List Int) (l0_8 : List Int) (a1 : Int), (l0_0.length ≤ maxLen ∧ ∀ y ∈ l0_0, (y.f0.size ≤ maxLen ∧ (Lit.int .i64 y.f1).wf = true ∧ (Lit.int .i64 y.f2).wf = true)) → (Lit.int .i64 a0_1).wf = true → (Lit.int .i64 a0_2).wf = true → (Lit.int .i64 a0_3).wf = true → (l0_4.length ≤ maxLen ∧ ∀ y ∈ l0_4, (Lit.int .i64 y).wf = true) → (l0_6.length ≤ maxLen ∧ ∀ y ∈ l0_6, ((Lit.int .i64 y.f0).wf = true ∧ (Lit.int .i64 y.f1).wf = true ∧ (Lit.int .i64 y.f2).wf = true ∧ (Lit.int .i64 y.f3).wf = true ∧ (Lit.int .i64 y.f4).wf = true)) → (l0_7.length ≤ maxLen ∧ ∀ y ∈ l0_7, (Lit.int .i64 y).wf = true) → (l0_8.length ≤ maxLen ∧ ∀ y ∈ l0_8, (Lit.int .i64 y).wf = true) → (Lit.int .i64 a1).wf = true → ∃ k, laws_FnExactBestPoints.f k l0_0 a0_1 a0_2 a0_3 l0_4 a0_5 l0_6 l0_7 l0_8 a1 = some true := by
  intro t a b c o d g f q x ht _ _ _ ho hg hf hq _
  refine Ev.rounds (g := fun k => laws_FnExactBestPoints.f k t a b c o d g f q x) ?_
  obtain ⟨r, hr, hc⟩ := szBook_tells t a b c o d g f q 1048576 (by omega) (by omega) ht.1 (fun y hy => (ht.2 y hy).1) ho.1 hg.1 hf.1 hq.1
  by_cases c0 : r < 0
  · exact Ev.bind hr (Ev.pos c0 (Ev.now _))
  obtain ⟨r0, r1, hs⟩ := hc.resolve_left c0
  have h1 := toBook_same t a b c o d g f q hs
  obtain ⟨z1, z2, z3, z4, z5, z6⟩ := hs
  have l1 : (t.map tv).length ≤ 1048576 := by rw [List.length_map]; omega
  have l2 : (g.map gv).length ≤ 1048576 := by rw [List.length_map]; omega
  have ls : ∀ y ∈ t.map tv, y.f0.size ≤ 1048576 := by
    intro y hy
    obtain ⟨z, hz, rfl⟩ := List.mem_map.1 hy
    have := z2 z hz
    show z.f0.size ≤ 1048576
    omega
  obtain ⟨v, h3, h4⟩ := bp_same (t.map tv) a b c o d (g.map gv) f q x l1 ls (by omega) l2 (by omega) (by omega)
  have h5 := eqBook_self (t.map tv) a b c o d (g.map gv) f q l1 (by omega) l2 (by omega) (by omega)
  unfold laws_FnExactBestPoints.f
  repeat (first
    | exact Ev.now _
    | (with_reducible refine Ev.bind hr ?_)
    | (with_reducible refine Ev.bind h1 ?_)
    | (with_reducible refine Ev.bind h3 ?_)
    | (with_reducible refine Ev.bind h4 ?_)
    | (with_reducible refine Ev.bind h5 ?_)
    | refine Ev.neg (by first | assumption | omega | exact bnot_ne_self) ?_
    | refine Ev.pos (by first | assumption | rfl | omega) ?_)
end Go.Proofs.Ytgalpgakdcfilaa.Q
