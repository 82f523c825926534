/- The pure part of the law FnExactLeadNet: what program and reference compute is the same. Conditions: those of the row. -/
import Derived.Test.YtgalpgakdcfilaaNetL
import Derived.Test.YtgalpgakdcfilaaNetKM
import Derived.Test.YtgalpgakdcfilaaLawBkMark
import Derived.Test.YtgalpgakdcfilaaQ29
import Derived.Test.YtgalpgakdcfilaaQ48
import Derived.Test.YtgalpgakdcfilaaQ52
namespace Go.Proofs.Ytgalpgakdcfilaa.Q
set_option linter.unusedVariables false
set_option linter.unusedSimpArgs false
open Go.RowKit Go.Proofs.YtgalpgakdcfilaaW.PrintWords Go.Proofs.Ytgalpgakdcfilaa.PK
theorem ln_same (t : List T1) (a b c : Int) (o : List Int) (d : Bool) (g : List G1) (f q : List Int) (x : Int) (z1 : t.length ≤ 1048576) (zs : ∀ y ∈ t, y.f0.size ≤ 1048576) (z2 : o.length ≤ 1048576) (z3 : g.length ≤ 1048576) (z4 : f.length ≤ 1048576) (z5 : q.length ≤ 1048576) :
    ∃ v : Int × List P1 × Bool, v.2.1.length ≤ 1048576 ∧ Ev (fun k => spec_LeadNet.f k t a b c o d g f q x) v ∧ Ev (fun k => impl_LeadNet.f k t a b c o d g f q x) v := by
  have hs := lead_spec t a b c o d g f q x z1 zs z2 z3 z4 z5
  have hi := lead_impl t a b c o d g f q x z1 zs z2 z3 z4 z5
  unfold spec_LeadNet.f impl_LeadNet.f
  cases hb : leadB t a b c o g f q x with
  | false =>
    rw [hb] at hs hi
    exact ⟨(0, [], false), by simp, Ev.bind hs (Ev.neg (by simp) (Ev.now _)), Ev.bind hi (Ev.neg (by simp) (Ev.now _))⟩
  | true =>
    rw [hb] at hs hi
    obtain ⟨h1, h2, h3⟩ := lead_facts hb
    obtain ⟨_, k1, k2, k3, k4⟩ := book_facts h1
    obtain ⟨P, r, p0, p1, p2⟩ := net_same t a b c o d g f q x k1 k2 k3 k4 h2 h3
    have hlen := goR_len ((2 + t.length + (oth g x 0).length : Nat) : Int) r x P 0 (trips (2 + t.length) (oth g x 0))
    rw [trips_len] at hlen
    have hol := oth_len g x 0
    generalize goR ((2 + t.length + (oth g x 0).length : Nat) : Int) r x P 0 (trips (2 + t.length) (oth g x 0)) = w at p1 p2 hlen
    obtain ⟨n, ps, e⟩ := w
    simp only at hlen
    by_cases c1 : e ≥ 0
    · exact ⟨(0, [], false), by simp, Ev.bind hs (Ev.pos rfl (Ev.bind p1 (Ev.pos c1 (Ev.now _)))), Ev.bind hi (Ev.pos rfl (Ev.bind p2 (Ev.pos c1 (Ev.now _))))⟩
    · have n1 := spec_net n ps (by omega)
      have n2 := impl_net n ps (by omega)
      cases hnb : netB n ps with
      | false =>
        rw [hnb] at n1 n2
        exact ⟨(0, [], false), by simp, Ev.bind hs (Ev.pos rfl (Ev.bind p1 (Ev.neg c1 (Ev.bind n1 (Ev.neg (by simp) (Ev.now _)))))), Ev.bind hi (Ev.pos rfl (Ev.bind p2 (Ev.neg c1 (Ev.bind n2 (Ev.neg (by simp) (Ev.now _))))))⟩
      | true =>
        rw [hnb] at n1 n2
        exact ⟨(n, ps, true), by show ps.length ≤ _; omega, Ev.bind hs (Ev.pos rfl (Ev.bind p1 (Ev.neg c1 (Ev.bind n1 (Ev.pos rfl (Ev.now _)))))), Ev.bind hi (Ev.pos rfl (Ev.bind p2 (Ev.neg c1 (Ev.bind n2 (Ev.pos rfl (Ev.now _))))))⟩
theorem FnExactLeadNet.pure : ∀ (l0_0 : List (S97)) (a0_1 : Int) (a0_2 : Int) (a0_3 : Int) (l0_4 : List Int) (a0_5 : Bool) (l0_6 : List (S104)) (l0_7 : List Int) (l0_8 : List Int) (a1 : Int), (l0_0.length ≤ maxLen ∧ ∀ y ∈ l0_0, (y.f0.size ≤ maxLen ∧ (Lit.int .i64 y.f1).wf = true ∧ (Lit.int .i64 y.f2).wf = true)) → (Lit.int .i64 a0_1).wf = true → (Lit.int .i64 a0_2).wf = true → (Lit.int .i64 a0_3).wf = true → (l0_4.length ≤ maxLen ∧ ∀ y ∈ l0_4, (Lit.int .i64 y).wf = true) → (l0_6.length ≤ maxLen ∧ ∀ y ∈ l0_6, ((Lit.int .i64 y.f0).wf = true ∧ (Lit.int .i64 y.f1).wf = true ∧ (Lit.int .i64 y.f2).wf = true ∧ (Lit.int .i64 y.f3).wf = true ∧ (Lit.int .i64 y.f4).wf = true)) → (l0_7.length ≤ maxLen ∧ ∀ y ∈ l0_7, (Lit.int .i64 y).wf = true) → (l0_8.length ≤ maxLen ∧ ∀ y ∈ l0_8, (Lit.int .i64 y).wf = true) → (Lit.int .i64 a1).wf = true → ∃ k, laws_FnExactLeadNet.f k l0_0 a0_1 a0_2 a0_3 l0_4 a0_5 l0_6 l0_7 l0_8 a1 = some true := by
  intro t a b c o d g f q x ht _ _ _ ho hg hf hq _
  refine Ev.rounds (g := fun k => laws_FnExactLeadNet.f k t a b c o d g f q x) ?_
  obtain ⟨r, hr, hc⟩ := szBook_tells t a b c o d g f q 1048576 (by omega) (by omega) ht.1 (fun y hy => (ht.2 y hy).1) ho.1 hg.1 hf.1 hq.1
  by_cases c0 : r < 0
  · exact Ev.bind hr (Ev.pos c0 (Ev.now _))
  obtain ⟨r0, r1, hs⟩ := hc.resolve_left c0
  have h1 := toBook_same t a b c o d g f q hs
  obtain ⟨z1, z2, z3, z4, z5, z6⟩ := hs
  have l1 : (t.map tv).length ≤ 1048576 := by rw [List.length_map]; omega
  have l2 : (g.map gv).length ≤ 1048576 := by rw [List.length_map]; omega
  have ls : ∀ y ∈ t.map tv, y.f0.size ≤ 1048576 := by
    intro y hy
    obtain ⟨z, hz, rfl⟩ := List.mem_map.1 hy
    have := z2 z hz
    show z.f0.size ≤ 1048576
    omega
  obtain ⟨v, hv, h3, h4⟩ := ln_same (t.map tv) a b c o d (g.map gv) f q x l1 ls (by omega) l2 (by omega) (by omega)
  have h5 := eqBook_self (t.map tv) a b c o d (g.map gv) f q l1 (by omega) l2 (by omega) (by omega)
  obtain ⟨m, h6, hm, _⟩ := markBook_some (t.map tv) a b c o d (g.map gv) f q 1 (by omega) (by omega) l1 (by omega) l2 (by omega) (by omega)
  have h7 := eqNet_self v.1 v.2.1 (by omega)
  have h8 := markNet_marks v.1 v.2.1 hv
  have h9 := heldNet_marks v.1 v.2.1.length hv
  unfold laws_FnExactLeadNet.f
  repeat (first
    | exact Ev.now _
    | (with_reducible refine Ev.bind hr ?_)
    | (with_reducible refine Ev.bind h1 ?_)
    | (with_reducible refine Ev.bind h3 ?_)
    | (with_reducible refine Ev.bind h4 ?_)
    | (with_reducible refine Ev.bind h5 ?_)
    | (with_reducible refine Ev.bind h6 ?_)
    | (with_reducible refine Ev.bind h7 ?_)
    | (with_reducible refine Ev.bind h8 ?_)
    | (with_reducible refine Ev.bind h9 ?_)
    | refine Ev.neg (by first | assumption | omega | exact bnot_ne_self) ?_
    | refine Ev.pos (by first | assumption | rfl | omega) ?_)
end Go.Proofs.Ytgalpgakdcfilaa.Q
