/- The pure part of the law FnExactIsOutcome: what program and reference compute is the same. Conditions: those of the row. -/
import Derived.Test.YtgalpgakdcfilaaOpenA
import Derived.Test.YtgalpgakdcfilaaX20
import Derived.Test.YtgalpgakdcfilaaX32
import Derived.Test.YtgalpgakdcfilaaX33
import Derived.Test.YtgalpgakdcfilaaX34
namespace Go.Proofs.Ytgalpgakdcfilaa.X
set_option linter.unusedVariables false
set_option linter.unusedSimpArgs false
open Go.RowKit Go.Proofs.YtgalpgakdcfilaaW.PrintWords Go.Proofs.Ytgalpgakdcfilaa.PK
def outB (x : Int) : Bool := decide (1 ≤ x ∧ x ≤ 3)
theorem impl_out (l : List Int) (n : Int) (hl : l.length ≤ 1048576) : Ev (fun k => impl_areOutcomes.f k l n) (decide ((l.length : Int) = n) && l.all outB) := by
  unfold impl_areOutcomes.f
  by_cases c : (l.length : Int) = n
  · rw [decide_eq_true c, Bool.true_and]
    obtain ⟨r, h1, h2⟩ := Ev.place (fun i k => slices_IndexFunc_int_int_impl_areOutcomes_1.l0 k l (l.length : Int) (i : Int)) l (fun x => !outB x) (fun i h e r hr => by
      refine Ev.step (fun k => slices_IndexFunc_int_int_impl_areOutcomes_1.l0.eq_2 ..) (Ev.pos (by omega) (Ev.pos (by omega) (Ev.pos (by omega) (Ev.bind0 (a := false) ?_ (Ev.neg (by simp) ?_)))))
      · unfold impl_areOutcomes_1.f
        rw [rd_nat h, impl_in, Option.bind_some]
        exact congrArg some e
      · rw [w64s (by omega)]; exact hr) (fun i h e => by
      refine Ev.step (fun k => slices_IndexFunc_int_int_impl_areOutcomes_1.l0.eq_2 ..) (Ev.pos (by omega) (Ev.pos (by omega) (Ev.pos (by omega) (Ev.bind0 (a := true) ?_ (Ev.pos rfl (Ev.now _))))))
      unfold impl_areOutcomes_1.f
      rw [rd_nat h, impl_in, Option.bind_some]
      exact congrArg some e)
      (Ev.step (fun k => slices_IndexFunc_int_int_impl_areOutcomes_1.l0.eq_2 ..) (Ev.neg (by omega) (Ev.now _)))
    have e : l.all outB = !decide (r ≥ 0) := by rw [h2, List.all_eq_not_any_not]
    rw [e]
    exact Ev.pos c (Ev.bind (Ev.bind h1 (Ev.now _)) (Ev.now _))
  · rw [decide_eq_false c, Bool.false_and]
    exact Ev.neg c (Ev.now _)
theorem spec_out (l : List Int) (hl : l.length ≤ 1048576) : Ev (fun k => spec_IsOutcome.l0 k l (l.length : Int) 0) (l.all outB) := by
  have := Ev.all (fun i k => spec_IsOutcome.l0 k l (l.length : Int) (i : Int)) l outB true (fun i h ht r hr => by
    refine Ev.step (fun k => spec_IsOutcome.l0.eq_2 ..) (Ev.pos (by omega) (Ev.pos (by omega) (Ev.pos (by omega) (Ev.bind0 (a := true) ?_ (Ev.pos rfl ?_)))))
    · rw [rd_nat h, spec_in]; exact congrArg some ht
    · rw [w64s (by omega)]; exact hr) (fun i h ht => by
    refine Ev.step (fun k => spec_IsOutcome.l0.eq_2 ..) (Ev.pos (by omega) (Ev.pos (by omega) (Ev.pos (by omega) (Ev.bind0 (a := false) ?_ (Ev.neg (by simp) (Ev.now _))))))
    rw [rd_nat h, spec_in]; exact congrArg some ht) (Ev.step (fun k => spec_IsOutcome.l0.eq_2 ..) (Ev.neg (by omega) (Ev.now _)))
  simpa using this
theorem io_same (t : List T1) (a b c : Int) (o : List Int) (d : Bool) (g : List G1) (f q : List Int) (l : List Int) (hl : l.length ≤ 1048576) (z1 : t.length ≤ 1048576) (zs : ∀ y ∈ t, y.f0.size ≤ 1048576) (z2 : o.length ≤ 1048576) (z3 : g.length ≤ 1048576) (z4 : f.length ≤ 1048576) (z5 : q.length ≤ 1048576) :
    ∃ v : Bool, Ev (fun k => spec_IsOutcome.f k t a b c o d g f q l) v ∧ Ev (fun k => impl_IsOutcome.f k t a b c o d g f q l) v := by
  obtain ⟨v, p, v0, v5, h1, h2, h3⟩ := short_same t a b c o d g f q z1 zs z2 z3 z4 z5
  unfold spec_IsOutcome.f impl_IsOutcome.f
  cases p with
  | false => exact ⟨false, Ev.bind h1 (Ev.neg (by simp) (Ev.step (fun k => spec_IsOutcome.j0.eq_2 ..) (Ev.pos rfl (Ev.now _)))), Ev.bind h2 (Ev.neg (by simp) (Ev.now _))⟩
  | true =>
    refine ⟨_, Ev.bind h1 (Ev.pos rfl (Ev.step (fun k => spec_IsOutcome.j0.eq_2 ..) ?_)), Ev.bind h2 (Ev.pos rfl (Ev.bind h3 (Ev.bind (impl_out l _ hl) (Ev.now _))))⟩
    by_cases c : (l.length : Int) = (v.length : Int)
    · rw [decide_eq_true c, Bool.true_and]
      exact Ev.neg (by simp [c]) (spec_out l hl)
    · rw [decide_eq_false c, Bool.false_and]
      exact Ev.pos (by simpa using c) (Ev.now _)
theorem FnExactIsOutcome.pure : ∀ (l0_0 : List (S97)) (a0_1 : Int) (a0_2 : Int) (a0_3 : Int) (l0_4 : List Int) (a0_5 : Bool) (l0_6 : List (S104)) (l0_7 : List Int) (l0_8 : List Int) (l1 : List Int), (l0_0.length ≤ maxLen ∧ ∀ y ∈ l0_0, (y.f0.size ≤ maxLen ∧ (Lit.int .i64 y.f1).wf = true ∧ (Lit.int .i64 y.f2).wf = true)) → (Lit.int .i64 a0_1).wf = true → (Lit.int .i64 a0_2).wf = true → (Lit.int .i64 a0_3).wf = true → (l0_4.length ≤ maxLen ∧ ∀ y ∈ l0_4, (Lit.int .i64 y).wf = true) → (l0_6.length ≤ maxLen ∧ ∀ y ∈ l0_6, ((Lit.int .i64 y.f0).wf = true ∧ (Lit.int .i64 y.f1).wf = true ∧ (Lit.int .i64 y.f2).wf = true ∧ (Lit.int .i64 y.f3).wf = true ∧ (Lit.int .i64 y.f4).wf = true)) → (l0_7.length ≤ maxLen ∧ ∀ y ∈ l0_7, (Lit.int .i64 y).wf = true) → (l0_8.length ≤ maxLen ∧ ∀ y ∈ l0_8, (Lit.int .i64 y).wf = true) → (l1.length ≤ maxLen ∧ ∀ y ∈ l1, (Lit.int .i64 y).wf = true) → ∃ k, laws_FnExactIsOutcome.f k l0_0 a0_1 a0_2 a0_3 l0_4 a0_5 l0_6 l0_7 l0_8 l1 = some true := by
  intro t a b c o d g f q x ht _ _ _ ho hg hf hq hx
  refine Ev.rounds (g := fun k => laws_FnExactIsOutcome.f k t a b c o d g f q x) ?_
  unfold laws_FnExactIsOutcome.f
  by_cases cx : (x.length : Int) > 1048576
  · exact Ev.pos cx (Ev.now _)
  refine Ev.neg cx ?_
  obtain ⟨r, hr, hc⟩ := szBook_tells t a b c o d g f q 1048576 (by omega) (by omega) ht.1 (fun y hy => (ht.2 y hy).1) ho.1 hg.1 hf.1 hq.1
  by_cases c0 : r < 0
  · exact Ev.bind hr (Ev.pos c0 (Ev.now _))
  obtain ⟨r0, r1, hs⟩ := hc.resolve_left c0
  have h1 := toBook_same t a b c o d g f q hs
  obtain ⟨z1, z2, z3, z4, z5, z6⟩ := hs
  have l1 : (t.map tv).length ≤ 1048576 := by rw [List.length_map]; omega
  have l2 : (g.map gv).length ≤ 1048576 := by rw [List.length_map]; omega
  have ls : ∀ y ∈ t.map tv, y.f0.size ≤ 1048576 := by
    intro y hy
    obtain ⟨z, hz, rfl⟩ := List.mem_map.1 hy
    have := z2 z hz
    show z.f0.size ≤ 1048576
    omega
  obtain ⟨v, h3, h4⟩ := io_same (t.map tv) a b c o d (g.map gv) f q x (by omega) l1 ls (by omega) l2 (by omega) (by omega)
  have h5 := eqBook_self (t.map tv) a b c o d (g.map gv) f q l1 (by omega) l2 (by omega) (by omega)
  have h6 := toIntS_same x (by omega)
  have h7 := eqIntS_self x (by omega)
  repeat (first
    | exact Ev.now _
    | (with_reducible refine Ev.bind hr ?_)
    | (with_reducible refine Ev.bind h1 ?_)
    | (with_reducible refine Ev.bind h3 ?_)
    | (with_reducible refine Ev.bind h4 ?_)
    | (with_reducible refine Ev.bind h5 ?_)
    | (with_reducible refine Ev.bind h6 ?_)
    | (with_reducible refine Ev.bind h7 ?_)
    | refine Ev.neg (by first | assumption | omega | exact bnot_ne_self) ?_
    | refine Ev.pos (by first | assumption | rfl | omega) ?_)
end Go.Proofs.Ytgalpgakdcfilaa.X
