/- The pure part of the law FnExactWithdrawRule: what program and reference compute is the same. Conditions: those of the row. -/
import Derived.Test.YtgalpgakdcfilaaBookB
import Derived.Test.YtgalpgakdcfilaaX30
import Derived.Test.YtgalpgakdcfilaaX34
import Derived.Test.YtgalpgakdcfilaaX36
import Derived.Test.YtgalpgakdcfilaaX37
namespace Go.Proofs.Ytgalpgakdcfilaa.X
set_option linter.unusedVariables false
set_option linter.unusedSimpArgs false
open Go.RowKit Go.Proofs.YtgalpgakdcfilaaW.PrintWords Go.Proofs.Ytgalpgakdcfilaa.PK
theorem wr_loop (l : List G1) (x : Int) (hl : l.length ≤ 1048576) : ∃ v, Ev (fun k => spec_WithdrawRule.l0 k x 0 0 l (l.length : Int) 0) v ∧ Ev (fun k => impl_WithdrawRule.l0 k x 0 0 l (l.length : Int) 0) v := by
  have := down (g := fun i => ∀ c e : Int, ∃ v, Ev (fun k => spec_WithdrawRule.l0 k x c e l (l.length : Int) (i : Int)) v ∧ Ev (fun k => impl_WithdrawRule.l0 k x c e l (l.length : Int) (i : Int)) v) (n := l.length) (fun i hi hn c e => by
    have hw : wrap64 ((i : Int) + 1) = ((i + 1 : Nat) : Int) := w64s (by omega)
    -- what both do behind the test
    have j2 : ∀ b : Bool, ∃ v, Ev (fun k => spec_WithdrawRule.j2 k x c e l (l.length : Int) (i : Int) b l[i].f0 l[i].f1 l[i].f2 l[i].f3 l[i].f4) v ∧ Ev (fun k => impl_WithdrawRule.j2 k x c e l (l.length : Int) (i : Int) b l[i].f0 l[i].f1 l[i].f2 l[i].f3 l[i].f4) v := by
      intro b
      cases b with
      | true =>
        obtain ⟨v, v1, v2⟩ := hn c e
        refine ⟨v, Ev.step (fun k => spec_WithdrawRule.j2.eq_2 ..) (Ev.pos rfl ?_), Ev.step (fun k => impl_WithdrawRule.j2.eq_2 ..) (Ev.pos rfl ?_)⟩
        · rw [hw]; exact v1
        · rw [hw]; exact v2
      | false =>
        by_cases c2 : (l[i].f4 == 0) = true
        · obtain ⟨v, v1, v2⟩ := hn (wrap64 (c + 1)) e
          refine ⟨v, Ev.step (fun k => spec_WithdrawRule.j2.eq_2 ..) (Ev.neg (by simp) (Ev.bind0 rfl (Ev.pos c2 ?_))), Ev.step (fun k => impl_WithdrawRule.j2.eq_2 ..) (Ev.neg (by simp) (Ev.bind0 rfl (Ev.pos c2 ?_)))⟩
          · rw [hw]; exact v1
          · rw [hw]; exact v2
        · obtain ⟨v, v1, v2⟩ := hn (wrap64 (c + 1)) (wrap64 (e + 1))
          refine ⟨v, Ev.step (fun k => spec_WithdrawRule.j2.eq_2 ..) (Ev.neg (by simp) (Ev.bind0 rfl (Ev.neg c2 ?_))), Ev.step (fun k => impl_WithdrawRule.j2.eq_2 ..) (Ev.neg (by simp) (Ev.bind0 rfl (Ev.neg c2 ?_)))⟩
          · rw [hw]; exact v1
          · rw [hw]; exact v2
    have s1 : ∀ v, Ev (fun k => (if l[i].f0 = x then (spec_WithdrawRule.j2 k x c e l (l.length : Int) (i : Int) (l[i].f4 == 4) l[i].f0 l[i].f1 l[i].f2 l[i].f3 l[i].f4) else (if l[i].f1 = x then (spec_WithdrawRule.j2 k x c e l (l.length : Int) (i : Int) (l[i].f4 == 4) l[i].f0 l[i].f1 l[i].f2 l[i].f3 l[i].f4) else (spec_WithdrawRule.j2 k x c e l (l.length : Int) (i : Int) true l[i].f0 l[i].f1 l[i].f2 l[i].f3 l[i].f4)))) v → Ev (fun k => spec_WithdrawRule.l0 k x c e l (l.length : Int) (i : Int)) v := by
      intro v h
      refine Ev.step (fun k => spec_WithdrawRule.l0.eq_2 ..) (Ev.pos (by omega) (Ev.pos (by omega) (Ev.pos (by omega) ?_)))
      rw [rdG1 hi]; exact h
    have s2 : ∀ v, Ev (fun k => (impl_plays.f l[i].f0 l[i].f1 l[i].f2 l[i].f3 l[i].f4 x).bind fun t393 => (if t393 = true then (impl_WithdrawRule.j2 k x c e l (l.length : Int) (i : Int) (l[i].f4 == 4) l[i].f0 l[i].f1 l[i].f2 l[i].f3 l[i].f4) else (impl_WithdrawRule.j2 k x c e l (l.length : Int) (i : Int) true l[i].f0 l[i].f1 l[i].f2 l[i].f3 l[i].f4))) v → Ev (fun k => impl_WithdrawRule.l0 k x c e l (l.length : Int) (i : Int)) v := by
      intro v h
      refine Ev.step (fun k => impl_WithdrawRule.l0.eq_2 ..) (Ev.pos (by omega) (Ev.pos (by omega) (Ev.pos (by omega) ?_)))
      rw [rdG1 hi]; exact h
    by_cases c1 : l[i].f0 = x
    · obtain ⟨v, v1, v2⟩ := j2 (l[i].f4 == 4)
      exact ⟨v, s1 v (Ev.pos c1 v1), s2 v (Ev.bind0 (by unfold impl_plays.f; rw [if_pos c1]) (Ev.pos rfl v2))⟩
    · by_cases c2 : l[i].f1 = x
      · obtain ⟨v, v1, v2⟩ := j2 (l[i].f4 == 4)
        exact ⟨v, s1 v (Ev.neg c1 (Ev.pos c2 v1)), s2 v (Ev.bind0 (a := true) (by unfold impl_plays.f; rw [if_neg c1]; simp [c2]) (Ev.pos rfl v2))⟩
      · obtain ⟨v, v1, v2⟩ := j2 true
        exact ⟨v, s1 v (Ev.neg c1 (Ev.neg c2 v1)), s2 v (Ev.bind0 (a := false) (by unfold impl_plays.f; rw [if_neg c1]; simp [c2]) (Ev.neg (by simp) v2))⟩) (fun c e => by
    by_cases cq : (wrap64 (2 * e)) ≥ c
    · exact ⟨2, Ev.step (fun k => spec_WithdrawRule.l0.eq_2 ..) (Ev.neg (by omega) (Ev.pos cq (Ev.now _))), Ev.step (fun k => impl_WithdrawRule.l0.eq_2 ..) (Ev.neg (by omega) (Ev.pos cq (Ev.now _)))⟩
    · exact ⟨1, Ev.step (fun k => spec_WithdrawRule.l0.eq_2 ..) (Ev.neg (by omega) (Ev.neg cq (Ev.now _))), Ev.step (fun k => impl_WithdrawRule.l0.eq_2 ..) (Ev.neg (by omega) (Ev.neg cq (Ev.now _)))⟩) l.length 0 (by omega)
  exact this 0 0
theorem wr_same (t : List T1) (a b c : Int) (o : List Int) (d : Bool) (g : List G1) (f q : List Int) (x : Int) (z1 : t.length ≤ 1048576) (zs : ∀ y ∈ t, y.f0.size ≤ 1048576) (z2 : o.length ≤ 1048576) (z3 : g.length ≤ 1048576) (z4 : f.length ≤ 1048576) (z5 : q.length ≤ 1048576) :
    ∃ v : Int, Ev (fun k => spec_WithdrawRule.f k t a b c o d g f q x) v ∧ Ev (fun k => impl_WithdrawRule.f k t a b c o d g f q x) v := by
  have hs := spec_book t a b c o d g f q z1 zs z2 z3 z4 z5
  have hi := impl_book t a b c o d g f q z1 zs z2 z3 z4 z5
  have s0 : Ev (fun k => spec_WithdrawRule.j0 k x true t a b c o d g f q) 0 := Ev.step (fun k => spec_WithdrawRule.j0.eq_2 ..) (Ev.pos rfl (Ev.now _))
  have i0 : Ev (fun k => impl_WithdrawRule.j0 k x true t a b c o d g f q) 0 := Ev.step (fun k => impl_WithdrawRule.j0.eq_2 ..) (Ev.pos rfl (Ev.now _))
  unfold spec_WithdrawRule.f impl_WithdrawRule.f
  cases hb : bookB t a b c o g f q with
  | false =>
    rw [hb] at hs hi
    exact ⟨0, Ev.bind hs (Ev.neg (by simp) s0), Ev.bind hi (Ev.neg (by simp) i0)⟩
  | true =>
    rw [hb] at hs hi
    have ht : ∀ v, Ev (fun k => impl_WithdrawRule.j0 k x (!decide (0 ≤ x ∧ x ≤ wrap64 ((t.length : Int) - 1))) t a b c o d g f q) v → Ev (fun k => (impl_isTeam.f t a b c o d g f q x).bind fun t313 => (impl_WithdrawRule.j0 k x (!t313) t a b c o d g f q)) v := by
      intro v hv
      unfold impl_isTeam.f
      rw [impl_in, Option.bind_some]
      exact hv
    cases hx : decide (0 ≤ x ∧ x ≤ wrap64 ((t.length : Int) - 1)) with
    | false =>
      rw [hx] at ht
      exact ⟨0, Ev.bind hs (Ev.pos rfl (Ev.bind0 (spec_in _ _ _) (by rw [hx]; exact s0))), Ev.bind hi (Ev.pos rfl (ht _ i0))⟩
    | true =>
      rw [hx] at ht
      obtain ⟨v, v1, v2⟩ := wr_loop g x z3
      exact ⟨v, Ev.bind hs (Ev.pos rfl (Ev.bind0 (spec_in _ _ _) (by rw [hx]; exact Ev.step (fun k => spec_WithdrawRule.j0.eq_2 ..) (Ev.neg (by simp) v1)))), Ev.bind hi (Ev.pos rfl (ht _ (Ev.step (fun k => impl_WithdrawRule.j0.eq_2 ..) (Ev.neg (by simp) v2))))⟩
theorem FnExactWithdrawRule.pure : ∀ (l0_0 : List (S97)) (a0_1 : Int) (a0_2 : Int) (a0_3 : Int) (l0_4 : List Int) (a0_5 : Bool) (l0_6 : List (S104)) (l0_7 : List Int) (l0_8 : List Int) (a1 : Int), (l0_0.length ≤ maxLen ∧ ∀ y ∈ l0_0, (y.f0.size ≤ maxLen ∧ (Lit.int .i64 y.f1).wf = true ∧ (Lit.int .i64 y.f2).wf = true)) → (Lit.int .i64 a0_1).wf = true → (Lit.int .i64 a0_2).wf = true → (Lit.int .i64 a0_3).wf = true → (l0_4.length ≤ maxLen ∧ ∀ y ∈ l0_4, (Lit.int .i64 y).wf = true) → (l0_6.length ≤ maxLen ∧ ∀ y ∈ l0_6, ((Lit.int .i64 y.f0).wf = true ∧ (Lit.int .i64 y.f1).wf = true ∧ (Lit.int .i64 y.f2).wf = true ∧ (Lit.int .i64 y.f3).wf = true ∧ (Lit.int .i64 y.f4).wf = true)) → (l0_7.length ≤ maxLen ∧ ∀ y ∈ l0_7, (Lit.int .i64 y).wf = true) → (l0_8.length ≤ maxLen ∧ ∀ y ∈ l0_8, (Lit.int .i64 y).wf = true) → (Lit.int .i64 a1).wf = true → ∃ k, laws_FnExactWithdrawRule.f k l0_0 a0_1 a0_2 a0_3 l0_4 a0_5 l0_6 l0_7 l0_8 a1 = some true := by
  intro t a b c o d g f q x ht _ _ _ ho hg hf hq _
  refine Ev.rounds (g := fun k => laws_FnExactWithdrawRule.f k t a b c o d g f q x) ?_
  obtain ⟨r, hr, hc⟩ := szBook_tells t a b c o d g f q 1048576 (by omega) (by omega) ht.1 (fun y hy => (ht.2 y hy).1) ho.1 hg.1 hf.1 hq.1
  by_cases c0 : r < 0
  · exact Ev.bind hr (Ev.pos c0 (Ev.now _))
  obtain ⟨r0, r1, hs⟩ := hc.resolve_left c0
  have h1 := toBook_same t a b c o d g f q hs
  obtain ⟨z1, z2, z3, z4, z5, z6⟩ := hs
  have l1 : (t.map tv).length ≤ 1048576 := by rw [List.length_map]; omega
  have l2 : (g.map gv).length ≤ 1048576 := by rw [List.length_map]; omega
  have ls : ∀ y ∈ t.map tv, y.f0.size ≤ 1048576 := by
    intro y hy
    obtain ⟨z, hz, rfl⟩ := List.mem_map.1 hy
    have := z2 z hz
    show z.f0.size ≤ 1048576
    omega
  obtain ⟨v, h3, h4⟩ := wr_same (t.map tv) a b c o d (g.map gv) f q x l1 ls (by omega) l2 (by omega) (by omega)
  have h5 := eqBook_self (t.map tv) a b c o d (g.map gv) f q l1 (by omega) l2 (by omega) (by omega)
  unfold laws_FnExactWithdrawRule.f
  repeat (first
    | exact Ev.now _
    | (with_reducible refine Ev.bind hr ?_)
    | (with_reducible refine Ev.bind h1 ?_)
    | (with_reducible refine Ev.bind h3 ?_)
    | (with_reducible refine Ev.bind h4 ?_)
    | (with_reducible refine Ev.bind h5 ?_)
    | refine Ev.neg (by first | assumption | omega | exact bnot_ne_self) ?_
    | refine Ev.pos (by first | assumption | rfl | omega) ?_)
end Go.Proofs.Ytgalpgakdcfilaa.X
