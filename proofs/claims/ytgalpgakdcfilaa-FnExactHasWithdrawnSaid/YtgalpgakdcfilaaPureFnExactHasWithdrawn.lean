/- The pure part of the law FnExactHasWithdrawn: what program and reference compute is the same. Conditions: those of the row. -/
import Derived.Test.YtgalpgakdcfilaaBookB
import Derived.Test.YtgalpgakdcfilaaX19
import Derived.Test.YtgalpgakdcfilaaX30
import Derived.Test.YtgalpgakdcfilaaX31
import Derived.Test.YtgalpgakdcfilaaX32
namespace Go.Proofs.Ytgalpgakdcfilaa.X
set_option linter.unusedVariables false
set_option linter.unusedSimpArgs false
open Go.RowKit Go.Proofs.YtgalpgakdcfilaaW.PrintWords Go.Proofs.Ytgalpgakdcfilaa.PK
theorem hw_loop (l : List G1) (x : Int) (hl : l.length ≤ 1048576) : ∃ v, Ev (fun k => spec_HasWithdrawn.l0 k x 0 l (l.length : Int) 0) v ∧ Ev (fun k => impl_HasWithdrawn.l0 k x 0 l (l.length : Int) 0) v := by
  have := down (g := fun i => ∀ c : Int, ∃ v, Ev (fun k => spec_HasWithdrawn.l0 k x c l (l.length : Int) (i : Int)) v ∧ Ev (fun k => impl_HasWithdrawn.l0 k x c l (l.length : Int) (i : Int)) v) (n := l.length) (fun i hi hn c => by
    have hw : wrap64 ((i : Int) + 1) = ((i + 1 : Nat) : Int) := w64s (by omega)
    have key : ∀ (p : Bool), impl_plays.f l[i].f0 l[i].f1 l[i].f2 l[i].f3 l[i].f4 x = some p → ∀ v, Ev (fun k => spec_HasWithdrawn.j2 k x c l (l.length : Int) (i : Int) (!p) l[i].f0 l[i].f1 l[i].f2 l[i].f3 l[i].f4) v → (if p = true then (if l[i].f4 = 4 then Ev (fun k => impl_HasWithdrawn.l0 k x (wrap64 (c + 1)) l (l.length : Int) ((i + 1 : Nat) : Int)) v else v = false) else Ev (fun k => impl_HasWithdrawn.l0 k x c l (l.length : Int) ((i + 1 : Nat) : Int)) v) → ∃ v, Ev (fun k => spec_HasWithdrawn.l0 k x c l (l.length : Int) (i : Int)) v ∧ Ev (fun k => impl_HasWithdrawn.l0 k x c l (l.length : Int) (i : Int)) v := by
      intro p hp v h1 h2
      refine ⟨v, Ev.step (fun k => spec_HasWithdrawn.l0.eq_2 ..) (Ev.pos (by omega) (Ev.pos (by omega) (Ev.pos (by omega) ?_))), Ev.step (fun k => impl_HasWithdrawn.l0.eq_2 ..) (Ev.pos (by omega) (Ev.pos (by omega) (Ev.pos (by omega) ?_)))⟩
      · rw [rdG1 hi]
        unfold impl_plays.f at hp
        by_cases c1 : l[i].f0 = x
        · rw [if_pos c1] at hp
          obtain rfl := Option.some.inj hp
          exact Ev.pos c1 h1
        · rw [if_neg c1] at hp
          obtain rfl := Option.some.inj hp
          exact Ev.neg c1 h1
      · rw [rdG1 hi, hw]
        refine Ev.bind0 hp ?_
        by_cases c1 : p = true
        · rw [if_pos c1] at h2
          refine Ev.pos c1 ?_
          by_cases c2 : l[i].f4 = 4
          · rw [if_pos c2] at h2; exact Ev.pos c2 h2
          · rw [if_neg c2] at h2; rw [h2]; exact Ev.neg c2 (Ev.now _)
        · rw [if_neg c1] at h2
          exact Ev.neg c1 h2
    obtain ⟨p, hp⟩ : ∃ p, impl_plays.f l[i].f0 l[i].f1 l[i].f2 l[i].f3 l[i].f4 x = some p := by unfold impl_plays.f; split <;> exact ⟨_, rfl⟩
    cases p with
    | true =>
      by_cases c2 : l[i].f4 = 4
      · obtain ⟨v, v1, v2⟩ := hn (wrap64 (c + 1))
        refine key true hp v (Ev.step (fun k => spec_HasWithdrawn.j2.eq_2 ..) (Ev.neg (by simp) (Ev.pos c2 ?_))) (by rw [if_pos rfl, if_pos c2]; exact v2)
        rw [hw]; exact v1
      · exact key true hp false (Ev.step (fun k => spec_HasWithdrawn.j2.eq_2 ..) (Ev.neg (by simp) (Ev.neg c2 (Ev.now _)))) (by rw [if_pos rfl, if_neg c2])
    | false =>
      obtain ⟨v, v1, v2⟩ := hn c
      refine key false hp v (Ev.step (fun k => spec_HasWithdrawn.j2.eq_2 ..) (Ev.pos rfl ?_)) (by rw [if_neg (by simp)]; exact v2)
      rw [hw]; exact v1) (fun c => ⟨_, Ev.step (fun k => spec_HasWithdrawn.l0.eq_2 ..) (Ev.neg (by omega) (Ev.now _)), Ev.step (fun k => impl_HasWithdrawn.l0.eq_2 ..) (Ev.neg (by omega) (Ev.now _))⟩) l.length 0 (by omega)
  exact this 0
theorem hw_same (t : List T1) (a b c : Int) (o : List Int) (d : Bool) (g : List G1) (f q : List Int) (x : Int) (z1 : t.length ≤ 1048576) (zs : ∀ y ∈ t, y.f0.size ≤ 1048576) (z2 : o.length ≤ 1048576) (z3 : g.length ≤ 1048576) (z4 : f.length ≤ 1048576) (z5 : q.length ≤ 1048576) :
    ∃ v, Ev (fun k => spec_HasWithdrawn.f k t a b c o d g f q x) v ∧ Ev (fun k => impl_HasWithdrawn.f k t a b c o d g f q x) v := by
  have hs := spec_book t a b c o d g f q z1 zs z2 z3 z4 z5
  have hi := impl_book t a b c o d g f q z1 zs z2 z3 z4 z5
  have s0 : Ev (fun k => spec_HasWithdrawn.j0 k x true t a b c o d g f q) false := Ev.step (fun k => spec_HasWithdrawn.j0.eq_2 ..) (Ev.pos rfl (Ev.now _))
  have i0 : Ev (fun k => impl_HasWithdrawn.j0 k x true t a b c o d g f q) false := Ev.step (fun k => impl_HasWithdrawn.j0.eq_2 ..) (Ev.pos rfl (Ev.now _))
  unfold spec_HasWithdrawn.f impl_HasWithdrawn.f
  cases hb : bookB t a b c o g f q with
  | false =>
    rw [hb] at hs hi
    exact ⟨false, Ev.bind hs (Ev.neg (by simp) s0), Ev.bind hi (Ev.neg (by simp) i0)⟩
  | true =>
    rw [hb] at hs hi
    have ht : ∀ v, Ev (fun k => impl_HasWithdrawn.j0 k x (!decide (0 ≤ x ∧ x ≤ wrap64 ((t.length : Int) - 1))) t a b c o d g f q) v → Ev (fun k => (impl_isTeam.f t a b c o d g f q x).bind fun t313 => (impl_HasWithdrawn.j0 k x (!t313) t a b c o d g f q)) v := by
      intro v hv
      unfold impl_isTeam.f
      rw [impl_in, Option.bind_some]
      exact hv
    cases hx : decide (0 ≤ x ∧ x ≤ wrap64 ((t.length : Int) - 1)) with
    | false =>
      rw [hx] at ht
      exact ⟨false, Ev.bind hs (Ev.pos rfl (Ev.bind0 (spec_in _ _ _) (by rw [hx]; exact s0))), Ev.bind hi (Ev.pos rfl (ht _ i0))⟩
    | true =>
      rw [hx] at ht
      obtain ⟨v, v1, v2⟩ := hw_loop g x z3
      exact ⟨v, Ev.bind hs (Ev.pos rfl (Ev.bind0 (spec_in _ _ _) (by rw [hx]; exact Ev.step (fun k => spec_HasWithdrawn.j0.eq_2 ..) (Ev.neg (by simp) v1)))), Ev.bind hi (Ev.pos rfl (ht _ (Ev.step (fun k => impl_HasWithdrawn.j0.eq_2 ..) (Ev.neg (by simp) v2))))⟩
theorem FnExactHasWithdrawn.pure : ∀ (l0_0 : List (S97)) (a0_1 : Int) (a0_2 : Int) (a0_3 : Int) (l0_4 : List Int) (a0_5 : Bool) (l0_6 : List (S104)) (l0_7 : List Int) (l0_8 : List Int) (a1 : Int), (l0_0.length ≤ maxLen ∧ ∀ y ∈ l0_0, (y.f0.size ≤ maxLen ∧ (Lit.int .i64 y.f1).wf = true ∧ (Lit.int .i64 y.f2).wf = true)) → (Lit.int .i64 a0_1).wf = true → (Lit.int .i64 a0_2).wf = true → (Lit.int .i64 a0_3).wf = true → (l0_4.length ≤ maxLen ∧ ∀ y ∈ l0_4, (Lit.int .i64 y).wf = true) → (l0_6.length ≤ maxLen ∧ ∀ y ∈ l0_6, ((Lit.int .i64 y.f0).wf = true ∧ (Lit.int .i64 y.f1).wf = true ∧ (Lit.int .i64 y.f2).wf = true ∧ (Lit.int .i64 y.f3).wf = true ∧ (Lit.int .i64 y.f4).wf = true)) → (l0_7.length ≤ maxLen ∧ ∀ y ∈ l0_7, (Lit.int .i64 y).wf = true) → (l0_8.length ≤ maxLen ∧ ∀ y ∈ l0_8, (Lit.int .i64 y).wf = true) → (Lit.int .i64 a1).wf = true → ∃ k, laws_FnExactHasWithdrawn.f k l0_0 a0_1 a0_2 a0_3 l0_4 a0_5 l0_6 l0_7 l0_8 a1 = some true := by
  intro t a b c o d g f q x ht _ _ _ ho hg hf hq _
  refine Ev.rounds (g := fun k => laws_FnExactHasWithdrawn.f k t a b c o d g f q x) ?_
  obtain ⟨r, hr, hc⟩ := szBook_tells t a b c o d g f q 1048576 (by omega) (by omega) ht.1 (fun y hy => (ht.2 y hy).1) ho.1 hg.1 hf.1 hq.1
  by_cases c0 : r < 0
  · exact Ev.bind hr (Ev.pos c0 (Ev.now _))
  obtain ⟨r0, r1, hs⟩ := hc.resolve_left c0
  have h1 := toBook_same t a b c o d g f q hs
  obtain ⟨z1, z2, z3, z4, z5, z6⟩ := hs
  have l1 : (t.map tv).length ≤ 1048576 := by rw [List.length_map]; omega
  have l2 : (g.map gv).length ≤ 1048576 := by rw [List.length_map]; omega
  have ls : ∀ y ∈ t.map tv, y.f0.size ≤ 1048576 := by
    intro y hy
    obtain ⟨z, hz, rfl⟩ := List.mem_map.1 hy
    have := z2 z hz
    show z.f0.size ≤ 1048576
    omega
  obtain ⟨v, h3, h4⟩ := hw_same (t.map tv) a b c o d (g.map gv) f q x l1 ls (by omega) l2 (by omega) (by omega)
  have h5 := eqBook_self (t.map tv) a b c o d (g.map gv) f q l1 (by omega) l2 (by omega) (by omega)
  unfold laws_FnExactHasWithdrawn.f
  repeat (first
    | exact Ev.now _
    | (with_reducible refine Ev.bind hr ?_)
    | (with_reducible refine Ev.bind h1 ?_)
    | (with_reducible refine Ev.bind h3 ?_)
    | (with_reducible refine Ev.bind h4 ?_)
    | (with_reducible refine Ev.bind h5 ?_)
    | refine Ev.neg (by first | assumption | omega | exact bnot_ne_self) ?_
    | refine Ev.pos (by first | assumption | rfl | omega) ?_)
end Go.Proofs.Ytgalpgakdcfilaa.X
