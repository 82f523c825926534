/- The pure part of the law FnExactActiveTeams: what program and reference compute is the same. Conditions: those of the row. -/
import Derived.Test.YtgalpgakdcfilaaBookB
import Derived.Test.YtgalpgakdcfilaaPK
import Derived.Test.YtgalpgakdcfilaaLawBkMark
import Derived.Test.YtgalpgakdcfilaaLawMark
import Derived.Test.YtgalpgakdcfilaaX37
import Derived.Test.YtgalpgakdcfilaaX38
import Derived.Test.YtgalpgakdcfilaaX39
import Derived.Test.YtgalpgakdcfilaaX40
import Derived.Test.YtgalpgakdcfilaaX41
import Derived.Test.YtgalpgakdcfilaaX45
namespace Go.Proofs.Ytgalpgakdcfilaa.X
set_option linter.unusedVariables false
set_option linter.unusedSimpArgs false
open Go.RowKit Go.Proofs.YtgalpgakdcfilaaW.PrintWords Go.Proofs.Ytgalpgakdcfilaa.PK
theorem hw_loop (l : List G1) (x : Int) (hl : l.length ≤ 1048576) : ∃ v, Ev (fun k => spec_HasWithdrawn.l0 k x 0 l (l.length : Int) 0) v ∧ Ev (fun k => impl_HasWithdrawn.l0 k x 0 l (l.length : Int) 0) v := by
  have := down (g := fun i => ∀ c : Int, ∃ v, Ev (fun k => spec_HasWithdrawn.l0 k x c l (l.length : Int) (i : Int)) v ∧ Ev (fun k => impl_HasWithdrawn.l0 k x c l (l.length : Int) (i : Int)) v) (n := l.length) (fun i hi hn c => by
    have hw : wrap64 ((i : Int) + 1) = ((i + 1 : Nat) : Int) := w64s (by omega)
    have key : ∀ (p : Bool), impl_plays.f l[i].f0 l[i].f1 l[i].f2 l[i].f3 l[i].f4 x = some p → ∀ v, Ev (fun k => spec_HasWithdrawn.j2 k x c l (l.length : Int) (i : Int) (!p) l[i].f0 l[i].f1 l[i].f2 l[i].f3 l[i].f4) v → (if p = true then (if l[i].f4 = 4 then Ev (fun k => impl_HasWithdrawn.l0 k x (wrap64 (c + 1)) l (l.length : Int) ((i + 1 : Nat) : Int)) v else v = false) else Ev (fun k => impl_HasWithdrawn.l0 k x c l (l.length : Int) ((i + 1 : Nat) : Int)) v) → ∃ v, Ev (fun k => spec_HasWithdrawn.l0 k x c l (l.length : Int) (i : Int)) v ∧ Ev (fun k => impl_HasWithdrawn.l0 k x c l (l.length : Int) (i : Int)) v := by
      intro p hp v h1 h2
      refine ⟨v, Ev.step (fun k => spec_HasWithdrawn.l0.eq_2 ..) (Ev.pos (by omega) (Ev.pos (by omega) (Ev.pos (by omega) ?_))), Ev.step (fun k => impl_HasWithdrawn.l0.eq_2 ..) (Ev.pos (by omega) (Ev.pos (by omega) (Ev.pos (by omega) ?_)))⟩
      · rw [rdG1 hi]
        unfold impl_plays.f at hp
        by_cases c1 : l[i].f0 = x
        · rw [if_pos c1] at hp
          obtain rfl := Option.some.inj hp
          exact Ev.pos c1 h1
        · rw [if_neg c1] at hp
          obtain rfl := Option.some.inj hp
          exact Ev.neg c1 h1
      · rw [rdG1 hi, hw]
        refine Ev.bind0 hp ?_
        by_cases c1 : p = true
        · rw [if_pos c1] at h2
          refine Ev.pos c1 ?_
          by_cases c2 : l[i].f4 = 4
          · rw [if_pos c2] at h2; exact Ev.pos c2 h2
          · rw [if_neg c2] at h2; rw [h2]; exact Ev.neg c2 (Ev.now _)
        · rw [if_neg c1] at h2
          exact Ev.neg c1 h2
    obtain ⟨p, hp⟩ : ∃ p, impl_plays.f l[i].f0 l[i].f1 l[i].f2 l[i].f3 l[i].f4 x = some p := by unfold impl_plays.f; split <;> exact ⟨_, rfl⟩
    cases p with
    | true =>
      by_cases c2 : l[i].f4 = 4
      · obtain ⟨v, v1, v2⟩ := hn (wrap64 (c + 1))
        refine key true hp v (Ev.step (fun k => spec_HasWithdrawn.j2.eq_2 ..) (Ev.neg (by simp) (Ev.pos c2 ?_))) (by rw [if_pos rfl, if_pos c2]; exact v2)
        rw [hw]; exact v1
      · exact key true hp false (Ev.step (fun k => spec_HasWithdrawn.j2.eq_2 ..) (Ev.neg (by simp) (Ev.neg c2 (Ev.now _)))) (by rw [if_pos rfl, if_neg c2])
    | false =>
      obtain ⟨v, v1, v2⟩ := hn c
      refine key false hp v (Ev.step (fun k => spec_HasWithdrawn.j2.eq_2 ..) (Ev.pos rfl ?_)) (by rw [if_neg (by simp)]; exact v2)
      rw [hw]; exact v1) (fun c => ⟨_, Ev.step (fun k => spec_HasWithdrawn.l0.eq_2 ..) (Ev.neg (by omega) (Ev.now _)), Ev.step (fun k => impl_HasWithdrawn.l0.eq_2 ..) (Ev.neg (by omega) (Ev.now _))⟩) l.length 0 (by omega)
  exact this 0
theorem hw_same (t : List T1) (a b c : Int) (o : List Int) (d : Bool) (g : List G1) (f q : List Int) (x : Int) (z1 : t.length ≤ 1048576) (zs : ∀ y ∈ t, y.f0.size ≤ 1048576) (z2 : o.length ≤ 1048576) (z3 : g.length ≤ 1048576) (z4 : f.length ≤ 1048576) (z5 : q.length ≤ 1048576) :
    ∃ v, Ev (fun k => spec_HasWithdrawn.f k t a b c o d g f q x) v ∧ Ev (fun k => impl_HasWithdrawn.f k t a b c o d g f q x) v := by
  have hs := spec_book t a b c o d g f q z1 zs z2 z3 z4 z5
  have hi := impl_book t a b c o d g f q z1 zs z2 z3 z4 z5
  have s0 : Ev (fun k => spec_HasWithdrawn.j0 k x true t a b c o d g f q) false := Ev.step (fun k => spec_HasWithdrawn.j0.eq_2 ..) (Ev.pos rfl (Ev.now _))
  have i0 : Ev (fun k => impl_HasWithdrawn.j0 k x true t a b c o d g f q) false := Ev.step (fun k => impl_HasWithdrawn.j0.eq_2 ..) (Ev.pos rfl (Ev.now _))
  unfold spec_HasWithdrawn.f impl_HasWithdrawn.f
  cases hb : bookB t a b c o g f q with
  | false =>
    rw [hb] at hs hi
    exact ⟨false, Ev.bind hs (Ev.neg (by simp) s0), Ev.bind hi (Ev.neg (by simp) i0)⟩
  | true =>
    rw [hb] at hs hi
    have ht : ∀ v, Ev (fun k => impl_HasWithdrawn.j0 k x (!decide (0 ≤ x ∧ x ≤ wrap64 ((t.length : Int) - 1))) t a b c o d g f q) v → Ev (fun k => (impl_isTeam.f t a b c o d g f q x).bind fun t313 => (impl_HasWithdrawn.j0 k x (!t313) t a b c o d g f q)) v := by
      intro v hv
      unfold impl_isTeam.f
      rw [impl_in, Option.bind_some]
      exact hv
    cases hx : decide (0 ≤ x ∧ x ≤ wrap64 ((t.length : Int) - 1)) with
    | false =>
      rw [hx] at ht
      exact ⟨false, Ev.bind hs (Ev.pos rfl (Ev.bind0 (spec_in _ _ _) (by rw [hx]; exact s0))), Ev.bind hi (Ev.pos rfl (ht _ i0))⟩
    | true =>
      rw [hx] at ht
      obtain ⟨v, v1, v2⟩ := hw_loop g x z3
      exact ⟨v, Ev.bind hs (Ev.pos rfl (Ev.bind0 (spec_in _ _ _) (by rw [hx]; exact Ev.step (fun k => spec_HasWithdrawn.j0.eq_2 ..) (Ev.neg (by simp) v1)))), Ev.bind hi (Ev.pos rfl (ht _ (Ev.step (fun k => impl_HasWithdrawn.j0.eq_2 ..) (Ev.neg (by simp) v2))))⟩
theorem slices_DeleteFunc_int_int_impl_ActiveTeams_1.del_tells (p : Nat → Int → Option Bool) (t : Int → Bool) (xs : List Int) (hp : ∀ x ∈ xs, Ev (fun k => p k x) (t x)) : Ev (fun k => slices_DeleteFunc_int_int_impl_ActiveTeams_1.del p k xs) (xs.filter (fun x => !t x)) := by
  have hix := down (g := fun i => ∃ r : Int, Ev (fun k => slices_DeleteFunc_int_int_impl_ActiveTeams_1.ix p k xs i) r ∧ ((r = -1 ∧ ∀ j (h : j < xs.length), i ≤ j → t xs[j] = false) ∨ ∃ m, ∃ hm : m < xs.length, i ≤ m ∧ r = (m : Int) ∧ t xs[m] = true ∧ ∀ j (h : j < xs.length), i ≤ j → j < m → t xs[j] = false)) (n := xs.length) (fun i h hn => by
    have hg : xs.getD i 0 = xs[i] := by simp [List.getD_eq_getElem?_getD, h]
    have hpi := hp _ (List.getElem_mem h)
    rw [← hg] at hpi
    cases ht : t xs[i] with
    | true =>
      refine ⟨(i : Int), Ev.step (fun k => slices_DeleteFunc_int_int_impl_ActiveTeams_1.ix.eq_2 ..) (Ev.pos h (Ev.bind hpi (Ev.pos (by rw [hg]; exact ht) (Ev.now _)))), .inr ⟨i, h, Nat.le_refl _, rfl, ht, fun j _ h1 h2 => by omega⟩⟩
    | false =>
      obtain ⟨r, h1, h2⟩ := hn
      refine ⟨r, Ev.step (fun k => slices_DeleteFunc_int_int_impl_ActiveTeams_1.ix.eq_2 ..) (Ev.pos h (Ev.bind hpi (Ev.neg (by rw [hg, ht]; simp) h1))), ?_⟩
      rcases h2 with ⟨e, ha⟩ | ⟨m, hm, h3, e, h4, ha⟩
      · refine .inl ⟨e, fun j hj hij => ?_⟩
        by_cases c : j = i
        · subst c; exact ht
        · exact ha j hj (by omega)
      · refine .inr ⟨m, hm, by omega, e, h4, fun j hj hij hjm => ?_⟩
        by_cases c : j = i
        · subst c; exact ht
        · exact ha j hj (by omega) hjm) ⟨-1, Ev.step (fun k => slices_DeleteFunc_int_int_impl_ActiveTeams_1.ix.eq_2 ..) (Ev.neg (by omega) (Ev.now _)), .inl ⟨rfl, fun j hj hij => by omega⟩⟩ xs.length 0 (by omega)
  have key := down (g := fun j => ∀ (ys : List Int) (i : Nat), ys.length = xs.length → i < j → ys.take i = (xs.take j).filter (fun x => !t x) → ys.drop j = xs.drop j → Ev (fun k => slices_DeleteFunc_int_int_impl_ActiveTeams_1.dl p k ys i j) (xs.filter (fun x => !t x))) (n := xs.length) (fun j h hn ys i hl hi ht hd => by
    have h' : j < ys.length := by omega
    have hg : ys.getD j 0 = xs[j] := by
      rw [List.drop_eq_getElem_cons h, List.drop_eq_getElem_cons h'] at hd
      rw [← (List.cons.inj hd).1]
      simp [List.getD_eq_getElem?_getD, h']
    have hd' : ys.drop (j + 1) = xs.drop (j + 1) := by
      rw [List.drop_eq_getElem_cons h, List.drop_eq_getElem_cons h'] at hd
      exact (List.cons.inj hd).2
    refine Ev.step (fun k => slices_DeleteFunc_int_int_impl_ActiveTeams_1.dl.eq_2 ..) (Ev.pos h' ?_)
    rw [hg]
    refine Ev.bind (hp _ (List.getElem_mem h)) ?_
    cases hq : t xs[j] with
    | true =>
      exact Ev.pos rfl (hn ys i hl (by omega) (by rw [take_snoc xs j h, List.filter_append, ht]; simp [hq]) hd')
    | false =>
      refine Ev.neg (by simp) (Ev.pos (by omega) (hn (ys.set i xs[j]) (i + 1) (by simpa using hl) (by omega) ?_ ?_))
      · rw [take_snoc xs j h, List.filter_append, ← ht, take_snoc _ i (by simp; omega), List.take_set, List.set_eq_of_length_le (by rw [List.length_take]; omega)]
        simp [hq]
      · rw [List.drop_set_of_lt (by omega)]; exact hd') (fun ys i hl hi ht hd => by
    refine Ev.step (fun k => slices_DeleteFunc_int_int_impl_ActiveTeams_1.dl.eq_2 ..) (Ev.neg (by omega) (Ev.pos (by omega) ?_))
    rw [ht, List.take_of_length_le (Nat.le_refl _)]
    exact Ev.now _)
  obtain ⟨r, h1, h2⟩ := hix
  refine Ev.bind h1 ?_
  rcases h2 with ⟨rfl, ha⟩ | ⟨m, hm, _, rfl, h4, ha⟩
  · have e : xs.filter (fun x => !t x) = xs := by
      rw [List.filter_eq_self]
      intro x hx
      obtain ⟨j, hj, rfl⟩ := List.mem_iff_getElem.1 hx
      simp [ha j hj (by omega)]
    rw [e]
    exact Ev.pos rfl (Ev.now _)
  · refine Ev.neg (by omega) (Ev.pos (by omega) ?_)
    rw [Int.toNat_natCast]
    refine key (xs.length - (m + 1)) (m + 1) (by omega) xs m rfl (by omega) ?_ rfl
    rw [take_snoc xs m hm, List.filter_append]
    have e : (xs.take m).filter (fun x => !t x) = xs.take m := by
      rw [List.filter_eq_self]
      intro x hx
      obtain ⟨j, hj, rfl⟩ := List.mem_iff_getElem.1 hx
      simp only [List.length_take] at hj
      rw [List.getElem_take]
      simp [ha j (by omega) (by omega) (by omega)]
    rw [e]
    simp [h4]
theorem upTo_tells (n : Nat) (hn : n ≤ 1048576) : Ev (fun k => impl_upTo.f k (n : Int)) (marks 0 n) := by
  have := Ev.iter (fun i k => impl_upTo.l0 k (marks 0 i) (n : Int) (i : Int)) n (marks 0 n) (fun i h hr => by
    refine Ev.step (fun k => impl_upTo.l0.eq_2 ..) (Ev.pos (by omega) (Ev.pos (by rw [marks_length]; omega) ?_))
    rw [marks_succ, Int.zero_add] at hr
    rw [w64s (by omega)]
    exact hr) (Ev.step (fun k => impl_upTo.l0.eq_2 ..) (Ev.neg (by omega) (Ev.now _)))
  unfold impl_upTo.f
  rw [show mx (n : Int) 0 = (n : Int) by unfold mx; omega]
  exact this
theorem at_same (t : List T1) (a b c : Int) (o : List Int) (d : Bool) (g : List G1) (f q : List Int) (z1 : t.length ≤ 1048576) (zs : ∀ y ∈ t, y.f0.size ≤ 1048576) (z2 : o.length ≤ 1048576) (z3 : g.length ≤ 1048576) (z4 : f.length ≤ 1048576) (z5 : q.length ≤ 1048576) :
    ∃ v : List Int, v.length ≤ 1048576 ∧ Ev (fun k => spec_ActiveTeams.f k t a b c o d g f q) v ∧ Ev (fun k => impl_ActiveTeams.f k t a b c o d g f q) v := by
  have hs := spec_book t a b c o d g f q z1 zs z2 z3 z4 z5
  have hi := impl_book t a b c o d g f q z1 zs z2 z3 z4 z5
  have hx := fun x => hw_same t a b c o d g f q x z1 zs z2 z3 z4 z5
  obtain ⟨W, hW⟩ : ∃ W : Int → Bool, ∀ x, Ev (fun k => spec_HasWithdrawn.f k t a b c o d g f q x) (W x) ∧ Ev (fun k => impl_HasWithdrawn.f k t a b c o d g f q x) (W x) := ⟨fun x => Classical.choose (hx x), fun x => Classical.choose_spec (hx x)⟩
  unfold spec_ActiveTeams.f impl_ActiveTeams.f
  cases hb : bookB t a b c o g f q with
  | false =>
    rw [hb] at hs hi
    exact ⟨[], by simp, Ev.bind hs (Ev.neg (by simp) (Ev.now _)), Ev.bind hi (Ev.neg (by simp) (Ev.now _))⟩
  | true =>
    rw [hb] at hs hi
    have hl : ((marks 0 t.length).filter (fun x => !W x)).length ≤ 1048576 := by
      have hq := List.length_filter_le (fun x => !W x) (marks 0 t.length)
      rw [marks_length] at hq
      omega
    refine ⟨(marks 0 t.length).filter (fun x => !W x), hl, Ev.bind hs (Ev.pos rfl ?_), Ev.bind hi (Ev.pos rfl (Ev.bind (upTo_tells _ z1) (Ev.bind (?_) (Ev.now _))))⟩
    · exact Ev.iter (fun i k => spec_ActiveTeams.l0 k ((marks 0 i).filter (fun x => !W x)) (t.length : Int) (i : Int) t a b c o d g f q) t.length _ (fun i h hr => by
        rw [marks_succ, List.filter_append, Int.zero_add] at hr
        have hq := List.length_filter_le (fun x => !W x) (marks 0 i)
        rw [marks_length] at hq
        refine Ev.step (fun k => spec_ActiveTeams.l0.eq_2 ..) (Ev.pos (by omega) (Ev.bind (hW (i : Int)).1 ?_))
        rw [w64s (by omega)]
        cases ht : W (i : Int) with
        | true =>
          rw [show [(i : Int)].filter (fun x => !W x) = [] by simp [ht], List.append_nil] at hr
          exact Ev.pos rfl hr
        | false =>
          rw [show [(i : Int)].filter (fun x => !W x) = [(i : Int)] by simp [ht]] at hr
          exact Ev.neg (by simp) (Ev.pos (by omega) hr)) (Ev.step (fun k => spec_ActiveTeams.l0.eq_2 ..) (Ev.neg (by omega) (Ev.now _)))
    · unfold slices_DeleteFunc_int_int_impl_ActiveTeams_1.f
      refine Ev.pos (by rw [marks_length]; omega) (slices_DeleteFunc_int_int_impl_ActiveTeams_1.del_tells _ W _ (fun y hy => ?_))
      unfold impl_ActiveTeams_1.f
      exact Ev.bind (hW y).2 (Ev.now _)
theorem FnExactActiveTeams.pure : ∀ (l0_0 : List (S97)) (a0_1 : Int) (a0_2 : Int) (a0_3 : Int) (l0_4 : List Int) (a0_5 : Bool) (l0_6 : List (S104)) (l0_7 : List Int) (l0_8 : List Int), (l0_0.length ≤ maxLen ∧ ∀ y ∈ l0_0, (y.f0.size ≤ maxLen ∧ (Lit.int .i64 y.f1).wf = true ∧ (Lit.int .i64 y.f2).wf = true)) → (Lit.int .i64 a0_1).wf = true → (Lit.int .i64 a0_2).wf = true → (Lit.int .i64 a0_3).wf = true → (l0_4.length ≤ maxLen ∧ ∀ y ∈ l0_4, (Lit.int .i64 y).wf = true) → (l0_6.length ≤ maxLen ∧ ∀ y ∈ l0_6, ((Lit.int .i64 y.f0).wf = true ∧ (Lit.int .i64 y.f1).wf = true ∧ (Lit.int .i64 y.f2).wf = true ∧ (Lit.int .i64 y.f3).wf = true ∧ (Lit.int .i64 y.f4).wf = true)) → (l0_7.length ≤ maxLen ∧ ∀ y ∈ l0_7, (Lit.int .i64 y).wf = true) → (l0_8.length ≤ maxLen ∧ ∀ y ∈ l0_8, (Lit.int .i64 y).wf = true) → ∃ k, laws_FnExactActiveTeams.f k l0_0 a0_1 a0_2 a0_3 l0_4 a0_5 l0_6 l0_7 l0_8 = some true := by
  intro t a b c o d g f q ht _ _ _ ho hg hf hq
  refine Ev.rounds (g := fun k => laws_FnExactActiveTeams.f k t a b c o d g f q) ?_
  obtain ⟨r, hr, hc⟩ := szBook_tells t a b c o d g f q 1048576 (by omega) (by omega) ht.1 (fun y hy => (ht.2 y hy).1) ho.1 hg.1 hf.1 hq.1
  by_cases c0 : r < 0
  · exact Ev.bind hr (Ev.pos c0 (Ev.now _))
  obtain ⟨r0, r1, hs⟩ := hc.resolve_left c0
  have h1 := toBook_same t a b c o d g f q hs
  obtain ⟨z1, z2, z3, z4, z5, z6⟩ := hs
  have l1 : (t.map tv).length ≤ 1048576 := by rw [List.length_map]; omega
  have l2 : (g.map gv).length ≤ 1048576 := by rw [List.length_map]; omega
  have ls : ∀ y ∈ t.map tv, y.f0.size ≤ 1048576 := by
    intro y hy
    obtain ⟨z, hz, rfl⟩ := List.mem_map.1 hy
    have := z2 z hz
    show z.f0.size ≤ 1048576
    omega
  obtain ⟨v, v0, h3, h4⟩ := at_same (t.map tv) a b c o d (g.map gv) f q l1 ls (by omega) l2 (by omega) (by omega)
  have h5 := eqBook_self (t.map tv) a b c o d (g.map gv) f q l1 (by omega) l2 (by omega) (by omega)
  obtain ⟨m1, hm1, p1, p2⟩ := markBook_some (t.map tv) a b c o d (g.map gv) f q 1 (by omega) (by omega) l1 (by omega) l2 (by omega) (by omega)
  have h7 := eqIntS_self v (by omega)
  have h8 := markIntS_marks v 1 (by omega) (by omega)
  have h9 := heldIntS_marks 1 v.length (by omega) (by omega)
  unfold laws_FnExactActiveTeams.f
  repeat (first
    | exact Ev.now _
    | (with_reducible refine Ev.bind hr ?_)
    | (with_reducible refine Ev.bind h1 ?_)
    | (with_reducible refine Ev.bind h3 ?_)
    | (with_reducible refine Ev.bind h4 ?_)
    | (with_reducible refine Ev.bind h5 ?_)
    | (with_reducible refine Ev.bind hm1 ?_)
    | (with_reducible refine Ev.bind h7 ?_)
    | (with_reducible refine Ev.bind h8 ?_)
    | (with_reducible refine Ev.bind h9 ?_)
    | refine Ev.neg (by first | assumption | omega | exact bnot_ne_self) ?_
    | refine Ev.pos (by first | assumption | rfl | omega) ?_)
end Go.Proofs.Ytgalpgakdcfilaa.X
