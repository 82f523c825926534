/- The pure part of the law FnExactSameBooks: what program and reference compute is the same. Conditions: those of the row. -/
import Derived.Test.YtmpealaejigbfaaLawBook
import Derived.Test.YtmpealaejigbfaaLawEq
import Derived.Test.YtmpealaejigbfaaX5
import Derived.Test.YtmpealaejigbfaaX7
import Derived.Test.YtmpealaejigbfaaX8
import Derived.Test.YtmpealaejigbfaaX12
import Derived.Test.YtmpealaejigbfaaX13
import Derived.Test.YtmpealaejigbfaaX14
import Derived.Test.YtmpealaejigbfaaX21
namespace Go.Proofs.Ytmpealaejigbfaa.X
set_option linter.unusedVariables false
set_option linter.unusedSimpArgs false
open Go.RowKit Go.Proofs.YtmpealaejigbfaaW.PrintWords Go.Proofs.Ytmpealaejigbfaa.PK
def neT (x y : T1) : Bool := (!((x.f0).toList == (y.f0).toList)) || ((!(x.f1 == y.f1)) || (!(x.f2 == y.f2)))
def neG (x y : G1) : Bool := (!(x.f0 == y.f0)) || ((!(x.f1 == y.f1)) || ((!(x.f2 == y.f2)) || ((!(x.f3 == y.f3)) || (!(x.f4 == y.f4)))))
def allT (a b : List T1) : Bool := (a.zip b).all (fun p => !neT p.1 p.2)
def allG (a b : List G1) : Bool := (a.zip b).all (fun p => !neG p.1 p.2)
theorem impl_teams (a b : List T1) (ha : a.length ≤ 1048576) : Ev (fun k => impl_Team.f k a b) (decide (a.length = b.length) && allT a b) := by
  unfold impl_Team.f
  by_cases c : a.length = b.length
  · rw [decide_eq_true c, Bool.true_and]
    refine Ev.pos (by omega) ?_
    have hz : (a.zip b).length = a.length := by simp [c]
    have := Ev.all (fun i k => impl_Team.l0 k a b (a.length : Int) (i : Int)) (a.zip b) (fun p => !neT p.1 p.2) true (fun i h t r hr => by
      have h1 : i < a.length := by omega
      have h2 : i < b.length := by omega
      refine Ev.step (fun k => impl_Team.l0.eq_2 ..) (Ev.pos (by omega) (Ev.pos (by omega) (Ev.pos (by omega) (Ev.pos (by omega) (Ev.neg ?_ ?_)))))
      · rw [rdT1 h1, rdT1 h2]; simp only [List.getElem_zip, Bool.not_eq_true'] at t; exact fun q => Bool.noConfusion (t.symm.trans q)
      · rw [w64s (by omega)]; exact hr) (fun i h t => by
      have h1 : i < a.length := by omega
      have h2 : i < b.length := by omega
      refine Ev.step (fun k => impl_Team.l0.eq_2 ..) (Ev.pos (by omega) (Ev.pos (by omega) (Ev.pos (by omega) (Ev.pos (by omega) (Ev.pos ?_ (Ev.now _))))))
      rw [rdT1 h1, rdT1 h2]; simp only [List.getElem_zip, Bool.not_eq_false'] at t; exact t) (by
      rw [hz]; exact Ev.step (fun k => impl_Team.l0.eq_2 ..) (Ev.neg (by omega) (Ev.now _)))
    rw [Bool.and_true] at this
    exact this
  · rw [decide_eq_false c, Bool.false_and]
    exact Ev.neg (by omega) (Ev.now _)
theorem impl_games (a b : List G1) (ha : a.length ≤ 1048576) : Ev (fun k => impl_Game.f k a b) (decide (a.length = b.length) && allG a b) := by
  unfold impl_Game.f
  by_cases c : a.length = b.length
  · rw [decide_eq_true c, Bool.true_and]
    refine Ev.pos (by omega) ?_
    have hz : (a.zip b).length = a.length := by simp [c]
    have := Ev.all (fun i k => impl_Game.l0 k a b (a.length : Int) (i : Int)) (a.zip b) (fun p => !neG p.1 p.2) true (fun i h t r hr => by
      have h1 : i < a.length := by omega
      have h2 : i < b.length := by omega
      refine Ev.step (fun k => impl_Game.l0.eq_2 ..) (Ev.pos (by omega) (Ev.pos (by omega) (Ev.pos (by omega) (Ev.pos (by omega) (Ev.neg ?_ ?_)))))
      · rw [rdG1 h1, rdG1 h2]; simp only [List.getElem_zip, Bool.not_eq_true'] at t; exact fun q => Bool.noConfusion (t.symm.trans q)
      · rw [w64s (by omega)]; exact hr) (fun i h t => by
      have h1 : i < a.length := by omega
      have h2 : i < b.length := by omega
      refine Ev.step (fun k => impl_Game.l0.eq_2 ..) (Ev.pos (by omega) (Ev.pos (by omega) (Ev.pos (by omega) (Ev.pos (by omega) (Ev.pos ?_ (Ev.now _))))))
      rw [rdG1 h1, rdG1 h2]; simp only [List.getElem_zip, Bool.not_eq_false'] at t; exact t) (by
      rw [hz]; exact Ev.step (fun k => impl_Game.l0.eq_2 ..) (Ev.neg (by omega) (Ev.now _)))
    rw [Bool.and_true] at this
    exact this
  · rw [decide_eq_false c, Bool.false_and]
    exact Ev.neg (by omega) (Ev.now _)
def rulesB (a b c : Int) (l : List Int) (d : Bool) (a' b' c' : Int) (l' : List Int) (d' : Bool) : Bool := decide (a = a') && (decide (b = b') && (decide (c = c') && ((d == d') && decide (l = l'))))
theorem impl_rules (a b c : Int) (l : List Int) (d : Bool) (a' b' c' : Int) (l' : List Int) (d' : Bool) (hl : l.length ≤ 1048576) (hl' : l'.length ≤ 1048576) : Ev (fun k => impl_SameRules.f k a b c l d a' b' c' l' d') (rulesB a b c l d a' b' c' l' d') := by
  unfold impl_SameRules.f rulesB
  by_cases h1 : a = a'
  · rw [decide_eq_true h1]
    refine Ev.pos h1 ?_
    by_cases h2 : b = b'
    · rw [decide_eq_true h2]
      refine Ev.pos h2 ?_
      by_cases h3 : c = c'
      · rw [decide_eq_true h3]
        refine Ev.pos h3 ?_
        cases h4 : (d == d') with
        | true => exact Ev.pos rfl (Ev.bind (equal_tells l l' (by omega) (by omega)) (Ev.now _))
        | false => exact Ev.neg (by simp) (Ev.now _)
      · rw [decide_eq_false h3]; exact Ev.neg h3 (Ev.now _)
    · rw [decide_eq_false h2]; exact Ev.neg h2 (Ev.now _)
  · rw [decide_eq_false h1]; exact Ev.neg h1 (Ev.now _)
theorem spec_rules (a b c : Int) (l : List Int) (d : Bool) (a' b' c' : Int) (l' : List Int) (d' : Bool) (hl : l.length ≤ 1048576) (hl' : l'.length ≤ 1048576) : Ev (fun k => spec_SameRules.f k a b c l d a' b' c' l' d') (rulesB a b c l d a' b' c' l' d') := by
  have hj : Ev (fun k => spec_SameRules.j0 k true a b c l d a' b' c' l' d') false := Ev.step (fun k => spec_SameRules.j0.eq_2 ..) (Ev.pos rfl (Ev.now _))
  unfold spec_SameRules.f rulesB
  by_cases h1 : a = a'
  · rw [decide_eq_true h1]
    refine Ev.pos h1 ?_
    by_cases h2 : b = b'
    · rw [decide_eq_true h2]
      refine Ev.pos h2 ?_
      by_cases h3 : c = c'
      · rw [decide_eq_true h3]
        refine Ev.pos h3 ?_
        cases h4 : (d == d') with
        | true =>
          refine Ev.neg (by simp [bne, h4]) ?_
          simp only [Bool.true_and]
          by_cases h5 : l.length = l'.length
          · refine Ev.step (fun k => spec_SameRules.j0.eq_2 ..) (Ev.neg (by simp [h5]) ?_)
            refine Ev.rows (fun i k => spec_SameRules.l0 k l (l.length : Int) (i : Int) a' b' c' l' d') l l' h5 (fun i h h' e r hr => ?_) (fun i h h' e => ?_) ?_
            · refine Ev.step (fun k => spec_SameRules.l0.eq_2 ..) (Ev.pos (by omega) (Ev.pos (by omega) (Ev.pos (by omega) (Ev.pos (by omega) (Ev.pos (by rw [rd_nat h, rd_nat h']; exact e) ?_)))))
              rw [w64s (by omega)]; exact hr
            · exact Ev.step (fun k => spec_SameRules.l0.eq_2 ..) (Ev.pos (by omega) (Ev.pos (by omega) (Ev.pos (by omega) (Ev.pos (by omega) (Ev.neg (by rw [rd_nat h, rd_nat h']; exact e) (Ev.now _))))))
            · exact Ev.step (fun k => spec_SameRules.l0.eq_2 ..) (Ev.neg (by omega) (Ev.now _))
          · rw [decide_eq_false (fun e => h5 (by rw [e]))]
            rw [show ((l.length : Int) != (l'.length : Int)) = true by simp; omega]
            exact hj
        | false =>
          exact Ev.pos (by simp [bne, h4]) hj
      · rw [decide_eq_false h3]; exact Ev.neg h3 hj
    · rw [decide_eq_false h2]; exact Ev.neg h2 hj
  · rw [decide_eq_false h1]; exact Ev.neg h1 hj
theorem spec_changed (t : List T1) (a b c : Int) (o : List Int) (d : Bool) (g : List G1) (f q : List Int) (t' : List T1) (a' b' c' : Int) (o' : List Int) (d' : Bool) (g' : List G1) (f' q' : List Int) (hg : g.length ≤ 1048576) :
    ∃ r, Ev (fun k => spec_ChangedGames.f k t a b c o d g f q t' a' b' c' o' d' g' f' q') r ∧ ((r.length : Int) == 0) = allG g g' := by
  have key := down (g := fun i => ∀ s : List Int, s.length ≤ i → ∃ r, Ev (fun k => spec_ChangedGames.l0 k s (i : Int) t a b c o d g f q t' a' b' c' o' d' g' f' q') r ∧ ((r.length : Int) == 0) = (((s.length : Int) == 0) && ((g.zip g').drop i).all (fun p => !neG p.1 p.2))) (n := (g.zip g').length) (fun i h hn s hs => by
    have h1 : i < g.length := by simp at h; omega
    have h2 : i < g'.length := by simp at h; omega
    have hm : (i : Int) < mn (g.length : Int) (g'.length : Int) := by unfold mn; omega
    rw [List.drop_eq_getElem_cons h, List.all_cons, List.getElem_zip]
    cases ht : neG g[i] g'[i] with
    | true =>
      obtain ⟨r, hr1, hr2⟩ := hn (s ++ [(i : Int)]) (by simp; omega)
      refine ⟨r, Ev.step (fun k => spec_ChangedGames.l0.eq_2 ..) (Ev.pos hm (Ev.pos (by omega) (Ev.pos (by omega) (Ev.pos (by omega) (Ev.pos ?_ (Ev.pos (by omega) ?_)))))), ?_⟩
      · rw [rdG1 h1, rdG1 h2]; exact ht
      · rw [w64s (by omega)]; exact hr1
      · rw [hr2]; simp; omega
    | false =>
      obtain ⟨r, hr1, hr2⟩ := hn s (by omega)
      refine ⟨r, Ev.step (fun k => spec_ChangedGames.l0.eq_2 ..) (Ev.pos hm (Ev.pos (by omega) (Ev.pos (by omega) (Ev.pos (by omega) (Ev.neg ?_ ?_))))), ?_⟩
      · rw [rdG1 h1, rdG1 h2]; exact fun q => Bool.noConfusion (ht.symm.trans q)
      · rw [w64s (by omega)]; exact hr1
      · rw [hr2]; simp) (fun s hs => ⟨s, Ev.step (fun k => spec_ChangedGames.l0.eq_2 ..) (Ev.neg (by simp [mn]; omega) (Ev.now _)), by rw [List.drop_length]; simp⟩) (g.zip g').length 0 (by omega) [] (by simp)
  simpa [allG, spec_ChangedGames.f] using key
def sameBk (t : List T1) (a b c : Int) (o : List Int) (d : Bool) (g : List G1) (f q : List Int) (t' : List T1) (a' b' c' : Int) (o' : List Int) (d' : Bool) (g' : List G1) (f' q' : List Int) : Bool :=
  (decide (t.length = t'.length) && allT t t') && (rulesB a b c o d a' b' c' o' d' && ((decide (g.length = g'.length) && allG g g') && (decide (f = f') && decide (q = q'))))
theorem impl_same (t : List T1) (a b c : Int) (o : List Int) (d : Bool) (g : List G1) (f q : List Int) (t' : List T1) (a' b' c' : Int) (o' : List Int) (d' : Bool) (g' : List G1) (f' q' : List Int)
    (h1 : t.length ≤ 1048576) (h2 : o.length ≤ 1048576) (h3 : o'.length ≤ 1048576) (h4 : g.length ≤ 1048576) (h5 : f.length ≤ 1048576) (h6 : f'.length ≤ 1048576) (h7 : q.length ≤ 1048576) (h8 : q'.length ≤ 1048576) :
    Ev (fun k => impl_SameBooks.f k t a b c o d g f q t' a' b' c' o' d' g' f' q') (sameBk t a b c o d g f q t' a' b' c' o' d' g' f' q') := by
  unfold impl_SameBooks.f sameBk
  refine Ev.bind (impl_teams t t' h1) ?_
  cases (decide (t.length = t'.length) && allT t t') with
  | false => exact Ev.neg (by simp) (Ev.now _)
  | true =>
    refine Ev.pos rfl (Ev.bind (impl_rules a b c o d a' b' c' o' d' h2 h3) ?_)
    cases rulesB a b c o d a' b' c' o' d' with
    | false => exact Ev.neg (by simp) (Ev.now _)
    | true =>
      refine Ev.pos rfl (Ev.bind (impl_games g g' h4) ?_)
      cases (decide (g.length = g'.length) && allG g g') with
      | false => exact Ev.neg (by simp) (Ev.now _)
      | true =>
        refine Ev.pos rfl (Ev.bind (equal_tells f f' (by omega) (by omega)) ?_)
        cases decide (f = f') with
        | false => exact Ev.neg (by simp) (Ev.now _)
        | true => exact Ev.pos rfl (Ev.bind (equal_tells q q' (by omega) (by omega)) (Ev.now _))
theorem spec_same (t : List T1) (a b c : Int) (o : List Int) (d : Bool) (g : List G1) (f q : List Int) (t' : List T1) (a' b' c' : Int) (o' : List Int) (d' : Bool) (g' : List G1) (f' q' : List Int)
    (h1 : t.length ≤ 1048576) (h2 : o.length ≤ 1048576) (h3 : o'.length ≤ 1048576) (h4 : g.length ≤ 1048576) (h5 : f.length ≤ 1048576) (h6 : f'.length ≤ 1048576) (h7 : q.length ≤ 1048576) (h8 : q'.length ≤ 1048576) :
    Ev (fun k => spec_SameBooks.f k t a b c o d g f q t' a' b' c' o' d' g' f' q') (sameBk t a b c o d g f q t' a' b' c' o' d' g' f' q') := by
  have hj : Ev (fun k => spec_SameBooks.j0 k true t a b c o d g f q t' a' b' c' o' d' g' f' q') false := Ev.step (fun k => spec_SameBooks.j0.eq_2 ..) (Ev.pos rfl (Ev.now _))
  unfold spec_SameBooks.f sameBk
  by_cases c1 : t.length = t'.length
  · rw [decide_eq_true c1, Bool.true_and]
    refine Ev.pos (by omega) ?_
    by_cases c2 : g.length = g'.length
    · rw [decide_eq_true c2, Bool.true_and]
      refine Ev.pos (by omega) (Ev.bind (spec_rules a b c o d a' b' c' o' d' h2 h3) ?_)
      cases rulesB a b c o d a' b' c' o' d' with
      | false => rw [Bool.false_and, Bool.and_false]; exact Ev.neg (by simp) hj
      | true =>
        rw [Bool.true_and]
        refine Ev.pos rfl (Ev.bind (l21_tells f f' (by omega) (by omega)) ?_)
        cases decide (f = f') with
        | false => rw [Bool.false_and, Bool.and_false, Bool.and_false]; exact Ev.neg (by simp) hj
        | true =>
          rw [Bool.true_and]
          refine Ev.pos rfl (Ev.bind (l21_tells q q' (by omega) (by omega)) ?_)
          cases decide (q = q') with
          | false => rw [Bool.and_false, Bool.and_false]; exact hj
          | true =>
            rw [Bool.and_true]
            refine Ev.step (fun k => spec_SameBooks.j0.eq_2 ..) (Ev.neg (by simp) ?_)
            have hz : (t.zip t').length = t.length := by simp [c1]
            refine Ev.all (fun i k => spec_SameBooks.l0 k t (t.length : Int) (i : Int) t a b c o d g f q t' a' b' c' o' d' g' f' q') (t.zip t') (fun p => !neT p.1 p.2) (allG g g') (fun i h e r hr => ?_) (fun i h e => ?_) ?_
            · have i1 : i < t.length := by omega
              have i2 : i < t'.length := by omega
              refine Ev.step (fun k => spec_SameBooks.l0.eq_2 ..) (Ev.pos (by omega) (Ev.pos (by omega) (Ev.pos (by omega) (Ev.pos (by omega) (Ev.neg ?_ ?_)))))
              · rw [rdT1 i1, rdT1 i2]; simp only [List.getElem_zip, Bool.not_eq_true'] at e; exact fun q => Bool.noConfusion (e.symm.trans q)
              · rw [w64s (by omega)]; exact hr
            · have i1 : i < t.length := by omega
              have i2 : i < t'.length := by omega
              refine Ev.step (fun k => spec_SameBooks.l0.eq_2 ..) (Ev.pos (by omega) (Ev.pos (by omega) (Ev.pos (by omega) (Ev.pos (by omega) (Ev.pos ?_ (Ev.now _))))))
              rw [rdT1 i1, rdT1 i2]; simp only [List.getElem_zip, Bool.not_eq_false'] at e; exact e
            · rw [hz]
              obtain ⟨r, hr1, hr2⟩ := spec_changed t a b c o d g f q t' a' b' c' o' d' g' f' q' h4
              rw [← hr2]
              exact Ev.step (fun k => spec_SameBooks.l0.eq_2 ..) (Ev.neg (by omega) (Ev.bind hr1 (Ev.now _)))
    · rw [decide_eq_false c2]
      simp only [Bool.false_and, Bool.and_false]
      exact Ev.neg (by omega) hj
  · rw [decide_eq_false c1]
    simp only [Bool.false_and]
    exact Ev.neg (by omega) hj
theorem FnExactSameBooks.pure : ∀ (l0_0 : List (S90)) (a0_1 : Int) (a0_2 : Int) (a0_3 : Int) (l0_4 : List Int) (a0_5 : Bool) (l0_6 : List (S40)) (l0_7 : List Int) (l0_8 : List Int) (l1_0 : List (S90)) (a1_1 : Int) (a1_2 : Int) (a1_3 : Int) (l1_4 : List Int) (a1_5 : Bool) (l1_6 : List (S40)) (l1_7 : List Int) (l1_8 : List Int), (l0_0.length ≤ maxLen ∧ ∀ y ∈ l0_0, (y.f0.size ≤ maxLen ∧ (Lit.int .i64 y.f1).wf = true ∧ (Lit.int .i64 y.f2).wf = true)) → (Lit.int .i64 a0_1).wf = true → (Lit.int .i64 a0_2).wf = true → (Lit.int .i64 a0_3).wf = true → (l0_4.length ≤ maxLen ∧ ∀ y ∈ l0_4, (Lit.int .i64 y).wf = true) → (l0_6.length ≤ maxLen ∧ ∀ y ∈ l0_6, ((Lit.int .i64 y.f0).wf = true ∧ (Lit.int .i64 y.f1).wf = true ∧ (Lit.int .i64 y.f2).wf = true ∧ (Lit.int .i64 y.f3).wf = true ∧ (Lit.int .i64 y.f4).wf = true)) → (l0_7.length ≤ maxLen ∧ ∀ y ∈ l0_7, (Lit.int .i64 y).wf = true) → (l0_8.length ≤ maxLen ∧ ∀ y ∈ l0_8, (Lit.int .i64 y).wf = true) → (l1_0.length ≤ maxLen ∧ ∀ y ∈ l1_0, (y.f0.size ≤ maxLen ∧ (Lit.int .i64 y.f1).wf = true ∧ (Lit.int .i64 y.f2).wf = true)) → (Lit.int .i64 a1_1).wf = true → (Lit.int .i64 a1_2).wf = true → (Lit.int .i64 a1_3).wf = true → (l1_4.length ≤ maxLen ∧ ∀ y ∈ l1_4, (Lit.int .i64 y).wf = true) → (l1_6.length ≤ maxLen ∧ ∀ y ∈ l1_6, ((Lit.int .i64 y.f0).wf = true ∧ (Lit.int .i64 y.f1).wf = true ∧ (Lit.int .i64 y.f2).wf = true ∧ (Lit.int .i64 y.f3).wf = true ∧ (Lit.int .i64 y.f4).wf = true)) → (l1_7.length ≤ maxLen ∧ ∀ y ∈ l1_7, (Lit.int .i64 y).wf = true) → (l1_8.length ≤ maxLen ∧ ∀ y ∈ l1_8, (Lit.int .i64 y).wf = true) → ∃ k, laws_FnExactSameBooks.f k l0_0 a0_1 a0_2 a0_3 l0_4 a0_5 l0_6 l0_7 l0_8 l1_0 a1_1 a1_2 a1_3 l1_4 a1_5 l1_6 l1_7 l1_8 = some true := by
  intro t a b c o d g f q t' a' b' c' o' d' g' f' q' ht _ _ _ ho hg hf hq ht' _ _ _ ho' hg' hf' hq'
  refine Ev.rounds (g := fun k => laws_FnExactSameBooks.f k t a b c o d g f q t' a' b' c' o' d' g' f' q') ?_
  obtain ⟨r, hr, hc⟩ := szBook_tells t a b c o d g f q 1048576 (by omega) (by omega) ht.1 (fun y hy => (ht.2 y hy).1) ho.1 hg.1 hf.1 hq.1
  by_cases c0 : r < 0
  · exact Ev.bind hr (Ev.pos c0 (Ev.now _))
  obtain ⟨r0, r1, hs⟩ := hc.resolve_left c0
  obtain ⟨s, hs', hc'⟩ := szBook_tells t' a' b' c' o' d' g' f' q' r r0 (by omega) ht'.1 (fun y hy => (ht'.2 y hy).1) ho'.1 hg'.1 hf'.1 hq'.1
  by_cases c1 : s < 0
  · exact Ev.bind hr (Ev.neg c0 (Ev.bind hs' (Ev.pos c1 (Ev.now _))))
  obtain ⟨s0, s1, hz⟩ := hc'.resolve_left c1
  have hz : Small 1048576 t' o' g' f' q' := ⟨by have := hz.1; omega, fun y hy => by have := hz.2.1 y hy; omega, by have := hz.2.2.1; omega, by have := hz.2.2.2.1; omega, by have := hz.2.2.2.2.1; omega, by have := hz.2.2.2.2.2; omega⟩
  have h1 := toBook_same t a b c o d g f q hs
  have h2 := toBook_same t' a' b' c' o' d' g' f' q' hz
  obtain ⟨z1, z2, z3, z4, z5, z6⟩ := hs
  obtain ⟨y1, y2, y3, y4, y5, y6⟩ := hz
  have l1 : (t.map tv).length ≤ 1048576 := by rw [List.length_map]; omega
  have l2 : (g.map gv).length ≤ 1048576 := by rw [List.length_map]; omega
  have l3 : (t'.map tv).length ≤ 1048576 := by rw [List.length_map]; omega
  have l4 : (g'.map gv).length ≤ 1048576 := by rw [List.length_map]; omega
  have h3 := spec_same (t.map tv) a b c o d (g.map gv) f q (t'.map tv) a' b' c' o' d' (g'.map gv) f' q' l1 (by omega) (by omega) l2 (by omega) (by omega) (by omega) (by omega)
  have h4 := impl_same (t.map tv) a b c o d (g.map gv) f q (t'.map tv) a' b' c' o' d' (g'.map gv) f' q' l1 (by omega) (by omega) l2 (by omega) (by omega) (by omega) (by omega)
  have h5 := eqBook_self (t.map tv) a b c o d (g.map gv) f q l1 (by omega) l2 (by omega) (by omega)
  have h6 := eqBook_self (t'.map tv) a' b' c' o' d' (g'.map gv) f' q' l3 (by omega) l4 (by omega) (by omega)
  unfold laws_FnExactSameBooks.f
  repeat (first
    | exact Ev.now _
    | (with_reducible refine Ev.bind hr ?_)
    | (with_reducible refine Ev.bind hs' ?_)
    | (with_reducible refine Ev.bind h1 ?_)
    | (with_reducible refine Ev.bind h2 ?_)
    | (with_reducible refine Ev.bind h3 ?_)
    | (with_reducible refine Ev.bind h4 ?_)
    | (with_reducible refine Ev.bind h5 ?_)
    | (with_reducible refine Ev.bind h6 ?_)
    | refine Ev.neg (by first | assumption | omega | exact bnot_ne_self) ?_
    | refine Ev.pos (by first | assumption | rfl | omega) ?_)
end Go.Proofs.Ytmpealaejigbfaa.X
