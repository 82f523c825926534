/- The pure part of the law FnExactChangedGames: what program and reference compute is the same. Conditions: those of the row. -/
import Derived.Test.YtmpealaejigbfaaLawBkMark
import Derived.Test.YtmpealaejigbfaaDelChanged
import Derived.Test.YtmpealaejigbfaaX12
import Derived.Test.YtmpealaejigbfaaX13
import Derived.Test.YtmpealaejigbfaaX14
import Derived.Test.YtmpealaejigbfaaX17
namespace Go.Proofs.Ytmpealaejigbfaa.X
set_option linter.unusedVariables false
set_option linter.unusedSimpArgs false
open Go.RowKit Go.Proofs.YtmpealaejigbfaaW.PrintWords Go.Proofs.Ytmpealaejigbfaa.PK
def eqG (x y : G1) : Bool := (x.f0 == y.f0) && ((x.f1 == y.f1) && ((x.f2 == y.f2) && ((x.f3 == y.f3) && (x.f4 == y.f4))))
def chg (g g' : List G1) : List Int := (marks 0 (min g.length g'.length)).filter (fun i => !eqG (rd_T47 g i) (rd_T47 g' i))
theorem chg_small (g g' : List G1) (h : g.length ≤ 1048576) : (chg g g').length ≤ 1048576 := by
  unfold chg
  have := List.length_filter_le (fun i => !eqG (rd_T47 g i) (rd_T47 g' i)) (marks 0 (min g.length g'.length))
  rw [marks_length] at this
  omega
theorem upTo_tells (n : Nat) (hn : n ≤ 1048576) : Ev (fun k => impl_upTo.f k (n : Int)) (marks 0 n) := by
  have := Ev.iter (fun i k => impl_upTo.l0 k (marks 0 i) (n : Int) (i : Int)) n (marks 0 n) (fun i h hr => by
    refine Ev.step (fun k => impl_upTo.l0.eq_2 ..) (Ev.pos (by omega) (Ev.pos (by rw [marks_length]; omega) ?_))
    rw [marks_succ, Int.zero_add] at hr
    rw [w64s (by omega)]
    exact hr) (Ev.step (fun k => impl_upTo.l0.eq_2 ..) (Ev.neg (by omega) (Ev.now _)))
  unfold impl_upTo.f
  rw [show mx (n : Int) 0 = (n : Int) by unfold mx; omega]
  exact this
theorem mn_min (a b : Nat) : mn (a : Int) (b : Int) = ((min a b : Nat) : Int) := by unfold mn; split <;> omega
theorem impl_chg (t : List T1) (a b c : Int) (o : List Int) (d : Bool) (g : List G1) (f q : List Int) (t' : List T1) (a' b' c' : Int) (o' : List Int) (d' : Bool) (g' : List G1) (f' q' : List Int) (hg : g.length ≤ 1048576) :
    Ev (fun k => impl_ChangedGames.f k t a b c o d g f q t' a' b' c' o' d' g' f' q') (chg g g') := by
  unfold impl_ChangedGames.f
  rw [mn_min]
  refine Ev.bind (upTo_tells _ (by omega)) (Ev.bind (Ev.pos (by rw [marks_length]; omega) ?_) (Ev.now _))
  refine slices_DeleteFunc_int_int_impl_ChangedGames_1.del_tells _ (fun i => eqG (rd_T47 g i) (rd_T47 g' i)) _ (fun y hy => ?_)
  obtain ⟨j, hj, rfl⟩ := List.mem_iff_getElem.1 hy
  rw [marks_length] at hj
  rw [marks_get _ _ _ hj]
  unfold impl_ChangedGames_1.f eqG
  exact Ev.pos (by omega) (Ev.pos (by omega) (Ev.pos (by omega) (Ev.now _)))
theorem spec_chg (t : List T1) (a b c : Int) (o : List Int) (d : Bool) (g : List G1) (f q : List Int) (t' : List T1) (a' b' c' : Int) (o' : List Int) (d' : Bool) (g' : List G1) (f' q' : List Int) (hg : g.length ≤ 1048576) :
    Ev (fun k => spec_ChangedGames.f k t a b c o d g f q t' a' b' c' o' d' g' f' q') (chg g g') := by
  have := Ev.iter (fun i k => spec_ChangedGames.l0 k ((marks 0 i).filter (fun i => !eqG (rd_T47 g i) (rd_T47 g' i))) (i : Int) t a b c o d g f q t' a' b' c' o' d' g' f' q') (min g.length g'.length) (chg g g') (fun i h hr => by
    rw [marks_succ, List.filter_append, Int.zero_add] at hr
    have hq := List.length_filter_le (fun i => !eqG (rd_T47 g i) (rd_T47 g' i)) (marks 0 i)
    rw [marks_length] at hq
    refine Ev.step (fun k => spec_ChangedGames.l0.eq_2 ..) (Ev.pos (by rw [mn_min]; omega) (Ev.pos (by omega) (Ev.pos (by omega) (Ev.pos (by omega) ?_))))
    rw [w64s (by omega)]
    cases ht : eqG (rd_T47 g (i : Int)) (rd_T47 g' (i : Int)) with
    | true =>
      rw [show [(i : Int)].filter (fun i => !eqG (rd_T47 g i) (rd_T47 g' i)) = [] by simp [ht], List.append_nil] at hr
      refine Ev.neg ?_ hr
      unfold eqG at ht
      simp only [Bool.and_eq_true] at ht
      obtain ⟨h1, h2, h3, h4, h5⟩ := ht
      rw [h1, h2, h3, h4, h5]
      decide
    | false =>
      rw [show [(i : Int)].filter (fun i => !eqG (rd_T47 g i) (rd_T47 g' i)) = [(i : Int)] by simp [ht]] at hr
      refine Ev.pos ?_ (Ev.pos (by omega) hr)
      have := congrArg not ht
      unfold eqG at this
      simp only [Bool.not_and, Bool.not_false] at this
      exact this) (Ev.step (fun k => spec_ChangedGames.l0.eq_2 ..) (Ev.neg (by rw [mn_min]; omega) (Ev.now _)))
  exact this
theorem FnExactChangedGames.pure : ∀ (l0_0 : List (S90)) (a0_1 : Int) (a0_2 : Int) (a0_3 : Int) (l0_4 : List Int) (a0_5 : Bool) (l0_6 : List (S40)) (l0_7 : List Int) (l0_8 : List Int) (l1_0 : List (S90)) (a1_1 : Int) (a1_2 : Int) (a1_3 : Int) (l1_4 : List Int) (a1_5 : Bool) (l1_6 : List (S40)) (l1_7 : List Int) (l1_8 : List Int), (l0_0.length ≤ maxLen ∧ ∀ y ∈ l0_0, (y.f0.size ≤ maxLen ∧ (Lit.int .i64 y.f1).wf = true ∧ (Lit.int .i64 y.f2).wf = true)) → (Lit.int .i64 a0_1).wf = true → (Lit.int .i64 a0_2).wf = true → (Lit.int .i64 a0_3).wf = true → (l0_4.length ≤ maxLen ∧ ∀ y ∈ l0_4, (Lit.int .i64 y).wf = true) → (l0_6.length ≤ maxLen ∧ ∀ y ∈ l0_6, ((Lit.int .i64 y.f0).wf = true ∧ (Lit.int .i64 y.f1).wf = true ∧ (Lit.int .i64 y.f2).wf = true ∧ (Lit.int .i64 y.f3).wf = true ∧ (Lit.int .i64 y.f4).wf = true)) → (l0_7.length ≤ maxLen ∧ ∀ y ∈ l0_7, (Lit.int .i64 y).wf = true) → (l0_8.length ≤ maxLen ∧ ∀ y ∈ l0_8, (Lit.int .i64 y).wf = true) → (l1_0.length ≤ maxLen ∧ ∀ y ∈ l1_0, (y.f0.size ≤ maxLen ∧ (Lit.int .i64 y.f1).wf = true ∧ (Lit.int .i64 y.f2).wf = true)) → (Lit.int .i64 a1_1).wf = true → (Lit.int .i64 a1_2).wf = true → (Lit.int .i64 a1_3).wf = true → (l1_4.length ≤ maxLen ∧ ∀ y ∈ l1_4, (Lit.int .i64 y).wf = true) → (l1_6.length ≤ maxLen ∧ ∀ y ∈ l1_6, ((Lit.int .i64 y.f0).wf = true ∧ (Lit.int .i64 y.f1).wf = true ∧ (Lit.int .i64 y.f2).wf = true ∧ (Lit.int .i64 y.f3).wf = true ∧ (Lit.int .i64 y.f4).wf = true)) → (l1_7.length ≤ maxLen ∧ ∀ y ∈ l1_7, (Lit.int .i64 y).wf = true) → (l1_8.length ≤ maxLen ∧ ∀ y ∈ l1_8, (Lit.int .i64 y).wf = true) → ∃ k, laws_FnExactChangedGames.f k l0_0 a0_1 a0_2 a0_3 l0_4 a0_5 l0_6 l0_7 l0_8 l1_0 a1_1 a1_2 a1_3 l1_4 a1_5 l1_6 l1_7 l1_8 = some true := by
  intro t a b c o d g f q t' a' b' c' o' d' g' f' q' ht _ _ _ ho hg hf hq ht' _ _ _ ho' hg' hf' hq'
  refine Ev.rounds (g := fun k => laws_FnExactChangedGames.f k t a b c o d g f q t' a' b' c' o' d' g' f' q') ?_
  obtain ⟨r, hr, hc⟩ := szBook_tells t a b c o d g f q 1048576 (by omega) (by omega) ht.1 (fun y hy => (ht.2 y hy).1) ho.1 hg.1 hf.1 hq.1
  by_cases c0 : r < 0
  · exact Ev.bind hr (Ev.pos c0 (Ev.now _))
  obtain ⟨r0, r1, hs⟩ := hc.resolve_left c0
  obtain ⟨s, hs', hc'⟩ := szBook_tells t' a' b' c' o' d' g' f' q' r r0 (by omega) ht'.1 (fun y hy => (ht'.2 y hy).1) ho'.1 hg'.1 hf'.1 hq'.1
  by_cases c1 : s < 0
  · exact Ev.bind hr (Ev.neg c0 (Ev.bind hs' (Ev.pos c1 (Ev.now _))))
  obtain ⟨s0, s1, hz⟩ := hc'.resolve_left c1
  have hz : Small 1048576 t' o' g' f' q' := ⟨by have := hz.1; omega, fun y hy => by have := hz.2.1 y hy; omega, by have := hz.2.2.1; omega, by have := hz.2.2.2.1; omega, by have := hz.2.2.2.2.1; omega, by have := hz.2.2.2.2.2; omega⟩
  have h1 := toBook_same t a b c o d g f q hs
  have h2 := toBook_same t' a' b' c' o' d' g' f' q' hz
  obtain ⟨z1, z2, z3, z4, z5, z6⟩ := hs
  obtain ⟨y1, y2, y3, y4, y5, y6⟩ := hz
  have l1 : (t.map tv).length ≤ 1048576 := by rw [List.length_map]; omega
  have l2 : (g.map gv).length ≤ 1048576 := by rw [List.length_map]; omega
  have l3 : (t'.map tv).length ≤ 1048576 := by rw [List.length_map]; omega
  have l4 : (g'.map gv).length ≤ 1048576 := by rw [List.length_map]; omega
  have h3 := spec_chg (t.map tv) a b c o d (g.map gv) f q (t'.map tv) a' b' c' o' d' (g'.map gv) f' q' l2
  have h4 := impl_chg (t.map tv) a b c o d (g.map gv) f q (t'.map tv) a' b' c' o' d' (g'.map gv) f' q' l2
  have h5 := eqBook_self (t.map tv) a b c o d (g.map gv) f q l1 (by omega) l2 (by omega) (by omega)
  have h6 := eqBook_self (t'.map tv) a' b' c' o' d' (g'.map gv) f' q' l3 (by omega) l4 (by omega) (by omega)
  obtain ⟨m1, hm1, p1, p2⟩ := markBook_some (t.map tv) a b c o d (g.map gv) f q 1 (by omega) (by omega) l1 (by omega) l2 (by omega) (by omega)
  obtain ⟨m2, hm2, p3, p4⟩ := markBook_some (t'.map tv) a' b' c' o' d' (g'.map gv) f' q' m1.1 p1 (by omega) l3 (by omega) l4 (by omega) (by omega)
  have hw := chg_small (g.map gv) (g'.map gv) l2
  have h7 := eqIntS_self (chg (g.map gv) (g'.map gv)) (by omega)
  have h8 := markIntS_marks (chg (g.map gv) (g'.map gv)) 1 (by omega) (by omega)
  have h9 := heldIntS_marks 1 (chg (g.map gv) (g'.map gv)).length (by omega) (by omega)
  unfold laws_FnExactChangedGames.f
  repeat (first
    | exact Ev.now _
    | (with_reducible refine Ev.bind hr ?_)
    | (with_reducible refine Ev.bind hs' ?_)
    | (with_reducible refine Ev.bind h1 ?_)
    | (with_reducible refine Ev.bind h2 ?_)
    | (with_reducible refine Ev.bind h3 ?_)
    | (with_reducible refine Ev.bind h4 ?_)
    | (with_reducible refine Ev.bind h5 ?_)
    | (with_reducible refine Ev.bind h6 ?_)
    | (with_reducible refine Ev.bind hm1 ?_)
    | (with_reducible refine Ev.bind hm2 ?_)
    | (with_reducible refine Ev.bind h7 ?_)
    | (with_reducible refine Ev.bind h8 ?_)
    | (with_reducible refine Ev.bind h9 ?_)
    | refine Ev.neg (by first | assumption | omega | exact bnot_ne_self) ?_
    | refine Ev.pos (by first | assumption | rfl | omega) ?_)
end Go.Proofs.Ytmpealaejigbfaa.X
