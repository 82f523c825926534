/- The pure part of the law FnExactSourceSide: what program and reference compute is the same. Conditions: those of the row. -/
import Derived.Test.YteaemblallbgpaaFlowB
import Derived.Test.YteaemblallbgpaaLawNetM
import Derived.Test.YteaemblallbgpaaX27
import Derived.Test.YteaemblallbgpaaX29
import Derived.Test.YteaemblallbgpaaX32
namespace Go.Proofs.Yteaemblallbgpaa.X
set_option linter.unusedVariables false
set_option linter.unusedSimpArgs false
open Go.RowKit Go.Proofs.YteaemblallbgpaaW.PrintWords Go.Proofs.Yteaemblallbgpaa.PK
theorem reachR_len {n : Nat} {w : List P1} (hw : Ends n w) (f : List Int) : ∀ (m q : Nat) (s : BS), Bs n q s → (bfs w f m s).length = n
  | 0, _, _, h => h.1
  | m + 1, q, s, h => by
    simp only [bfs]
    by_cases c : s.2 = []
    · rw [if_pos c]; exact h.1
    · rw [if_neg c]
      have hp : 0 < s.2.length := List.length_pos_iff.2 c
      have h2 := h.2
      have h' : Bs n (q - 1) (s.1, s.2.drop 1) := ⟨h.1, by simp only [List.length_drop]; omega⟩
      exact reachR_len hw f m (q - 1) _ (Bs.inn hw h' f _ w.length (by omega))
theorem net_ends {n : Int} {w : List P1} (h : netB n w = true) : ∃ m : Nat, n = m ∧ 2 ≤ m ∧ Ends m w := by
  obtain ⟨h1, h2, _, h4⟩ := net_facts h
  refine ⟨n.toNat, by omega, by omega, by omega, h2, fun p hp => ?_⟩
  have := h4 p hp
  omega
theorem side_same (n : Int) (w : List P1) (a : Int) (f : List Int) (hw : w.length ≤ 1048576) (hf : f.length ≤ 1048576) :
    ∃ v : List Bool, v.length ≤ 40 ∧ Ev (fun k => spec_SourceSide.f k n w a f) v ∧ Ev (fun k => impl_SourceSide.f k n w a f) v := by
  have j1 : ∀ a n w, Ev (fun k => impl_SourceSide.j0 k a f true n w) ([] : List Bool) := fun a n w => Ev.step (fun k => impl_SourceSide.j0.eq_2 ..) (Ev.pos rfl (Ev.now _))
  unfold spec_SourceSide.f impl_SourceSide.f
  by_cases c : netB n w = true
  · obtain ⟨m, rfl, hm2, he⟩ := net_ends c
    have e1 := (net_facts c).2.2.1
    have hm := he.1
    by_cases c1 : 0 ≤ a ∧ a ≤ (m : Int) - 1
    · obtain ⟨a, rfl⟩ : ∃ b : Nat, a = b := ⟨a.toNat, by omega⟩
      by_cases c2 : (f.length : Int) = (w.length : Int)
      · have hlen : (reachR m w f a).length = m := reachR_len he f m m _ (bs0_bs (by omega))
        refine ⟨(reachR m w f a).map (·.f2), by simpa [hlen] using hm, ?_, ?_⟩
        · refine Ev.bind (spec_net _ w (by omega)) (Ev.pos c (Ev.bind0 (spec_in _ _ _) (Ev.pos (by rw [e1]; exact decide_eq_true c1) (Ev.pos c2 (Ev.bind (spec_reach_tells he f (by omega) a (by omega)) (Ev.now _))))))
        · refine Ev.bind (impl_net _ w (by omega)) (Ev.pos c (Ev.bind0 (impl_in _ _ _) (Ev.pos (by rw [e1]; exact decide_eq_true c1) ?_)))
          rw [show ((f.length : Int) != (w.length : Int)) = false by simpa using c2]
          refine Ev.step (fun k => impl_SourceSide.j0.eq_2 ..) (Ev.neg (by simp) (Ev.bind (impl_reach_tells he f (by omega) a (by omega)) ?_))
          generalize reachR m w f a = l at hlen
          have := Ev.iter (fun i k => impl_SourceSide.l0 k ((l.map (·.f2)).take i) l (l.length : Int) (i : Int)) l.length (l.map (·.f2)) (fun i hi h => by
            refine Ev.step (fun k => impl_SourceSide.l0.eq_2 ..) (Ev.pos (by omega) (Ev.pos (by omega) (Ev.pos (by omega) (Ev.pos (by simp; omega) ?_))))
            rw [w64s (by omega), rdh_nat hi]
            rw [take_snoc _ i (by simpa using hi), List.getElem_map] at h
            exact h) (by
            refine Ev.step (fun k => impl_SourceSide.l0.eq_2 ..) (Ev.neg (by omega) ?_)
            rw [List.take_of_length_le (by simp)]
            exact Ev.now _)
          simpa using this
      · refine ⟨[], by simp, Ev.bind (spec_net _ w (by omega)) (Ev.pos c (Ev.bind0 (spec_in _ _ _) (Ev.pos (by rw [e1]; exact decide_eq_true c1) (Ev.neg c2 (Ev.now _))))), Ev.bind (impl_net _ w (by omega)) (Ev.pos c (Ev.bind0 (impl_in _ _ _) (Ev.pos (by rw [e1]; exact decide_eq_true c1) ?_)))⟩
        rw [show ((f.length : Int) != (w.length : Int)) = true by simpa using c2]
        exact j1 _ _ _
    · exact ⟨[], by simp, Ev.bind (spec_net _ w (by omega)) (Ev.pos c (Ev.bind0 (spec_in _ _ _) (Ev.neg (by rw [e1, decide_eq_false c1]; simp) (Ev.now _)))), Ev.bind (impl_net _ w (by omega)) (Ev.pos c (Ev.bind0 (impl_in _ _ _) (Ev.neg (by rw [e1, decide_eq_false c1]; simp) (j1 _ _ _))))⟩
  · exact ⟨[], by simp, Ev.bind (spec_net _ w (by omega)) (Ev.neg c (Ev.now _)), Ev.bind (impl_net _ w (by omega)) (Ev.neg c (j1 _ _ _))⟩
theorem FnExactSourceSide.pure : ∀ (a0_0 : Int) (l0_1 : List (S77)) (a1 : Int) (l2 : List Int), (Lit.int .i64 a0_0).wf = true → (l0_1.length ≤ maxLen ∧ ∀ y ∈ l0_1, ((Lit.int .i64 y.f0).wf = true ∧ (Lit.int .i64 y.f1).wf = true ∧ (Lit.int .i64 y.f2).wf = true)) → (Lit.int .i64 a1).wf = true → (l2.length ≤ maxLen ∧ ∀ y ∈ l2, (Lit.int .i64 y).wf = true) → ∃ k, laws_FnExactSourceSide.f k a0_0 l0_1 a1 l2 = some true := by
  intro n w a f _ hl _ hf
  refine Ev.rounds (g := fun k => laws_FnExactSourceSide.f k n w a f) ?_
  by_cases cl : (f.length : Int) > 1048576
  · exact Ev.pos cl (Ev.now _)
  obtain ⟨r, hr, hc⟩ := szNet_tells n w hl.1
  by_cases c : r < 0
  · exact Ev.neg cl (Ev.bind0 hr (Ev.pos c (Ev.now _)))
  have hw : w.length ≤ 1048576 := by omega
  have hwc : (w.map cv).length ≤ 1048576 := by simpa using hw
  have h1 := toNet_same n w hw
  have h2 := eqNet_self n (w.map cv) (by omega)
  have h5 := toIntS_same f (by omega)
  have h6 := eqIntS_self f (by omega)
  obtain ⟨v, hv, h3, h4⟩ := side_same n (w.map cv) a f hwc (by omega)
  have h7 := eqBoolS_self v (by omega)
  have h8 := markNet_marks n (w.map cv) hwc
  have h9 := markIntS_marks f (1 + 3 * ((w.map cv).length : Int)) (by omega) (by omega)
  have h10 := markBoolS_marks v 1 (by omega) (by omega)
  have h11 := heldBoolS_marks 1 v.length (by omega) (by omega)
  unfold laws_FnExactSourceSide.f
  repeat (first
    | exact Ev.now _
    | (with_reducible refine Ev.bind0 hr ?_)
    | (with_reducible refine Ev.bind h1 ?_)
    | (with_reducible refine Ev.bind h2 ?_)
    | (with_reducible refine Ev.bind h3 ?_)
    | (with_reducible refine Ev.bind h4 ?_)
    | (with_reducible refine Ev.bind h5 ?_)
    | (with_reducible refine Ev.bind h6 ?_)
    | (with_reducible refine Ev.bind h7 ?_)
    | (with_reducible refine Ev.bind h8 ?_)
    | (with_reducible refine Ev.bind h9 ?_)
    | (with_reducible refine Ev.bind h10 ?_)
    | (with_reducible refine Ev.bind h11 ?_)
    | refine Ev.neg (by first | assumption | omega | exact bnot_ne_self) ?_
    | refine Ev.pos (by first | assumption | rfl | omega) ?_)
end Go.Proofs.Yteaemblallbgpaa.X
