/- The pure part of the law FnExactQualified: what program and reference compute is the same. Conditions: those of the row. -/
import Derived.Test.YtaopcamaceddnaaContD
import Derived.Test.YtaopcamaceddnaaX29
namespace Go.Proofs.Ytaopcamaceddnaa.X
set_option linter.unusedVariables false
set_option linter.unusedSimpArgs false
open Go.RowKit Go.Proofs.YtaopcamaceddnaaW.PrintWords Go.Proofs.Ytaopcamaceddnaa.PK
theorem FnExactQualified.pure : ∀ (a0 : Int) (l1 : List (S52)), (Lit.int .i64 a0).wf = true → (l1.length ≤ maxLen ∧ ∀ y ∈ l1, ((y.f0.length ≤ maxLen ∧ ∀ yy ∈ y.f0, (Lit.int .i64 yy).wf = true) ∧ (Lit.int .i64 y.f1).wf = true ∧ (Lit.int .i64 y.f2).wf = true)) → ∃ k, laws_FnExactQualified.f k a0 l1 = some true := by
  intro n l _ hl
  refine Ev.rounds (g := fun k => laws_FnExactQualified.f k n l) ?_
  obtain ⟨r, hr, hc⟩ := szContestS_tells l hl.1 (fun y hy => (hl.2 y hy).1.1)
  by_cases c : r < 0
  · exact Ev.bind hr (Ev.pos c (Ev.now _))
  obtain ⟨hb, hi⟩ := hc.resolve_left c
  have hb1 : (l.map cv).length ≤ 1048576 := by simpa using hb
  have hi1 : ∀ y ∈ l.map cv, y.f0.length ≤ 1048576 := by
    intro y hy
    obtain ⟨z, hz, rfl⟩ := List.mem_map.1 hy
    exact hi z hz
  have h1 := toContestS_same l hb hi
  have h2 := eqContestS_self (l.map cv) hb1 hi1
  have h3 := spec_quali n (l.map cv) hb1 hi1
  have h4 := impl_quali n (l.map cv) hb1 hi1
  obtain ⟨hs, hj⟩ := outs_small (n := n) hb1 hi1
  obtain ⟨m, h5, hm⟩ := markContestS_some (l.map cv) hb1 hi1
  have h6 := eqIntSS_self (outsC n (l.map cv)) hs hj
  have h7 := markIntSS_marks (outsC n (l.map cv)) hs hj
  have h8 := heldIntSS_marks (outsC n (l.map cv)) hs hj
  have ht := totL_nonneg (outsC n (l.map cv))
  unfold laws_FnExactQualified.f
  repeat (first
    | exact Ev.now _
    | (with_reducible refine Ev.bind hr ?_)
    | (with_reducible refine Ev.bind h1 ?_)
    | (with_reducible refine Ev.bind h2 ?_)
    | (with_reducible refine Ev.bind h3 ?_)
    | (with_reducible refine Ev.bind h4 ?_)
    | (with_reducible refine Ev.bind h5 ?_)
    | (with_reducible refine Ev.bind h6 ?_)
    | (with_reducible refine Ev.bind h7 ?_)
    | (with_reducible refine Ev.bind h8 ?_)
    | refine Ev.neg (by first | assumption | omega | exact bnot_ne_self) ?_
    | refine Ev.pos (by first | assumption | rfl | omega) ?_)
end Go.Proofs.Ytaopcamaceddnaa.X
