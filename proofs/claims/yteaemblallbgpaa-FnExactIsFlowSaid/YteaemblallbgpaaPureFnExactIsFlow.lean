/- The pure part of the law FnExactIsFlow: what program and reference compute is the same. Conditions: those of the row. -/
import Derived.Test.YteaemblallbgpaaNetF
import Derived.Test.YteaemblallbgpaaX25
namespace Go.Proofs.Yteaemblallbgpaa.X
set_option linter.unusedVariables false
set_option linter.unusedSimpArgs false
open Go.RowKit Go.Proofs.YteaemblallbgpaaW.PrintWords Go.Proofs.Yteaemblallbgpaa.PK
theorem FnExactIsFlow.pure : ∀ (a0_0 : Int) (l0_1 : List (S77)) (a1 : Int) (a2 : Int) (l3 : List Int), (Lit.int .i64 a0_0).wf = true → (l0_1.length ≤ maxLen ∧ ∀ y ∈ l0_1, ((Lit.int .i64 y.f0).wf = true ∧ (Lit.int .i64 y.f1).wf = true ∧ (Lit.int .i64 y.f2).wf = true)) → (Lit.int .i64 a1).wf = true → (Lit.int .i64 a2).wf = true → (l3.length ≤ maxLen ∧ ∀ y ∈ l3, (Lit.int .i64 y).wf = true) → ∃ k, laws_FnExactIsFlow.f k a0_0 l0_1 a1 a2 l3 = some true := by
  intro n w a b f _ hl _ _ hf
  refine Ev.rounds (g := fun k => laws_FnExactIsFlow.f k n w a b f) ?_
  by_cases cl : (f.length : Int) > 1048576
  · exact Ev.pos cl (Ev.now _)
  obtain ⟨r, hr, hc⟩ := szNet_tells n w hl.1
  by_cases c : r < 0
  · exact Ev.neg cl (Ev.bind0 hr (Ev.pos c (Ev.now _)))
  have hw : w.length ≤ 1048576 := by omega
  have hwc : (w.map cv).length ≤ 1048576 := by simpa using hw
  have h1 := toNet_same n w hw
  have h2 := eqNet_self n (w.map cv) (by omega)
  have h3 := spec_flow n (w.map cv) a b f (by omega) (by omega)
  have h4 := impl_flow n (w.map cv) a b f (by omega) (by omega)
  have h5 := toIntS_same f (by omega)
  have h6 := eqIntS_self f (by omega)
  unfold laws_FnExactIsFlow.f
  repeat (first
    | exact Ev.now _
    | (with_reducible refine Ev.bind0 hr ?_)
    | (with_reducible refine Ev.bind h1 ?_)
    | (with_reducible refine Ev.bind h2 ?_)
    | (with_reducible refine Ev.bind h3 ?_)
    | (with_reducible refine Ev.bind h4 ?_)
    | (with_reducible refine Ev.bind h5 ?_)
    | (with_reducible refine Ev.bind h6 ?_)
    | refine Ev.neg (by first | assumption | omega | exact bnot_ne_self) ?_
    | refine Ev.pos (by first | assumption | rfl | omega) ?_)
end Go.Proofs.Yteaemblallbgpaa.X
