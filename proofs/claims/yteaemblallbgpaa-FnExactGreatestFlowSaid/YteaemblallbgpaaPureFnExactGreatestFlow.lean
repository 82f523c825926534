/- The pure part of the law FnExactGreatestFlow: what program and reference compute is the same. Conditions: those of the row. -/
import Derived.Test.YteaemblallbgpaaFlowF
import Derived.Test.YteaemblallbgpaaLawNetM
import Derived.Test.YteaemblallbgpaaX37
namespace Go.Proofs.Yteaemblallbgpaa.X
set_option linter.unusedVariables false
set_option linter.unusedSimpArgs false
open Go.RowKit Go.Proofs.YteaemblallbgpaaW.PrintWords Go.Proofs.Yteaemblallbgpaa.PK
theorem FnExactGreatestFlow.pure : ∀ (a0_0 : Int) (l0_1 : List (S77)) (a1 : Int) (a2 : Int), (Lit.int .i64 a0_0).wf = true → (l0_1.length ≤ maxLen ∧ ∀ y ∈ l0_1, ((Lit.int .i64 y.f0).wf = true ∧ (Lit.int .i64 y.f1).wf = true ∧ (Lit.int .i64 y.f2).wf = true)) → (Lit.int .i64 a1).wf = true → (Lit.int .i64 a2).wf = true → ∃ k, laws_FnExactGreatestFlow.f k a0_0 l0_1 a1 a2 = some true := by
  intro n w a b _ hl _ _
  refine Ev.rounds (g := fun k => laws_FnExactGreatestFlow.f k n w a b) ?_
  obtain ⟨r, hr, hc⟩ := szNet_tells n w hl.1
  by_cases c : r < 0
  · exact Ev.bind0 hr (Ev.pos c (Ev.now _))
  have hw : w.length ≤ 1048576 := by omega
  have hwc : (w.map cv).length ≤ 1048576 := by simpa using hw
  have h1 := toNet_same n w hw
  have h2 := eqNet_self n (w.map cv) (by omega)
  obtain ⟨⟨v, d⟩, hv, h3, h4⟩ := gf_same n (w.map cv) a b (by omega)
  replace hv : v.length ≤ 120 := hv
  have h6 := eqIntS_self v (by omega)
  have h8 := markNet_marks n (w.map cv) hwc
  have h9 := markIntS_marks v 1 (by omega) (by omega)
  have h11 := heldIntS_marks 1 v.length (by omega) (by omega)
  unfold laws_FnExactGreatestFlow.f
  repeat (first
    | exact Ev.now _
    | (with_reducible refine Ev.bind0 hr ?_)
    | (with_reducible refine Ev.bind h1 ?_)
    | (with_reducible refine Ev.bind h2 ?_)
    | (with_reducible refine Ev.bind h3 ?_)
    | (with_reducible refine Ev.bind h4 ?_)
    | (with_reducible refine Ev.bind h6 ?_)
    | (with_reducible refine Ev.bind h8 ?_)
    | (with_reducible refine Ev.bind h9 ?_)
    | (with_reducible refine Ev.bind h11 ?_)
    | refine Ev.neg (by first | assumption | omega | exact bnot_ne_self) ?_
    | refine Ev.pos (by first | assumption | rfl | omega) ?_)
end Go.Proofs.Yteaemblallbgpaa.X
