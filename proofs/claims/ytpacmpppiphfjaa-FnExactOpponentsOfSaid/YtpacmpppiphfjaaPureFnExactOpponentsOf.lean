/- The pure part of the law FnExactOpponentsOf: what program and reference compute is the same. Conditions: those of the row. -/
import Derived.Test.YtpacmpppiphfjaaCupA
import Derived.Test.YtpacmpppiphfjaaCupL
import Derived.Test.YtpacmpppiphfjaaX16
namespace Go.Proofs.Ytpacmpppiphfjaa.X
set_option linter.unusedVariables false
set_option linter.unusedSimpArgs false
open Go.RowKit Go.Proofs.YtpacmpppiphfjaaW.PrintWords Go.Proofs.Ytpacmpppiphfjaa.PK
theorem FnExactOpponentsOf.pure : ∀ (a0_0 : Int) (l0_1 : List Int) (a1 : Int), (Lit.int .i64 a0_0).wf = true → (l0_1.length ≤ maxLen ∧ ∀ y ∈ l0_1, (Lit.int .i64 y).wf = true) → (Lit.int .i64 a1).wf = true → ∃ k, laws_FnExactOpponentsOf.f k a0_0 l0_1 a1 = some true := by
  intro n w g _ hl _
  refine Ev.rounds (g := fun k => laws_FnExactOpponentsOf.f k n w g) ?_
  obtain ⟨r, hr, hc⟩ := szCup_tells n w hl.1
  refine Ev.bind0 hr ?_
  by_cases c : r < 0
  · exact Ev.pos c (Ev.now _)
  · have hw : w.length ≤ 1048576 := by omega
    have hj : Ev (fun k => laws_FnExactOpponentsOf.j0 k ((opp n w g).2.2 != (opp n w g).2.2) n w n w) true := by
      refine Ev.step (f := fun k => (laws_toCup.f k n w).bind fun bt250 => ((laws_eqCup.f k n w bt250.1 bt250.2).bind fun t254 => (if t254 = true then (some true) else (some false)))) (fun k => by
        simp only [laws_FnExactOpponentsOf.j0]
        rw [if_neg (by simp)]) (Ev.bind (toCup_same n w hw) (Ev.bind (eqCup_self n w (by omega)) (Ev.pos rfl (Ev.now _))))
    exact Ev.neg c (Ev.bind (toCup_same n w hw) (Ev.bind (spec_opp n w g (by omega)) (Ev.bind (toCup_same n w hw) (Ev.bind (impl_opp n w g (by omega)) (Ev.pos rfl (Ev.pos rfl hj))))))
end Go.Proofs.Ytpacmpppiphfjaa.X
