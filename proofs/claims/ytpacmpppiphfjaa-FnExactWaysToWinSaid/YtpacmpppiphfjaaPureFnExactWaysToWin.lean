/- The pure part of the law FnExactWaysToWin: what program and reference compute is the same. Conditions: those of the row. -/
import Derived.Test.YtpacmpppiphfjaaCupB
import Derived.Test.YtpacmpppiphfjaaCupL
import Derived.Test.YtpacmpppiphfjaaX34
namespace Go.Proofs.Ytpacmpppiphfjaa.X
set_option linter.unusedVariables false
set_option linter.unusedSimpArgs false
open Go.RowKit Go.Proofs.YtpacmpppiphfjaaW.PrintWords Go.Proofs.Ytpacmpppiphfjaa.PK
theorem FnExactWaysToWin.pure : ∀ (a0_0 : Int) (l0_1 : List Int) (a1 : Int), (Lit.int .i64 a0_0).wf = true → (l0_1.length ≤ maxLen ∧ ∀ y ∈ l0_1, (Lit.int .i64 y).wf = true) → (Lit.int .i64 a1).wf = true → ∃ k, laws_FnExactWaysToWin.f k a0_0 l0_1 a1 = some true := by
  intro n w s _ hl _
  refine Ev.rounds (g := fun k => laws_FnExactWaysToWin.f k n w s) ?_
  obtain ⟨r, hr, hc⟩ := szCup_tells n w hl.1
  refine Ev.bind0 hr ?_
  by_cases c : r < 0
  · exact Ev.pos c (Ev.now _)
  · have hw : w.length ≤ 1048576 := by omega
    obtain ⟨v, h1, h2⟩ := ways_same n w s (by omega)
    exact Ev.neg c (Ev.bind (toCup_same n w hw) (Ev.bind h1 (Ev.bind (toCup_same n w hw) (Ev.bind h2 (Ev.pos rfl (Ev.bind (toCup_same n w hw) (Ev.bind (eqCup_self n w (by omega)) (Ev.pos rfl (Ev.now _)))))))))
end Go.Proofs.Ytpacmpppiphfjaa.X
