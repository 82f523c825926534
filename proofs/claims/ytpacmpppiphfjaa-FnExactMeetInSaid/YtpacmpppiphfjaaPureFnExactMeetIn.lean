/- The pure part of the law FnExactMeetIn: what program and reference compute is the same. Conditions: those of the row. -/
import Derived.Test.YtpacmpppiphfjaaCupM
import Derived.Test.YtpacmpppiphfjaaX10
namespace Go.Proofs.Ytpacmpppiphfjaa.X
set_option linter.unusedVariables false
set_option linter.unusedSimpArgs false
open Go.RowKit Go.Proofs.YtpacmpppiphfjaaW.PrintWords Go.Proofs.Ytpacmpppiphfjaa.PK
theorem FnExactMeetIn.pure : ∀ (a0 : Int) (a1 : Int) (a2 : Int), (Lit.int .i64 a0).wf = true → (Lit.int .i64 a1).wf = true → (Lit.int .i64 a2).wf = true → ∃ k, laws_FnExactMeetIn.f k a0 a1 a2 = some true := by
  intro n a b _ _ _
  obtain ⟨v, h1, h2⟩ := meet_same n a b
  refine Ev.rounds (g := fun k => laws_FnExactMeetIn.f k n a b) ?_
  exact Ev.bind h1 (Ev.bind h2 (Ev.pos rfl (Ev.now _)))
end Go.Proofs.Ytpacmpppiphfjaa.X
