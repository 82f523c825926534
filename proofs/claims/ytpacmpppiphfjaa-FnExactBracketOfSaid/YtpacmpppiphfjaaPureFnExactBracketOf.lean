/- The pure part of the law FnExactBracketOf: what program and reference compute is the same. Conditions: those of the row. -/
import Derived.Test.YtpacmpppiphfjaaCupA
import Derived.Test.YtpacmpppiphfjaaX6
namespace Go.Proofs.Ytpacmpppiphfjaa.X
set_option linter.unusedVariables false
set_option linter.unusedSimpArgs false
open Go.RowKit Go.Proofs.YtpacmpppiphfjaaW.PrintWords Go.Proofs.Ytpacmpppiphfjaa.PK
theorem FnExactBracketOf.pure : ∀ (a0 : Int), (Lit.int .i64 a0).wf = true → ∃ k, laws_FnExactBracketOf.f k a0 = some true := by
  intro n _
  have hb := bracket_le n
  have he := eqIntS_self (bracket n) (by omega)
  have hm := markIntS_marks (bracket n) 1 (by omega) (by omega)
  have hh := heldIntS_marks 1 (bracket n).length (by omega) (by omega)
  refine Ev.rounds (g := fun k => laws_FnExactBracketOf.f k n) ?_
  exact Ev.bind (spec_bracket n) (Ev.bind (impl_bracket n) (Ev.bind he (Ev.pos rfl (Ev.bind hm (Ev.bind hh (Ev.neg (by omega) (Ev.pos rfl (Ev.bind (impl_bracket n) (Ev.bind he (Ev.pos rfl (Ev.bind hh (Ev.neg (by omega) (Ev.pos rfl (Ev.now _))))))))))))))
end Go.Proofs.Ytpacmpppiphfjaa.X
