/- The pure part of the law FnExactCupSizeOk: what program and reference compute is the same. Conditions: those of the row. -/
import Derived.Test.YtpacmpppiphfjaaCupA
import Derived.Test.YtpacmpppiphfjaaX1
namespace Go.Proofs.Ytpacmpppiphfjaa.X
set_option linter.unusedVariables false
set_option linter.unusedSimpArgs false
open Go.RowKit Go.Proofs.YtpacmpppiphfjaaW.PrintWords Go.Proofs.Ytpacmpppiphfjaa.PK
theorem FnExactCupSizeOk.pure : ∀ (a0 : Int), (Lit.int .i64 a0).wf = true → laws_FnExactCupSizeOk.f a0 = some true := by
  intro a0 _
  simp [laws_FnExactCupSizeOk.f, spec_size, impl_size]
end Go.Proofs.Ytpacmpppiphfjaa.X
