/- The pure part of the law FnExactRuleName: what program and reference compute is the same. Conditions: those of the row. -/
import Derived.Test.YtpacmpppiphfjaaPK
import Derived.Test.YtpacmpppiphfjaaX1
namespace Go.Proofs.Ytpacmpppiphfjaa.X
set_option linter.unusedVariables false
set_option linter.unusedSimpArgs false
open Go.RowKit Go.Proofs.YtpacmpppiphfjaaW.PrintWords Go.Proofs.Ytpacmpppiphfjaa.PK
theorem FnExactRuleName.pure : ∀ (a0 : Int), (Lit.int .i64 a0).wf = true → laws_FnExactRuleName.f a0 = some true := by
  intro a0 _
  have h : impl_RuleName.f a0 = spec_RuleName.f a0 := rfl
  have hs : ∃ r, spec_RuleName.f a0 = some r := by unfold spec_RuleName.f; split <;> (try split) <;> exact ⟨_, rfl⟩
  obtain ⟨r, hr⟩ := hs
  simp [laws_FnExactRuleName.f, h, hr]
end Go.Proofs.Ytpacmpppiphfjaa.X
