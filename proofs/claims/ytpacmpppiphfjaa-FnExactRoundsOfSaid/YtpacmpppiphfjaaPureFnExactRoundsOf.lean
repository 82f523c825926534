/- The pure part of the law FnExactRoundsOf: what program and reference compute is the same. Conditions: those of the row. -/
import Derived.Test.YtpacmpppiphfjaaPK
import Derived.Test.YtpacmpppiphfjaaX2
namespace Go.Proofs.Ytpacmpppiphfjaa.X
set_option linter.unusedVariables false
set_option linter.unusedSimpArgs false
open Go.RowKit Go.Proofs.YtpacmpppiphfjaaW.PrintWords Go.Proofs.Ytpacmpppiphfjaa.PK
theorem FnExactRoundsOf.pure : ∀ (a0 : Int), (Lit.int .i64 a0).wf = true → laws_FnExactRoundsOf.f a0 = some true := by
  intro a0 _
  have h : impl_RoundsOf.f a0 = spec_RoundsOf.f a0 := rfl
  have hs : ∃ r, spec_RoundsOf.f a0 = some r := by unfold spec_RoundsOf.f; split <;> (try split) <;> (try split) <;> exact ⟨_, rfl⟩
  obtain ⟨r, hr⟩ := hs
  simp [laws_FnExactRoundsOf.f, h, hr]
end Go.Proofs.Ytpacmpppiphfjaa.X
