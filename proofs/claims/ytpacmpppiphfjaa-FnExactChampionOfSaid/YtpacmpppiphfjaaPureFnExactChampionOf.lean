/- The pure part of the law FnExactChampionOf: what program and reference compute is the same. Conditions: those of the row. -/
import Derived.Test.YtpacmpppiphfjaaCupB
import Derived.Test.YtpacmpppiphfjaaCupL
import Derived.Test.YtpacmpppiphfjaaX21
namespace Go.Proofs.Ytpacmpppiphfjaa.X
set_option linter.unusedVariables false
set_option linter.unusedSimpArgs false
open Go.RowKit Go.Proofs.YtpacmpppiphfjaaW.PrintWords Go.Proofs.Ytpacmpppiphfjaa.PK
theorem FnExactChampionOf.pure : ∀ (a0_0 : Int) (l0_1 : List Int), (Lit.int .i64 a0_0).wf = true → (l0_1.length ≤ maxLen ∧ ∀ y ∈ l0_1, (Lit.int .i64 y).wf = true) → ∃ k, laws_FnExactChampionOf.f k a0_0 l0_1 = some true := by
  intro n w _ hl
  refine Ev.rounds (g := fun k => laws_FnExactChampionOf.f k n w) ?_
  obtain ⟨r, hr, hc⟩ := szCup_tells n w hl.1
  refine Ev.bind0 hr ?_
  by_cases c : r < 0
  · exact Ev.pos c (Ev.now _)
  · have hw : w.length ≤ 1048576 := by omega
    exact Ev.neg c (Ev.bind (toCup_same n w hw) (Ev.bind (spec_champ n w (by omega)) (Ev.bind (toCup_same n w hw) (Ev.bind (impl_champ n w (by omega)) (Ev.pos rfl (Ev.bind (toCup_same n w hw) (Ev.bind (eqCup_self n w (by omega)) (Ev.pos rfl (Ev.now _)))))))))
end Go.Proofs.Ytpacmpppiphfjaa.X
