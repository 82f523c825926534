/- The pure part of the law FnExactRaceOk: what program and reference compute is the same. Conditions: those of the row. -/
import Derived.Test.YtipojkfkcelejaaRegB
import Derived.Test.YtipojkfkcelejaaX14
namespace Go.Proofs.Ytipojkfkcelejaa.X
set_option linter.unusedVariables false
set_option linter.unusedSimpArgs false
open Go.RowKit Go.Proofs.YtipojkfkcelejaaW.PrintWords Go.Proofs.Ytipojkfkcelejaa.PK
theorem FnExactRaceOk.pure : ∀ (a0 : Int) (l1 : List Int), (Lit.int .i64 a0).wf = true → (l1.length ≤ maxLen ∧ ∀ y ∈ l1, (Lit.int .i64 y).wf = true) → ∃ k, laws_FnExactRaceOk.f k a0 l1 = some true := by
  intro b l _ hl
  refine Ev.rounds (g := fun k => laws_FnExactRaceOk.f k b l) ?_
  by_cases c : (l.length : Int) > 1048576
  · exact Ev.pos c (Ev.now _)
  have h1 := toIntS_same l (by omega)
  have h2 := eqIntS_self l (by omega)
  have h3 := spec_race b l (by omega)
  have h4 := impl_race b l (by omega)
  unfold laws_FnExactRaceOk.f
  repeat (first
    | exact Ev.now _
    | (with_reducible refine Ev.bind h1 ?_)
    | (with_reducible refine Ev.bind h2 ?_)
    | (with_reducible refine Ev.bind h3 ?_)
    | (with_reducible refine Ev.bind h4 ?_)
    | refine Ev.neg (by first | assumption | omega | exact bnot_ne_self) ?_
    | refine Ev.pos (by first | assumption | rfl | omega) ?_)
end Go.Proofs.Ytipojkfkcelejaa.X
