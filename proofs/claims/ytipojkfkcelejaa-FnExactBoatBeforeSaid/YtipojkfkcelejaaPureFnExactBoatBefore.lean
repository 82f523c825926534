/- The pure part of the law FnExactBoatBefore: what program and reference compute is the same. Conditions: those of the row. -/
import Derived.Test.YtipojkfkcelejaaRegD
import Derived.Test.YtipojkfkcelejaaX35
namespace Go.Proofs.Ytipojkfkcelejaa.X
set_option linter.unusedVariables false
set_option linter.unusedSimpArgs false
open Go.RowKit Go.Proofs.YtipojkfkcelejaaW.PrintWords Go.Proofs.Ytipojkfkcelejaa.PK
theorem FnExactBoatBefore.pure : ∀ (a0_0 : Int) (l0_1 : List (List Int)) (a0_2 : Int) (a1 : Int) (a2 : Int), (Lit.int .i64 a0_0).wf = true → (l0_1.length ≤ maxLen ∧ ∀ y ∈ l0_1, (y.length ≤ maxLen ∧ ∀ yy ∈ y, (Lit.int .i64 yy).wf = true)) → (Lit.int .i64 a0_2).wf = true → (Lit.int .i64 a1).wf = true → (Lit.int .i64 a2).wf = true → ∃ k, laws_FnExactBoatBefore.f k a0_0 l0_1 a0_2 a1 a2 = some true := by
  intro b l d x y _ hl _ _ _
  refine Ev.rounds (g := fun k => laws_FnExactBoatBefore.f k b l d x y) ?_
  obtain ⟨r, hr, hc⟩ := szReg_tells b l d hl.1 (fun y hy => (hl.2 y hy).1)
  by_cases c : r < 0
  · exact Ev.bind hr (Ev.pos c (Ev.now _))
  obtain ⟨hb, hi⟩ := hc.resolve_left c
  have h1 := toReg_same b l d hb hi
  have h2 := eqReg_self b l d hb hi
  have h3 := spec_boat b l d x y hb hi
  have h4 := impl_boat b l d x y hb hi
  unfold laws_FnExactBoatBefore.f
  repeat (first
    | exact Ev.now _
    | (with_reducible refine Ev.bind hr ?_)
    | (with_reducible refine Ev.bind h1 ?_)
    | (with_reducible refine Ev.bind h2 ?_)
    | (with_reducible refine Ev.bind h3 ?_)
    | (with_reducible refine Ev.bind h4 ?_)
    | refine Ev.neg (by first | assumption | omega | exact bnot_ne_self) ?_
    | refine Ev.pos (by first | assumption | rfl | omega) ?_)
end Go.Proofs.Ytipojkfkcelejaa.X
