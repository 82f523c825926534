/- The pure part of the law FnExactSwapGains: what program and reference compute is the same. Conditions: those of the row. -/
import Derived.Test.YtaopcamaceddnaaContM
import Derived.Test.YtaopcamaceddnaaSwapA
import Derived.Test.YtaopcamaceddnaaX19
namespace Go.Proofs.Ytaopcamaceddnaa.X
set_option linter.unusedVariables false
set_option linter.unusedSimpArgs false
open Go.RowKit Go.Proofs.YtaopcamaceddnaaW.PrintWords Go.Proofs.Ytaopcamaceddnaa.PK
theorem FnExactSwapGains.pure : ∀ (a0 : Int) (l1 : List (S52)) (a2 : Int) (a3 : Int), (Lit.int .i64 a0).wf = true → (l1.length ≤ maxLen ∧ ∀ y ∈ l1, ((y.f0.length ≤ maxLen ∧ ∀ yy ∈ y.f0, (Lit.int .i64 yy).wf = true) ∧ (Lit.int .i64 y.f1).wf = true ∧ (Lit.int .i64 y.f2).wf = true)) → (Lit.int .i64 a2).wf = true → (Lit.int .i64 a3).wf = true → ∃ k, laws_FnExactSwapGains.f k a0 l1 a2 a3 = some true := by
  intro n l c a _ hl _ _
  refine Ev.rounds (g := fun k => laws_FnExactSwapGains.f k n l c a) ?_
  obtain ⟨r, hr, hc⟩ := szContestS_tells l hl.1 (fun y hy => (hl.2 y hy).1.1)
  by_cases cc : r < 0
  · exact Ev.bind hr (Ev.pos cc (Ev.now _))
  obtain ⟨hb, hi⟩ := hc.resolve_left cc
  have hb1 : (l.map cv).length ≤ 1048576 := by simpa using hb
  have hi1 : ∀ y ∈ l.map cv, y.f0.length ≤ 1048576 := by
    intro y hy
    obtain ⟨z, hz, rfl⟩ := List.mem_map.1 hy
    exact hi z hz
  have h1 := toContestS_same l hb hi
  have h2 := eqContestS_self (l.map cv) hb1 hi1
  have h3 := spec_swap n (l.map cv) c a hb1 hi1
  have h4 := impl_swap n (l.map cv) c a hb1 hi1
  have hs := gains_small n (l.map cv) c a hb1
  obtain ⟨m, h5, hm⟩ := markContestS_some (l.map cv) hb1 hi1
  have h6 := eqIntS_self (gains n (l.map cv) c a) (by omega)
  have h7 := markIntS_marks (gains n (l.map cv) c a) 1 (by omega) (by omega)
  have h8 := heldIntS_marks 1 (gains n (l.map cv) c a).length (by omega) (by omega)
  unfold laws_FnExactSwapGains.f
  repeat (first
    | exact Ev.now _
    | (with_reducible refine Ev.bind hr ?_)
    | (with_reducible refine Ev.bind h1 ?_)
    | (with_reducible refine Ev.bind h2 ?_)
    | (with_reducible refine Ev.bind h3 ?_)
    | (with_reducible refine Ev.bind h4 ?_)
    | (with_reducible refine Ev.bind h5 ?_)
    | (with_reducible refine Ev.bind h6 ?_)
    | (with_reducible refine Ev.bind h7 ?_)
    | (with_reducible refine Ev.bind h8 ?_)
    | refine Ev.neg (by first | assumption | omega | exact bnot_ne_self) ?_
    | refine Ev.pos (by first | assumption | rfl | omega) ?_)
end Go.Proofs.Ytaopcamaceddnaa.X
