/- The count of outcomes: program and reference alike. -/
import Derived.Test.YtgalpgakdcfilaaOpenA
import Derived.Test.YtgalpgakdcfilaaX35
namespace Go.Proofs.Ytgalpgakdcfilaa.X
set_option linter.unusedVariables false
set_option linter.unusedSimpArgs false
open Go.RowKit Go.Proofs.YtgalpgakdcfilaaW.PrintWords Go.Proofs.Ytgalpgakdcfilaa.PK
theorem co_loop (n : Nat) (hn : n ≤ 1048576) : ∃ v : Int, Ev (fun k => spec_CountOutcomes.l0 k 1 (n : Int) 0) v ∧ Ev (fun k => impl_CountOutcomes.l0 k 1 (n : Int) 0) v := by
  have := down (g := fun i => ∀ a : Int, ∃ v : Int, Ev (fun k => spec_CountOutcomes.l0 k a (n : Int) (i : Int)) v ∧ Ev (fun k => impl_CountOutcomes.l0 k a (n : Int) (i : Int)) v) (n := n) (fun i hi hn a => by
    have hw : wrap64 ((i : Int) + 1) = ((i + 1 : Nat) : Int) := w64s (by omega)
    obtain ⟨v, v1, v2⟩ := hn (wrap64 (3 * a))
    refine ⟨v, Ev.step (fun k => spec_CountOutcomes.l0.eq_2 ..) (Ev.pos (by omega) ?_), Ev.step (fun k => impl_CountOutcomes.l0.eq_2 ..) (Ev.pos (by omega) ?_)⟩
    · rw [hw]; exact v1
    · rw [hw, show a * 3 = 3 * a by omega]; exact v2) (fun a => ⟨a, Ev.step (fun k => spec_CountOutcomes.l0.eq_2 ..) (Ev.neg (by omega) (Ev.now _)), Ev.step (fun k => impl_CountOutcomes.l0.eq_2 ..) (Ev.neg (by omega) (Ev.now _))⟩) n 0 (by omega)
  exact this 1
theorem co_same (t : List T1) (a b c : Int) (o : List Int) (d : Bool) (g : List G1) (f q : List Int) (z1 : t.length ≤ 1048576) (zs : ∀ y ∈ t, y.f0.size ≤ 1048576) (z2 : o.length ≤ 1048576) (z3 : g.length ≤ 1048576) (z4 : f.length ≤ 1048576) (z5 : q.length ≤ 1048576) :
    ∃ v : Int, Ev (fun k => spec_CountOutcomes.f k t a b c o d g f q) v ∧ Ev (fun k => impl_CountOutcomes.f k t a b c o d g f q) v := by
  obtain ⟨v, p, v0, v5, h1, h2, h3⟩ := short_same t a b c o d g f q z1 zs z2 z3 z4 z5
  unfold spec_CountOutcomes.f impl_CountOutcomes.f
  cases p with
  | false => exact ⟨0, Ev.bind h1 (Ev.neg (by simp) (Ev.now _)), Ev.bind h2 (Ev.neg (by simp) (Ev.now _))⟩
  | true =>
    obtain ⟨r, r1, r2⟩ := co_loop v.length (by omega)
    exact ⟨r, Ev.bind h1 (Ev.pos rfl r1), Ev.bind h2 (Ev.pos rfl (Ev.bind h3 r2))⟩
end Go.Proofs.Ytgalpgakdcfilaa.X
