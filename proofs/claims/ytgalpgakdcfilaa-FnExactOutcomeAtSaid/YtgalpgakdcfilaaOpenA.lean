/- The open games of a book, program and reference alike; the tests of a list of outcomes. -/
import Derived.Test.YtgalpgakdcfilaaBookB
import Derived.Test.YtgalpgakdcfilaaX19
import Derived.Test.YtgalpgakdcfilaaX31
namespace Go.Proofs.Ytgalpgakdcfilaa.X
set_option linter.unusedVariables false
set_option linter.unusedSimpArgs false
open Go.RowKit Go.Proofs.YtgalpgakdcfilaaW.PrintWords Go.Proofs.Ytgalpgakdcfilaa.PK
theorem open_same (l : List G1) (hl : l.length ≤ 1048576) : ∃ v : List Int, v.length ≤ l.length ∧ Ev (fun k => spec_OpenGames.f k l) v ∧ Ev (fun k => impl_OpenGames.f k l) v := by
  have := down (g := fun i => ∀ a : List Int, a.length ≤ i → ∃ v : List Int, v.length ≤ l.length ∧ Ev (fun k => spec_OpenGames.l0 k a l (l.length : Int) (i : Int)) v ∧ Ev (fun k => impl_gamesWhere_impl_IsOpen.l0 k a l (l.length : Int) (i : Int)) v) (n := l.length) (fun i hi hn a ha => by
    have hw : wrap64 ((i : Int) + 1) = ((i + 1 : Nat) : Int) := w64s (by omega)
    by_cases c : (l[i].f4 == 0) = true
    · obtain ⟨v, v0, v1, v2⟩ := hn (a ++ [(i : Int)]) (by rw [List.length_append, List.length_singleton]; omega)
      refine ⟨v, v0, Ev.step (fun k => spec_OpenGames.l0.eq_2 ..) (Ev.pos (by omega) (Ev.pos (by omega) (Ev.pos (by omega) (Ev.bind0 (a := true) ?_ (Ev.pos rfl (Ev.pos (by omega) ?_)))))), Ev.step (fun k => impl_gamesWhere_impl_IsOpen.l0.eq_2 ..) (Ev.pos (by omega) (Ev.pos (by omega) (Ev.pos (by omega) (Ev.bind0 (a := true) ?_ (Ev.pos rfl (Ev.pos (by omega) ?_))))))⟩
      · rw [rdG1 hi]; exact congrArg some c
      · rw [hw]; exact v1
      · rw [rdG1 hi]; exact congrArg some c
      · rw [hw]; exact v2
    · obtain ⟨v, v0, v1, v2⟩ := hn a (by omega)
      have c' : (l[i].f4 == 0) = false := Bool.eq_false_iff.2 c
      refine ⟨v, v0, Ev.step (fun k => spec_OpenGames.l0.eq_2 ..) (Ev.pos (by omega) (Ev.pos (by omega) (Ev.pos (by omega) (Ev.bind0 (a := false) ?_ (Ev.neg (by simp) ?_))))), Ev.step (fun k => impl_gamesWhere_impl_IsOpen.l0.eq_2 ..) (Ev.pos (by omega) (Ev.pos (by omega) (Ev.pos (by omega) (Ev.bind0 (a := false) ?_ (Ev.neg (by simp) ?_)))))⟩
      · rw [rdG1 hi]; exact congrArg some c'
      · rw [hw]; exact v1
      · rw [rdG1 hi]; exact congrArg some c'
      · rw [hw]; exact v2) (fun a ha => ⟨a, ha, Ev.step (fun k => spec_OpenGames.l0.eq_2 ..) (Ev.neg (by omega) (Ev.now _)), Ev.step (fun k => impl_gamesWhere_impl_IsOpen.l0.eq_2 ..) (Ev.neg (by omega) (Ev.now _))⟩) l.length 0 (by omega)
  obtain ⟨v, v0, v1, v2⟩ := this [] (by simp)
  exact ⟨v, v0, v1, Ev.bind v2 (Ev.now _)⟩
theorem short_same (t : List T1) (a b c : Int) (o : List Int) (d : Bool) (g : List G1) (f q : List Int) (z1 : t.length ≤ 1048576) (zs : ∀ y ∈ t, y.f0.size ≤ 1048576) (z2 : o.length ≤ 1048576) (z3 : g.length ≤ 1048576) (z4 : f.length ≤ 1048576) (z5 : q.length ≤ 1048576) :
    ∃ (v : List Int) (p : Bool), v.length ≤ g.length ∧ (p = true → v.length ≤ 5) ∧ Ev (fun k => spec_l16Open.f k t a b c o d g f q) (v, p) ∧ Ev (fun k => impl_isShort.f k t a b c o d g f q) p ∧ Ev (fun k => impl_OpenGames.f k g) v := by
  have hs := spec_book t a b c o d g f q z1 zs z2 z3 z4 z5
  have hi := impl_book t a b c o d g f q z1 zs z2 z3 z4 z5
  obtain ⟨v, v0, v1, v2⟩ := open_same g z3
  unfold spec_l16Open.f impl_isShort.f
  cases hb : bookB t a b c o g f q with
  | false =>
    rw [hb] at hs hi
    exact ⟨v, false, v0, by simp, Ev.bind v1 (Ev.bind hs (Ev.neg (by simp) (Ev.now _))), Ev.bind hi (Ev.neg (by simp) (Ev.now _)), v2⟩
  | true =>
    rw [hb] at hs hi
    exact ⟨v, decide ((v.length : Int) ≤ 5), v0, by simp; omega, Ev.bind v1 (Ev.bind hs (Ev.pos rfl (Ev.now _))), Ev.bind hi (Ev.pos rfl (Ev.bind v2 (Ev.now _))), v2⟩
end Go.Proofs.Ytgalpgakdcfilaa.X
