/- The laws' drawing: a number that depends on the code and on n. Conditions: sizes of rows as the rows' forms allow. -/
import Derived.Test.YtpacmpppiphfjaaDrawA
import Derived.Test.YtpacmpppiphfjaaX22
namespace Go.Proofs.Ytpacmpppiphfjaa.X
set_option linter.unusedVariables false
set_option linter.unusedSimpArgs false
open Go.RowKit Go.Proofs.YtpacmpppiphfjaaW.PrintWords Go.Proofs.Ytpacmpppiphfjaa.PK
theorem l27New_tells (l : List Int) (n : Nat) (hn : n ≤ 1000) (hb : l.length ≤ 1099511627776) : ∃ i h, Ev (fun k => spec_l27New.f k l (n : Int)) (l, i, h) ∧ 0 ≤ i := by
  obtain ⟨g, hg⟩ := new_tells l hb
  have := down (g := fun q => ∀ i h : Int, 0 ≤ i → ∃ i' h', Ev (fun k => spec_l27New.l0 k (n : Int) (q : Int) l i h) (l, i', h') ∧ 0 ≤ i') (n := n) (fun q hq hn' i h hi => by
    obtain ⟨x, j, h2, e, _, _, hj⟩ := byte_tells l i h hi hb
    obtain ⟨i', h', e', hi'⟩ := hn' j h2 hj
    refine ⟨i', h', Ev.step (fun k => spec_l27New.l0.eq_2 ..) (Ev.pos (by omega) (Ev.bind0 e ?_)), hi'⟩
    rw [w64s (by omega)]; exact e') (fun i h hi => ⟨i, h, Ev.step (fun k => spec_l27New.l0.eq_2 ..) (Ev.neg (by omega) (Ev.now _)), hi⟩) n 0 (by omega)
  obtain ⟨i', h', e', hi'⟩ := this 0 g (by omega)
  exact ⟨i', h', Ev.bind hg e', hi'⟩
theorem makeNum_tells (l : List Int) (n : Nat) (hn : n ≤ 1000) (hb : l.length ≤ 1099511627776) : ∃ v, Ev (fun k => spec_MakeNum.f k l (n : Int)) v := by
  obtain ⟨i, h, e, hi⟩ := l27New_tells l n hn hb
  obtain ⟨x, i2, h2, e2, _, _, hi2⟩ := byte_tells l i h hi hb
  obtain ⟨y, i3, h3, e3, _, _, _⟩ := byte_tells l i2 h2 hi2 hb
  exact ⟨_, Ev.bind e (Ev.bind0 e2 (Ev.bind0 e3 (Ev.now _)))⟩
end Go.Proofs.Ytpacmpppiphfjaa.X
