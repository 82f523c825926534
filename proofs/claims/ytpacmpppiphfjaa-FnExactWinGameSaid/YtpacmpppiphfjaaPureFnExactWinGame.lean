/- The pure part of the law FnExactWinGame: what program and reference compute is the same. Conditions: those of the row. -/
import Derived.Test.YtpacmpppiphfjaaCupB
import Derived.Test.YtpacmpppiphfjaaCupL
import Derived.Test.YtpacmpppiphfjaaX30
import Derived.Test.YtpacmpppiphfjaaX28
import Derived.Test.YtpacmpppiphfjaaX29
namespace Go.Proofs.Ytpacmpppiphfjaa.X
set_option linter.unusedVariables false
set_option linter.unusedSimpArgs false
open Go.RowKit Go.Proofs.YtpacmpppiphfjaaW.PrintWords Go.Proofs.Ytpacmpppiphfjaa.PK
theorem FnExactWinGame.pure : ∀ (a0_0 : Int) (l0_1 : List Int) (a1 : Int), (Lit.int .i64 a0_0).wf = true → (l0_1.length ≤ maxLen ∧ ∀ y ∈ l0_1, (Lit.int .i64 y).wf = true) → (Lit.int .i64 a1).wf = true → ∃ k, laws_FnExactWinGame.f k a0_0 l0_1 a1 = some true := by
  intro n w a _ hl _
  refine Ev.rounds (g := fun k => laws_FnExactWinGame.f k n w a) ?_
  obtain ⟨r, hr, hc⟩ := szCup_tells n w hl.1
  refine Ev.bind0 hr ?_
  by_cases c : r < 0
  · exact Ev.pos c (Ev.now _)
  · have hw : w.length ≤ 1048576 := by omega
    obtain ⟨u, b, hu⟩ : ∃ u b, won n w a = (n, u, b) := by unfold won; split <;> exact ⟨_, _, rfl⟩
    have hul : u.length ≤ 1048577 := by
      unfold won at hu
      split at hu <;> (simp only [Prod.mk.injEq] at hu; obtain ⟨_, rfl, _⟩ := hu; first | omega | (simp; omega))
    have hs := spec_win n w a (by omega)
    have hi := impl_win n w a (by omega)
    rw [hu] at hs hi
    have ht := toCup_same n w hw
    have he := eqCup_self n u hul
    have hew := eqCup_self n w (by omega)
    have hm : ∀ x : List Int, x.length ≤ 1048577 → Ev (fun k => laws_markCup.f k n x 1) (1 + x.length, marks 1 x.length) := fun x hx => Ev.bind (markIntS_marks x 1 (by omega) (by omega)) (Ev.now _)
    have hh : Ev (fun k => laws_heldCup.f k n (marks 1 u.length) 1) (1 + u.length) := Ev.bind (heldIntS_marks 1 u.length (by omega) (by omega)) (Ev.neg (by omega) (Ev.now _))
    have hj2 : Ev (fun k => laws_FnExactWinGame.j2 k (1 + u.length) (b != b) n (marks 1 u.length)) true := Ev.step (f := fun k => (laws_heldCup.f k n (marks 1 u.length) 1).bind fun t505 => (if t505 < 0 then (some false) else (if t505 = (1 + (u.length : Int)) then (some true) else (some false)))) (fun k => by
      simp only [laws_FnExactWinGame.j2]
      rw [if_neg (by simp)]) (Ev.bind hh (Ev.neg (by omega) (Ev.pos rfl (Ev.now _))))
    have hj1 : Ev (fun k => laws_FnExactWinGame.j1 k a b (b != b) n w n u n u) true := Ev.step (f := fun k => (laws_markCup.f k n u 1).bind fun bt491 => ((laws_heldCup.f k n bt491.2 1).bind fun t493 => (if t493 < 0 then (some false) else (if t493 = bt491.1 then ((laws_toCup.f k n w).bind fun bt494 => ((impl_WinGame.f k bt494.1 bt494.2 a).bind fun bt498 => ((laws_eqCup.f k bt498.1 bt498.2.1 n u).bind fun t504 => (if t504 = true then (laws_FnExactWinGame.j2 k bt491.1 (bt498.2.2 != b) n bt491.2) else (laws_FnExactWinGame.j2 k bt491.1 true n bt491.2))))) else (some false))))) (fun k => by
      simp only [laws_FnExactWinGame.j1]
      rw [if_neg (by simp)]) (Ev.bind (hm u hul) (Ev.bind hh (Ev.neg (by omega) (Ev.pos rfl (Ev.bind ht (Ev.bind hi (Ev.bind he (Ev.pos rfl hj2))))))))
    have hj0 : Ev (fun k => laws_FnExactWinGame.j0 k a b b (b != b) n w n u n w n u) true := Ev.step (f := fun k => (laws_toCup.f k n w).bind fun bt483 => ((laws_eqCup.f k n w bt483.1 bt483.2).bind fun t487 => (if t487 = true then ((laws_markCup.f k n w 1).bind fun bt488 => (if bt488.1 < 0 then (laws_FnExactWinGame.j1 k a b true n w n u n u) else ((laws_eqCup.f k n u n u).bind fun t490 => (if t490 = true then (laws_FnExactWinGame.j1 k a b (b != b) n w n u n u) else (laws_FnExactWinGame.j1 k a b true n w n u n u))))) else (some false)))) (fun k => by
      simp only [laws_FnExactWinGame.j0]
      rw [if_neg (by simp)]) (Ev.bind ht (Ev.bind hew (Ev.pos rfl (Ev.bind (hm w (by omega)) (Ev.neg (by omega) (Ev.bind he (Ev.pos rfl hj1)))))))
    exact Ev.neg c (Ev.bind ht (Ev.bind hs (Ev.bind ht (Ev.bind hi (Ev.bind he (Ev.pos rfl hj0))))))
end Go.Proofs.Ytpacmpppiphfjaa.X
