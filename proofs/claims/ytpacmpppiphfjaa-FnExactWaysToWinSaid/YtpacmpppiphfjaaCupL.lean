/- Cups as the laws hand them over: copied, compared, measured. No condition beyond sizes. -/
import Derived.Test.YtpacmpppiphfjaaLawInt
import Derived.Test.YtpacmpppiphfjaaX11
import Derived.Test.YtpacmpppiphfjaaX13
import Derived.Test.YtpacmpppiphfjaaX15
namespace Go.Proofs.Ytpacmpppiphfjaa.X
set_option linter.unusedVariables false
set_option linter.unusedSimpArgs false
open Go.RowKit Go.Proofs.YtpacmpppiphfjaaW.PrintWords Go.Proofs.Ytpacmpppiphfjaa.PK
theorem szCup_tells (n : Int) (w : List Int) (hl : w.length ≤ maxLen) : ∃ r, laws_szCup.f n w 1048576 = some r ∧ (r < 0 ∨ w.length ≤ 1048576) := by
  obtain ⟨r, hr⟩ := szIntS_some w 1048576
  have := szIntS_le w 1048576 r (by omega) (by omega) hl hr
  simp only [laws_szCup.f, hr, Option.bind_some]
  by_cases c : r < 0
  · rw [if_pos c]; exact ⟨_, rfl, .inl (by omega)⟩
  · rw [if_neg c]; exact ⟨_, rfl, .inr (by omega)⟩
theorem toCup_same (n : Int) (w : List Int) (hl : w.length ≤ 1048576) : Ev (fun k => laws_toCup.f k n w) (n, w) := Ev.bind (toIntS_same w (by omega)) (Ev.now _)
theorem eqCup_self (n : Int) (w : List Int) (hl : w.length ≤ 1048577) : Ev (fun k => laws_eqCup.f k n w n w) true := by
  refine Ev.pos rfl (Ev.bind (eqIntS_self w (by omega)) (Ev.pos rfl (Ev.now _)))
end Go.Proofs.Ytpacmpppiphfjaa.X
