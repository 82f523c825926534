/- What the laws' helpers on rows of numbers tell (equal, marked, held, copied, measured). No condition beyond sizes. -/
import Derived.Test.YtpacmpppiphfjaaPK
import Derived.Test.YtpacmpppiphfjaaX5
import Derived.Test.YtpacmpppiphfjaaX6
import Derived.Test.YtpacmpppiphfjaaX11
import Derived.Test.YtpacmpppiphfjaaX13
namespace Go.Proofs.Ytpacmpppiphfjaa.X
set_option linter.unusedVariables false
set_option linter.unusedSimpArgs false
open Go.RowKit Go.Proofs.YtpacmpppiphfjaaW.PrintWords Go.Proofs.Ytpacmpppiphfjaa.PK

theorem eqIntS_self (x : List Int) (hb : x.length ≤ 4611686018427387904) : Ev (fun k => laws_eqIntS.f k x x) true := by
  have := Ev.iter (fun i k => laws_eqIntS.l0 k x x (i : Int)) x.length true (fun i hi h => Ev.step (fun k => by
    simp only [laws_eqIntS.l0]
    rw [if_pos (by omega), if_pos (by omega), if_pos (by omega), if_pos trivial, w64s (by omega)]) h) (Ev.step (f := fun _ => some true) (fun k => by
    simp only [laws_eqIntS.l0]
    rw [if_neg (by omega)]) (Ev.now _))
  simpa [laws_eqIntS.f] using this
theorem heldIntS_marks (q : Int) (n : Nat) (hq : 0 ≤ q) (hb : q + n ≤ 4611686018427387904) : Ev (fun k => laws_heldIntS.f k (marks q n) q) (q + n) := by
  have := Ev.iter (fun i k => laws_heldIntS.l0 k (marks q n) (q + i) (i : Int)) n (q + n) (fun i hi h => Ev.step (fun k => by
    simp only [laws_heldIntS.l0]
    rw [if_pos (by rw [marks_length]; omega), if_pos (by omega), if_pos (by rw [rd_nat (by rw [marks_length]; omega), marks_get _ _ _ hi]), w64s (by omega), w64 (by omega) (by omega)]
    congr 1; omega) h) (Ev.step (f := fun _ => some (q + n)) (fun k => by
    simp only [laws_heldIntS.l0]
    rw [if_neg (by rw [marks_length]; omega)]) (Ev.now _))
  simpa [laws_heldIntS.f] using this
theorem markIntS_marks (l : List Int) (q : Int) (hq : 0 ≤ q) (hb : q + l.length ≤ 4611686018427387904) : Ev (fun k => laws_markIntS.f k l q) (q + l.length, marks q l.length) := by
  have := Ev.iter (fun i k => laws_markIntS.l0 k (marks q i ++ l.drop i) (q + i) (i : Int)) l.length (q + l.length, marks q l.length) (fun i hi h => Ev.step (fun k => by
    simp only [laws_markIntS.l0]
    rw [if_pos (by simp [marks_length]; omega), if_pos (by omega), w64s (by omega), w64 (by omega) (by omega), Int.toNat_natCast, set_step _ _ _ _ (marks_length _ _) hi, ← marks_succ]
    congr 1; omega) h) (Ev.step (f := fun _ => some (q + l.length, marks q l.length)) (fun k => by
    simp only [laws_markIntS.l0]
    rw [if_neg (by simp [marks_length])]
    simp) (Ev.now _))
  simpa [laws_markIntS.f, marks] using this
theorem toIntS_same (l : List Int) (hb : l.length ≤ 35184372088832) : Ev (fun k => laws_toIntS.f k l) l := by
  have := Ev.iter (fun i k => laws_toIntS.l0 k l (l.take i ++ (List.replicate l.length (0 : Int)).drop i) (i : Int)) l.length l (fun i hi h => Ev.step (fun k => by
    simp only [laws_toIntS.l0]
    rw [if_pos (by omega), if_pos (by omega), if_pos (by simp; omega), w64s (by omega), Int.toNat_natCast, set_step _ _ _ _ (by simp; omega) (by simpa using hi), rd_nat hi, ← take_snoc l i hi]) h) (Ev.step (f := fun _ => some l) (fun k => by
    simp only [laws_toIntS.l0]
    rw [if_neg (by omega)]
    simp) (Ev.now _))
  simp only [laws_toIntS.f]
  refine Ev.pos (by omega) (Ev.pos (by omega) ?_)
  simpa using this
theorem szIntS_le (l : List Int) (a r : Int) (ha : 0 ≤ a) (ha2 : a ≤ 4611686018427387904) (hl : l.length ≤ maxLen) (h : laws_szIntS.f l a = some r) : (r = -1) ∨ (r = a - l.length ∧ (l.length : Int) ≤ a) := by
  unfold maxLen at hl
  simp only [laws_szIntS.f] at h
  rw [w64 (by omega) (by omega)] at h
  by_cases c : a - (l.length : Int) < 0
  · rw [if_pos c] at h; left; injection h with h; exact h.symm
  · rw [if_neg c] at h; right; injection h with h; exact ⟨h.symm, by omega⟩
theorem szIntS_some (l : List Int) (a : Int) : ∃ r, laws_szIntS.f l a = some r := by
  simp only [laws_szIntS.f]; split <;> exact ⟨_, rfl⟩
end Go.Proofs.Ytpacmpppiphfjaa.X
