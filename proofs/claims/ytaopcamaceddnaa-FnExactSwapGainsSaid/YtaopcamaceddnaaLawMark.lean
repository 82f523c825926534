/- What the laws' helpers on rows of numbers tell (marked, held). No condition beyond sizes. -/
import Derived.Test.YtaopcamaceddnaaPK
import Derived.Test.YtaopcamaceddnaaX12
import Derived.Test.YtaopcamaceddnaaX13
namespace Go.Proofs.Ytaopcamaceddnaa.X
set_option linter.unusedVariables false
set_option linter.unusedSimpArgs false
open Go.RowKit Go.Proofs.YtaopcamaceddnaaW.PrintWords Go.Proofs.Ytaopcamaceddnaa.PK

theorem heldIntS_marks (q : Int) (n : Nat) (hq : 0 ≤ q) (hb : q + n ≤ 4611686018427387904) : Ev (fun k => laws_heldIntS.f k (marks q n) q) (q + n) := by
  have := Ev.iter (fun i k => laws_heldIntS.l0 k (marks q n) (q + i) (i : Int)) n (q + n) (fun i hi h => Ev.step (fun k => by
    simp only [laws_heldIntS.l0]
    rw [if_pos (by rw [marks_length]; omega), if_pos (by omega), if_pos (by rw [rd_nat (by rw [marks_length]; omega), marks_get _ _ _ hi]), w64s (by omega), w64 (by omega) (by omega)]
    congr 1; omega) h) (Ev.step (f := fun _ => some (q + n)) (fun k => by
    simp only [laws_heldIntS.l0]
    rw [if_neg (by rw [marks_length]; omega)]) (Ev.now _))
  simpa [laws_heldIntS.f] using this
theorem markIntS_marks (l : List Int) (q : Int) (hq : 0 ≤ q) (hb : q + l.length ≤ 4611686018427387904) : Ev (fun k => laws_markIntS.f k l q) (q + l.length, marks q l.length) := by
  have := Ev.iter (fun i k => laws_markIntS.l0 k (marks q i ++ l.drop i) (q + i) (i : Int)) l.length (q + l.length, marks q l.length) (fun i hi h => Ev.step (fun k => by
    simp only [laws_markIntS.l0]
    rw [if_pos (by simp [marks_length]; omega), if_pos (by omega), w64s (by omega), w64 (by omega) (by omega), Int.toNat_natCast, set_step _ _ _ _ (marks_length _ _) hi, ← marks_succ]
    congr 1; omega) h) (Ev.step (f := fun _ => some (q + l.length, marks q l.length)) (fun k => by
    simp only [laws_markIntS.l0]
    rw [if_neg (by simp [marks_length])]
    simp) (Ev.now _))
  simpa [laws_markIntS.f, marks] using this
end Go.Proofs.Ytaopcamaceddnaa.X
