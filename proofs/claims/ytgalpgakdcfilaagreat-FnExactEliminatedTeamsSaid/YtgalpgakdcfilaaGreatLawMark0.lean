/- Numbers written into a row: what the laws' helper tells. Conditions: sizes. -/
import Derived.Test.YtgalpgakdcfilaaGreatPK
import Derived.Test.YtgalpgakdcfilaaGreatL9
namespace Go.Proofs.YtgalpgakdcfilaaGreat.L
set_option linter.unusedVariables false
set_option linter.unusedSimpArgs false
open Go.RowKit Go.Proofs.YtgalpgakdcfilaaGreatW.PrintWords Go.Proofs.YtgalpgakdcfilaaGreat.PK
theorem markIntS_marks(l:List Int)(q:Int)(hq:0≤q)(hb:q+l.length≤4611686018427387904):Ev (fun k=>laws_markIntS.f k l q) (q+l.length,marks q l.length):=by
  have:=Ev.iter (fun i k=>laws_markIntS.l0 k (marks q i++l.drop i) (q+i) (i:Int)) l.length (q+l.length,marks q l.length) (fun i hi h=>Ev.step (fun k=>by
    simp only[laws_markIntS.l0]
    rw[if_pos (by simp [marks_length];omega),if_pos (by omega),w64s (by omega),w64 (by omega) (by omega),Int.toNat_natCast,set_step _ _ _ _ (marks_length _ _) hi,←marks_succ]
    congr 1;omega) h) (Ev.step (f:=fun _=>some (q+l.length,marks q l.length)) (fun k=>by
    simp only[laws_markIntS.l0]
    rw[if_neg (by simp [marks_length])]
    simp) (Ev.now _))
  simpa [laws_markIntS.f,marks] using this
end Go.Proofs.YtgalpgakdcfilaaGreat.L
