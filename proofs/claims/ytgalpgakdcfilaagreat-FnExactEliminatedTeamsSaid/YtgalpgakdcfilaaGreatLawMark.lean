/- What the laws' helpers on rows of numbers tell (marked, held). No condition beyond sizes. -/
import Derived.Test.YtgalpgakdcfilaaGreatPK
import Derived.Test.YtgalpgakdcfilaaGreatLawMark0
import Derived.Test.YtgalpgakdcfilaaGreatL9
import Derived.Test.YtgalpgakdcfilaaGreatL11
namespace Go.Proofs.YtgalpgakdcfilaaGreat.L
set_option linter.unusedVariables false
set_option linter.unusedSimpArgs false
open Go.RowKit Go.Proofs.YtgalpgakdcfilaaGreatW.PrintWords Go.Proofs.YtgalpgakdcfilaaGreat.PK
theorem heldIntS_marks(q:Int)(n:Nat)(hq:0≤q)(hb:q+n≤4611686018427387904):Ev (fun k=>laws_heldIntS.f k (marks q n) q) (q+n):=by
  have:=Ev.iter (fun i k=>laws_heldIntS.l0 k (marks q n) (q+i) (i:Int)) n (q+n) (fun i hi h=>Ev.step (fun k=>by
    simp only[laws_heldIntS.l0]
    rw[if_pos (by rw[marks_length];omega),if_pos (by omega),if_pos (by rw[rd_nat (by rw[marks_length];omega),marks_get _ _ _ hi]),w64s (by omega),w64 (by omega) (by omega)]
    congr 1;omega) h) (Ev.step (f:=fun _=>some (q+n)) (fun k=>by
    simp only[laws_heldIntS.l0]
    rw[if_neg (by rw[marks_length];omega)]) (Ev.now _))
  simpa [laws_heldIntS.f] using this
end Go.Proofs.YtgalpgakdcfilaaGreat.L
