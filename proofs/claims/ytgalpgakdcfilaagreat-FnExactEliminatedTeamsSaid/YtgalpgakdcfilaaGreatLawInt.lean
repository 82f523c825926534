/- What the laws' helpers on rows of numbers tell (equal, copied). No condition beyond sizes. -/
import Derived.Test.YtgalpgakdcfilaaGreatPK
import Derived.Test.YtgalpgakdcfilaaGreatL1
import Derived.Test.YtgalpgakdcfilaaGreatL5
namespace Go.Proofs.YtgalpgakdcfilaaGreat.L
set_option linter.unusedVariables false
set_option linter.unusedSimpArgs false
open Go.RowKit Go.Proofs.YtgalpgakdcfilaaGreatW.PrintWords Go.Proofs.YtgalpgakdcfilaaGreat.PK
theorem eqIntS_self(x:List Int)(hb:x.length≤4611686018427387904):Ev (fun k=>laws_eqIntS.f k x x) true:=by
  have:=Ev.iter (fun i k=>laws_eqIntS.l0 k x x (i:Int)) x.length true (fun i hi h=>Ev.step (fun k=>by
    simp only[laws_eqIntS.l0]
    rw[if_pos (by omega),if_pos (by omega),if_pos (by omega),if_pos trivial,w64s (by omega)]) h) (Ev.step (f:=fun _=>some true) (fun k=>by
    simp only[laws_eqIntS.l0]
    rw[if_neg (by omega)]) (Ev.now _))
  simpa [laws_eqIntS.f] using this
theorem toIntS_same(l:List Int)(hb:l.length≤35184372088832):Ev (fun k=>laws_toIntS.f k l) l:=by
  have:=Ev.iter (fun i k=>laws_toIntS.l0 k l (l.take i++(List.replicate l.length (0:Int)).drop i) (i:Int)) l.length l (fun i hi h=>Ev.step (fun k=>by
    simp only[laws_toIntS.l0]
    rw[if_pos (by omega),if_pos (by omega),if_pos (by simp;omega),w64s (by omega),Int.toNat_natCast,set_step _ _ _ _ (by simp;omega) (by simpa using hi),rd_nat hi,←take_snoc l i hi]) h) (Ev.step (f:=fun _=>some l) (fun k=>by
    simp only[laws_toIntS.l0]
    rw[if_neg (by omega)]
    simp) (Ev.now _))
  simp only[laws_toIntS.f]
  refine Ev.pos (by omega) (Ev.pos (by omega) ?_)
  simpa using this
end Go.Proofs.YtgalpgakdcfilaaGreat.L
