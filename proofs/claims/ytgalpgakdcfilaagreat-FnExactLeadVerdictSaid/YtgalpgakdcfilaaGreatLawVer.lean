/- Verdicts in the laws: equal, marked, held. No condition beyond sizes. -/
import Derived.Test.YtgalpgakdcfilaaGreatLawInt
import Derived.Test.YtgalpgakdcfilaaGreatLawMark
import Derived.Test.YtgalpgakdcfilaaGreatL60
namespace Go.Proofs.YtgalpgakdcfilaaGreat.L
set_option linter.unusedVariables false
set_option linter.unusedSimpArgs false
open Go.RowKit Go.Proofs.YtgalpgakdcfilaaGreatW.PrintWords Go.Proofs.YtgalpgakdcfilaaGreat.PK
theorem eqVerdict_self(a:Bool)(x y:List Int)(hx:x.length≤1000)(hy:y.length≤1000):Ev (fun k=>laws_eqVerdict.f k a x y a x y) true:=by
  unfold laws_eqVerdict.f
  exact Ev.neg (by simp) (Ev.bind (eqIntS_self x (by omega)) (Ev.pos rfl (Ev.bind (eqIntS_self y (by omega)) (Ev.pos rfl (Ev.now _)))))
theorem markVerdict_marks(a:Bool)(x y:List Int)(hx:x.length≤1000)(hy:y.length≤1000):Ev (fun k=>laws_markVerdict.f k a x y 1) (1+x.length+y.length,marks 1 x.length,marks (1+x.length) y.length):=
  Ev.bind (markIntS_marks x 1 (by omega) (by omega)) (Ev.bind (markIntS_marks y (1+x.length) (by omega) (by omega)) (Ev.now _))
theorem heldVerdict_marks(a:Bool)(m n:Nat)(hm:m≤1000)(hn:n≤1000):Ev (fun k=>laws_heldVerdict.f k a (marks 1 m) (marks (1+m) n) 1) (1+m+n):=
  Ev.bind (heldIntS_marks 1 m (by omega) (by omega)) (Ev.neg (by omega) (Ev.bind (heldIntS_marks (1+m) n (by omega) (by omega)) (Ev.neg (by omega) (Ev.now _))))
end Go.Proofs.YtgalpgakdcfilaaGreat.L
