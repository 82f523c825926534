/- Pipes of both, read by their places. No condition. -/
import Derived.Test.YteaemblallbgpaaPK
import Derived.Test.YteaemblallbgpaaX2
namespace Go.Proofs.Yteaemblallbgpaa.X
set_option linter.unusedVariables false
set_option linter.unusedSimpArgs false
open Go.RowKit Go.Proofs.YteaemblallbgpaaW.PrintWords Go.Proofs.Yteaemblallbgpaa.PK
abbrev P0 := S77
abbrev P1 := S60
def cv (p : P0) : P1 := ⟨p.f0, p.f1, p.f2⟩
theorem rd0_nat {x : List P0} {i : Nat} (h : i < x.length) : rd_T77 x (i : Int) = x[i] := by simp [rd_T77, List.getD_eq_getElem?_getD, h]
theorem rd1_nat {x : List P1} {i : Nat} (h : i < x.length) : rd_T60 x (i : Int) = x[i] := by simp [rd_T60, List.getD_eq_getElem?_getD, h]
end Go.Proofs.Yteaemblallbgpaa.X
