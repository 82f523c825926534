/- What the laws write into contests. Conditions: sizes of rows. -/
import Derived.Test.YtaopcamaceddnaaContC
import Derived.Test.YtaopcamaceddnaaLawMark
import Derived.Test.YtaopcamaceddnaaZ16
namespace Go.Proofs.Ytaopcamaceddnaa.Z
set_option linter.unusedVariables false
set_option linter.unusedSimpArgs false
open Go.RowKit Go.Proofs.YtaopcamaceddnaaW.PrintWords Go.Proofs.Ytaopcamaceddnaa.PK
end Go.Proofs.Ytaopcamaceddnaa.Z
