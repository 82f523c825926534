/- What the laws' helpers on rows of numbers tell (measured). No condition beyond sizes. -/
import Derived.Test.YtaopcamaceddnaaPK
import Derived.Test.YtaopcamaceddnaaZ11
namespace Go.Proofs.Ytaopcamaceddnaa.Z
set_option linter.unusedVariables false
set_option linter.unusedSimpArgs false
open Go.RowKit Go.Proofs.YtaopcamaceddnaaW.PrintWords Go.Proofs.Ytaopcamaceddnaa.PK

end Go.Proofs.Ytaopcamaceddnaa.Z
