/- Numbers written into a row: what the laws' helper tells. Conditions: sizes. -/
import Derived.Test.YtaopcamaceddnaaPK
import Derived.Test.YtaopcamaceddnaaZ16
namespace Go.Proofs.Ytaopcamaceddnaa.Z
set_option linter.unusedVariables false
set_option linter.unusedSimpArgs false
open Go.RowKit Go.Proofs.YtaopcamaceddnaaW.PrintWords Go.Proofs.Ytaopcamaceddnaa.PK
end Go.Proofs.Ytaopcamaceddnaa.Z
