/- How the laws' struct types read (printed by wip/lawrow.py). No condition. -/
import Derived.Test.YtaopcamaceddnaaOpens
import Derived.Test.YtaopcamaceddnaaZ0
namespace Go.Proofs.Ytaopcamaceddnaa.Z
open Go.RowKit Go.Proofs.YtaopcamaceddnaaW.PrintWords
set_option linter.unusedVariables false
set_option maxRecDepth 100000
end Go.Proofs.Ytaopcamaceddnaa.Z
