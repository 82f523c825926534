-- Written by a program of this session (wip/xp.py, over the kit's print) out of the translation: functions, and the walks that show them.
import Derived.Test.YtpacmpppiphfjaaProg
import Derived.Below
import Derived.Deep.Draws
import Derived.Deep.AppendLies
import Derived.Maps.AppendAt
import Derived.OwnWalk
import Derived.Laws.BytesArg
import Derived.Laws.MakeOwn
import Derived.Laws.OwnMore
import Derived.Deep.OwnRows
import Derived.Tactics
import Derived.Lib.ConvBytes
import Derived.Laws.Slices
import Derived.WalkKit
import Derived.KernelRfl
import Derived.RowKit3
import Derived.Deep.LoopGhost
import Derived.Deep.QuietTactic
import Derived.BigQuiet
import Derived.WideLaws
import Derived.Deep.DeepCutAuto
import Derived.Deep.CutBlock
import Derived.Deep.RegionHeld3
import Derived.Laws.Rows
import Derived.Lib.AppendStr
import Derived.ArgAppend
import Derived.Laws.IdiomCopy
import Derived.OrdersHeld
import Derived.Laws.BitsLemmas
import Derived.RowKit
import Derived.WalkSpells
import Derived.Test.YtpacmpppiphfjaaWWords
import Derived.Test.YtpacmpppiphfjaaWLast
import Derived.Test.YtpacmpppiphfjaaWTab
import Derived.Test.YtpacmpppiphfjaaWFour
import Derived.Test.YtpacmpppiphfjaaWQPut
import Derived.Test.YtpacmpppiphfjaaWApart
import Derived.Test.YtpacmpppiphfjaaWArr
import Derived.Test.YtpacmpppiphfjaaWZeros
import Derived.Test.YtpacmpppiphfjaaWFoot
import Derived.Test.YtpacmpppiphfjaaWKept
import Derived.Test.YtpacmpppiphfjaaWShare
import Derived.Test.YtpacmpppiphfjaaWN
import Derived.Test.YtpacmpppiphfjaaWFootNe
import Derived.Test.YtpacmpppiphfjaaWAt
import Derived.Test.YtpacmpppiphfjaaWEqStruct
import Derived.Test.YtpacmpppiphfjaaWRepsOne
import Derived.Test.YtpacmpppiphfjaaWInv
import Derived.Test.YtpacmpppiphfjaaWInvWords
import Derived.Test.YtpacmpppiphfjaaWGuard
import Derived.Test.YtpacmpppiphfjaaWNEv
import Derived.Test.YtpacmpppiphfjaaWMore
namespace Go.Proofs.Ytpacmpppiphfjaa.X
open Go.RowKit Go.Proofs.YtpacmpppiphfjaaW.PrintWords Go.Proofs.YtpacmpppiphfjaaW.PrintLast Go.Proofs.YtpacmpppiphfjaaW.PrintMore
attribute [local go_sem] max2_int min2_int max_two min_two max_three min_three max_four min_four   -- for this text's walks alone
set_option linter.unusedVariables false
set_option linter.unusedSimpArgs false



def errW : Option Int → Value
  | none => .nilIface
  | some c => .iface 0 (.int .i64 c)
theorem errW_none : errW none = .nilIface := rfl
theorem errW_some (c : Int) : errW (some c) = .iface 0 (.int .i64 c) := rfl

theorem info3 : (Try.prog.info? 3).map (fun i => (i.zero, i.size, i.bytes)) = some (some (.int .i64 0), 1, 8) := by kernel_rfl
-- the values' own types

end Go.Proofs.Ytpacmpppiphfjaa.X
