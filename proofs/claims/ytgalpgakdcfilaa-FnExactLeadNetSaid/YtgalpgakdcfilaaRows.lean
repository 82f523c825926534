/-
  No cell of these rows narrows 'for every input' (looked for: loops, veiled, ifaces, maps, wideKeys, modest, calm, conditions, laid).
  DERIVED. THE GIVEN ROWS OF THIS SEAT. 10 by the template 'for every input the law returns true; each argument reads behind the call as it read before'; 0 by the template 'total and deterministic' (their statements: YtgalpgakdcfilaaTotals.lean).
  GIVEN WITH THE SEED: the statements are not yours to turn. If you find one false, say at which input.
  Laid BY PROGRAM, IN A SANDBOX (cutbox-rows.mjs): the forced cells as the released guide's own fill.sh prints them over the translation 5eccd237054c24fc… (all of the seat's roots in one cut). By AI agents, Wed Nov 11 2026. No macro, syntax, notation, axiom, sorry.
-/
import Derived.Test.YtgalpgakdcfilaaChecked
import GoSem.Claim
import GoSem.ClaimJoined
import GoSem.ClaimMapViews
import Derived.JoinedTies
import Derived.KernelRfl
namespace Go.Proofs.Ytgalpgakdcfilaa
/- THE CELL 'sum', in the pinned program and in every row, IS THE sha256 OF THE DUMP (.gsa) THAT YtgalpgakdcfilaaProg.lean LOADS. Nothing in Lean hashes anything: it is a label: what it is worth is what the hold of that sum in a sandbox is worth. -/
noncomputable def Try.pinned : Pinned := { name := "ytgalpgakdcfilaa", sum := "5eccd237054c24fc1dd8231c614cb3526c83cfb236a80fe63e14457303f7a57c", checked := Try.checked }
namespace Rows
def none {H : Type} : Left H := { results := [], args := [] }

/-- 'laws.FnExactProtestOk': WHATEVER THE INPUT: true; the input reads as it did. -/
def fnExactProtestOkSpec : ChangeSpec := { name := "fnExactProtestOk", fn := fun _ => fun
  | [d1, d2] => { results := [.lit (.bool true)], args := [d1, d2] }
  | _ => none }
def fnExactProtestOkRow : OpenClaim := { program := "ytgalpgakdcfilaa", sum := "5eccd237054c24fc1dd8231c614cb3526c83cfb236a80fe63e14457303f7a57c", func := "loop.example/g00834/laws.FnExactProtestOk", spec := "fnExactProtestOk", unfollowed := true, recurses := true, apart := false }
def FnExactProtestOkSaid : Prop := fnExactProtestOkRow.holds Try.pinned (OpenSpec.ofChange fnExactProtestOkSpec)

/-- ITS FALSE NEIGHBOUR: 'it returns false'. Refute it at one input. -/
def fnExactProtestOkWrong : ChangeSpec := { name := "fnExactProtestOk", fn := fun _ => fun
  | [d1, d2] => { results := [.lit (.bool false)], args := [d1, d2] }
  | _ => none }
def FnExactProtestOkWrongFalsely : Prop := fnExactProtestOkRow.holds Try.pinned (OpenSpec.ofChange fnExactProtestOkWrong)

/-- 'laws.FnExactHasWithdrawn': WHATEVER THE INPUT: true; the input reads as it did. -/
def fnExactHasWithdrawnSpec : ChangeSpec := { name := "fnExactHasWithdrawn", fn := fun _ => fun
  | [d1, d2] => { results := [.lit (.bool true)], args := [d1, d2] }
  | _ => none }
def fnExactHasWithdrawnRow : OpenClaim := { program := "ytgalpgakdcfilaa", sum := "5eccd237054c24fc1dd8231c614cb3526c83cfb236a80fe63e14457303f7a57c", func := "loop.example/g00834/laws.FnExactHasWithdrawn", spec := "fnExactHasWithdrawn", unfollowed := true, recurses := true, apart := false }
def FnExactHasWithdrawnSaid : Prop := fnExactHasWithdrawnRow.holds Try.pinned (OpenSpec.ofChange fnExactHasWithdrawnSpec)

/-- ITS FALSE NEIGHBOUR: 'it returns false'. Refute it at one input. -/
def fnExactHasWithdrawnWrong : ChangeSpec := { name := "fnExactHasWithdrawn", fn := fun _ => fun
  | [d1, d2] => { results := [.lit (.bool false)], args := [d1, d2] }
  | _ => none }
def FnExactHasWithdrawnWrongFalsely : Prop := fnExactHasWithdrawnRow.holds Try.pinned (OpenSpec.ofChange fnExactHasWithdrawnWrong)

/-- 'laws.FnExactWithdrawRule': WHATEVER THE INPUT: true; the input reads as it did. -/
def fnExactWithdrawRuleSpec : ChangeSpec := { name := "fnExactWithdrawRule", fn := fun _ => fun
  | [d1, d2] => { results := [.lit (.bool true)], args := [d1, d2] }
  | _ => none }
def fnExactWithdrawRuleRow : OpenClaim := { program := "ytgalpgakdcfilaa", sum := "5eccd237054c24fc1dd8231c614cb3526c83cfb236a80fe63e14457303f7a57c", func := "loop.example/g00834/laws.FnExactWithdrawRule", spec := "fnExactWithdrawRule", unfollowed := true, recurses := true, apart := false }
def FnExactWithdrawRuleSaid : Prop := fnExactWithdrawRuleRow.holds Try.pinned (OpenSpec.ofChange fnExactWithdrawRuleSpec)

/-- ITS FALSE NEIGHBOUR: 'it returns false'. Refute it at one input. -/
def fnExactWithdrawRuleWrong : ChangeSpec := { name := "fnExactWithdrawRule", fn := fun _ => fun
  | [d1, d2] => { results := [.lit (.bool false)], args := [d1, d2] }
  | _ => none }
def FnExactWithdrawRuleWrongFalsely : Prop := fnExactWithdrawRuleRow.holds Try.pinned (OpenSpec.ofChange fnExactWithdrawRuleWrong)

/-- 'laws.FnExactIsOutcome': WHATEVER THE INPUT: true; the input reads as it did. -/
def fnExactIsOutcomeSpec : ChangeSpec := { name := "fnExactIsOutcome", fn := fun _ => fun
  | [d1, d2] => { results := [.lit (.bool true)], args := [d1, d2] }
  | _ => none }
def fnExactIsOutcomeRow : OpenClaim := { program := "ytgalpgakdcfilaa", sum := "5eccd237054c24fc1dd8231c614cb3526c83cfb236a80fe63e14457303f7a57c", func := "loop.example/g00834/laws.FnExactIsOutcome", spec := "fnExactIsOutcome", unfollowed := true, recurses := true, apart := false }
def FnExactIsOutcomeSaid : Prop := fnExactIsOutcomeRow.holds Try.pinned (OpenSpec.ofChange fnExactIsOutcomeSpec)

/-- ITS FALSE NEIGHBOUR: 'it returns false'. Refute it at one input. -/
def fnExactIsOutcomeWrong : ChangeSpec := { name := "fnExactIsOutcome", fn := fun _ => fun
  | [d1, d2] => { results := [.lit (.bool false)], args := [d1, d2] }
  | _ => none }
def FnExactIsOutcomeWrongFalsely : Prop := fnExactIsOutcomeRow.holds Try.pinned (OpenSpec.ofChange fnExactIsOutcomeWrong)

/-- 'laws.FnExactCountOutcomes': WHATEVER THE INPUT: true; the input reads as it did. -/
def fnExactCountOutcomesSpec : ChangeSpec := { name := "fnExactCountOutcomes", fn := fun _ => fun
  | [d] => { results := [.lit (.bool true)], args := [d] }
  | _ => none }
def fnExactCountOutcomesRow : OpenClaim := { program := "ytgalpgakdcfilaa", sum := "5eccd237054c24fc1dd8231c614cb3526c83cfb236a80fe63e14457303f7a57c", func := "loop.example/g00834/laws.FnExactCountOutcomes", spec := "fnExactCountOutcomes", unfollowed := true, recurses := true, apart := false }
def FnExactCountOutcomesSaid : Prop := fnExactCountOutcomesRow.holds Try.pinned (OpenSpec.ofChange fnExactCountOutcomesSpec)

/-- ITS FALSE NEIGHBOUR: 'it returns false'. Refute it at one input. -/
def fnExactCountOutcomesWrong : ChangeSpec := { name := "fnExactCountOutcomes", fn := fun _ => fun
  | [d] => { results := [.lit (.bool false)], args := [d] }
  | _ => none }
def FnExactCountOutcomesWrongFalsely : Prop := fnExactCountOutcomesRow.holds Try.pinned (OpenSpec.ofChange fnExactCountOutcomesWrong)

/-- 'laws.FnExactActiveTeams': WHATEVER THE INPUT: true; the input reads as it did. -/
def fnExactActiveTeamsSpec : ChangeSpec := { name := "fnExactActiveTeams", fn := fun _ => fun
  | [d] => { results := [.lit (.bool true)], args := [d] }
  | _ => none }
def fnExactActiveTeamsRow : OpenClaim := { program := "ytgalpgakdcfilaa", sum := "5eccd237054c24fc1dd8231c614cb3526c83cfb236a80fe63e14457303f7a57c", func := "loop.example/g00834/laws.FnExactActiveTeams", spec := "fnExactActiveTeams", unfollowed := true, recurses := true, apart := false }
def FnExactActiveTeamsSaid : Prop := fnExactActiveTeamsRow.holds Try.pinned (OpenSpec.ofChange fnExactActiveTeamsSpec)

/-- ITS FALSE NEIGHBOUR: 'it returns false'. Refute it at one input. -/
def fnExactActiveTeamsWrong : ChangeSpec := { name := "fnExactActiveTeams", fn := fun _ => fun
  | [d] => { results := [.lit (.bool false)], args := [d] }
  | _ => none }
def FnExactActiveTeamsWrongFalsely : Prop := fnExactActiveTeamsRow.holds Try.pinned (OpenSpec.ofChange fnExactActiveTeamsWrong)

/-- 'laws.FnExactOutcomeAt': WHATEVER THE INPUT: true; the input reads as it did. -/
def fnExactOutcomeAtSpec : ChangeSpec := { name := "fnExactOutcomeAt", fn := fun _ => fun
  | [d1, d2] => { results := [.lit (.bool true)], args := [d1, d2] }
  | _ => none }
def fnExactOutcomeAtRow : OpenClaim := { program := "ytgalpgakdcfilaa", sum := "5eccd237054c24fc1dd8231c614cb3526c83cfb236a80fe63e14457303f7a57c", func := "loop.example/g00834/laws.FnExactOutcomeAt", spec := "fnExactOutcomeAt", unfollowed := true, recurses := true, apart := false }
def FnExactOutcomeAtSaid : Prop := fnExactOutcomeAtRow.holds Try.pinned (OpenSpec.ofChange fnExactOutcomeAtSpec)

/-- ITS FALSE NEIGHBOUR: 'it returns false'. Refute it at one input. -/
def fnExactOutcomeAtWrong : ChangeSpec := { name := "fnExactOutcomeAt", fn := fun _ => fun
  | [d1, d2] => { results := [.lit (.bool false)], args := [d1, d2] }
  | _ => none }
def FnExactOutcomeAtWrongFalsely : Prop := fnExactOutcomeAtRow.holds Try.pinned (OpenSpec.ofChange fnExactOutcomeAtWrong)

/-- 'laws.FnExactBestPoints': WHATEVER THE INPUT: true; the input reads as it did. -/
def fnExactBestPointsSpec : ChangeSpec := { name := "fnExactBestPoints", fn := fun _ => fun
  | [d1, d2] => { results := [.lit (.bool true)], args := [d1, d2] }
  | _ => none }
def fnExactBestPointsRow : OpenClaim := { program := "ytgalpgakdcfilaa", sum := "5eccd237054c24fc1dd8231c614cb3526c83cfb236a80fe63e14457303f7a57c", func := "loop.example/g00834/laws.FnExactBestPoints", spec := "fnExactBestPoints", unfollowed := true, recurses := true, apart := false }
def FnExactBestPointsSaid : Prop := fnExactBestPointsRow.holds Try.pinned (OpenSpec.ofChange fnExactBestPointsSpec)

/-- ITS FALSE NEIGHBOUR: 'it returns false'. Refute it at one input. -/
def fnExactBestPointsWrong : ChangeSpec := { name := "fnExactBestPoints", fn := fun _ => fun
  | [d1, d2] => { results := [.lit (.bool false)], args := [d1, d2] }
  | _ => none }
def FnExactBestPointsWrongFalsely : Prop := fnExactBestPointsRow.holds Try.pinned (OpenSpec.ofChange fnExactBestPointsWrong)

/-- 'laws.FnExactLeadNet': WHATEVER THE INPUT: true; the input reads as it did. -/
def fnExactLeadNetSpec : ChangeSpec := { name := "fnExactLeadNet", fn := fun _ => fun
  | [d1, d2] => { results := [.lit (.bool true)], args := [d1, d2] }
  | _ => none }
def fnExactLeadNetRow : OpenClaim := { program := "ytgalpgakdcfilaa", sum := "5eccd237054c24fc1dd8231c614cb3526c83cfb236a80fe63e14457303f7a57c", func := "loop.example/g00834/laws.FnExactLeadNet", spec := "fnExactLeadNet", unfollowed := true, recurses := true, apart := false }
def FnExactLeadNetSaid : Prop := fnExactLeadNetRow.holds Try.pinned (OpenSpec.ofChange fnExactLeadNetSpec)

/-- ITS FALSE NEIGHBOUR: 'it returns false'. Refute it at one input. -/
def fnExactLeadNetWrong : ChangeSpec := { name := "fnExactLeadNet", fn := fun _ => fun
  | [d1, d2] => { results := [.lit (.bool false)], args := [d1, d2] }
  | _ => none }
def FnExactLeadNetWrongFalsely : Prop := fnExactLeadNetRow.holds Try.pinned (OpenSpec.ofChange fnExactLeadNetWrong)

/-- 'laws.FnExactChangedTeams': WHATEVER THE INPUT: true; the input reads as it did. -/
def fnExactChangedTeamsSpec : ChangeSpec := { name := "fnExactChangedTeams", fn := fun _ => fun
  | [d1, d2] => { results := [.lit (.bool true)], args := [d1, d2] }
  | _ => none }
def fnExactChangedTeamsRow : OpenClaim := { program := "ytgalpgakdcfilaa", sum := "5eccd237054c24fc1dd8231c614cb3526c83cfb236a80fe63e14457303f7a57c", func := "loop.example/g00834/laws.FnExactChangedTeams", spec := "fnExactChangedTeams", inPlace := ["slices.overlaps[[]int]"], unfollowed := true, recurses := true, apart := false }
def FnExactChangedTeamsSaid : Prop := fnExactChangedTeamsRow.holds Try.pinned (OpenSpec.ofChange fnExactChangedTeamsSpec)

/-- ITS FALSE NEIGHBOUR: 'it returns false'. Refute it at one input. -/
def fnExactChangedTeamsWrong : ChangeSpec := { name := "fnExactChangedTeams", fn := fun _ => fun
  | [d1, d2] => { results := [.lit (.bool false)], args := [d1, d2] }
  | _ => none }
def FnExactChangedTeamsWrongFalsely : Prop := fnExactChangedTeamsRow.holds Try.pinned (OpenSpec.ofChange fnExactChangedTeamsWrong)

/- THE SECOND FORM. 'bulk': how many values and letters a reading holds, each counted each time it is reached (what is shared counts as often as it is met; a slice's spare places count too). A statement '..UptoSaid' is the law's where the arguments, and the package variables that the reading takes, are together of bulk at most 1048576: NARROWER than '..Said'. Prove '..Said' where nothing that the law and all that it calls make is longer than what came in: it says more and counts as full. Else prove '..UptoSaid'. A law counts once. -/
mutual
def uptoBulk {H : Type} : DataW H → Nat
  | .lit (.string bytes) => bytes.length + 1
  | .lit _ => 1
  | .nil => 1
  | .ptr d => uptoBulk d + 1
  | .slice elems spare => uptoBulkAll elems + uptoBulkAll spare + 1
  | .agg parts => uptoBulkAll parts + 1
  | .iface _ d => uptoBulk d + 1
  | .map entries => uptoBulkEntries entries + 1
  | .held _ => 1
def uptoBulkAll {H : Type} : List (DataW H) → Nat
  | [] => 0
  | d :: r => uptoBulk d + uptoBulkAll r
def uptoBulkEntries {H : Type} : List (Lit × DataW H) → Nat
  | [] => 0
  | x :: r => uptoBulkEntry x + uptoBulkEntries r
def uptoBulkEntry {H : Type} : Lit × DataW H → Nat
  | (.string bytes, d) => bytes.length + uptoBulk d + 1
  | (_, d) => uptoBulk d + 1
 end
def uptoSmall : (H : Type) → List (DataW H) → Bool := fun _ ds => decide (uptoBulkAll ds ≤ 1048576)
def OpenSpec.upto (s : _root_.Go.ChangeSpec) : _root_.Go.OpenSpec := { _root_.Go.OpenSpec.ofChange s with cond := some uptoSmall }

/-- 'laws.FnExactProtestOk', WHERE WHAT IT READS IS OF BULK AT MOST 1048576: true; the input reads as it did. -/
def fnExactProtestOkUptoRow : OpenClaim := { program := "ytgalpgakdcfilaa", sum := "5eccd237054c24fc1dd8231c614cb3526c83cfb236a80fe63e14457303f7a57c", func := "loop.example/g00834/laws.FnExactProtestOk", spec := "fnExactProtestOk", unfollowed := true, recurses := true, apart := false, narrowed := true }
def FnExactProtestOkUptoSaid : Prop := fnExactProtestOkUptoRow.holds Try.pinned (OpenSpec.upto fnExactProtestOkSpec)

/-- 'laws.FnExactHasWithdrawn', WHERE WHAT IT READS IS OF BULK AT MOST 1048576: true; the input reads as it did. -/
def fnExactHasWithdrawnUptoRow : OpenClaim := { program := "ytgalpgakdcfilaa", sum := "5eccd237054c24fc1dd8231c614cb3526c83cfb236a80fe63e14457303f7a57c", func := "loop.example/g00834/laws.FnExactHasWithdrawn", spec := "fnExactHasWithdrawn", unfollowed := true, recurses := true, apart := false, narrowed := true }
def FnExactHasWithdrawnUptoSaid : Prop := fnExactHasWithdrawnUptoRow.holds Try.pinned (OpenSpec.upto fnExactHasWithdrawnSpec)

/-- 'laws.FnExactWithdrawRule', WHERE WHAT IT READS IS OF BULK AT MOST 1048576: true; the input reads as it did. -/
def fnExactWithdrawRuleUptoRow : OpenClaim := { program := "ytgalpgakdcfilaa", sum := "5eccd237054c24fc1dd8231c614cb3526c83cfb236a80fe63e14457303f7a57c", func := "loop.example/g00834/laws.FnExactWithdrawRule", spec := "fnExactWithdrawRule", unfollowed := true, recurses := true, apart := false, narrowed := true }
def FnExactWithdrawRuleUptoSaid : Prop := fnExactWithdrawRuleUptoRow.holds Try.pinned (OpenSpec.upto fnExactWithdrawRuleSpec)

/-- 'laws.FnExactIsOutcome', WHERE WHAT IT READS IS OF BULK AT MOST 1048576: true; the input reads as it did. -/
def fnExactIsOutcomeUptoRow : OpenClaim := { program := "ytgalpgakdcfilaa", sum := "5eccd237054c24fc1dd8231c614cb3526c83cfb236a80fe63e14457303f7a57c", func := "loop.example/g00834/laws.FnExactIsOutcome", spec := "fnExactIsOutcome", unfollowed := true, recurses := true, apart := false, narrowed := true }
def FnExactIsOutcomeUptoSaid : Prop := fnExactIsOutcomeUptoRow.holds Try.pinned (OpenSpec.upto fnExactIsOutcomeSpec)

/-- 'laws.FnExactCountOutcomes', WHERE WHAT IT READS IS OF BULK AT MOST 1048576: true; the input reads as it did. -/
def fnExactCountOutcomesUptoRow : OpenClaim := { program := "ytgalpgakdcfilaa", sum := "5eccd237054c24fc1dd8231c614cb3526c83cfb236a80fe63e14457303f7a57c", func := "loop.example/g00834/laws.FnExactCountOutcomes", spec := "fnExactCountOutcomes", unfollowed := true, recurses := true, apart := false, narrowed := true }
def FnExactCountOutcomesUptoSaid : Prop := fnExactCountOutcomesUptoRow.holds Try.pinned (OpenSpec.upto fnExactCountOutcomesSpec)

/-- 'laws.FnExactActiveTeams', WHERE WHAT IT READS IS OF BULK AT MOST 1048576: true; the input reads as it did. -/
def fnExactActiveTeamsUptoRow : OpenClaim := { program := "ytgalpgakdcfilaa", sum := "5eccd237054c24fc1dd8231c614cb3526c83cfb236a80fe63e14457303f7a57c", func := "loop.example/g00834/laws.FnExactActiveTeams", spec := "fnExactActiveTeams", unfollowed := true, recurses := true, apart := false, narrowed := true }
def FnExactActiveTeamsUptoSaid : Prop := fnExactActiveTeamsUptoRow.holds Try.pinned (OpenSpec.upto fnExactActiveTeamsSpec)

/-- 'laws.FnExactOutcomeAt', WHERE WHAT IT READS IS OF BULK AT MOST 1048576: true; the input reads as it did. -/
def fnExactOutcomeAtUptoRow : OpenClaim := { program := "ytgalpgakdcfilaa", sum := "5eccd237054c24fc1dd8231c614cb3526c83cfb236a80fe63e14457303f7a57c", func := "loop.example/g00834/laws.FnExactOutcomeAt", spec := "fnExactOutcomeAt", unfollowed := true, recurses := true, apart := false, narrowed := true }
def FnExactOutcomeAtUptoSaid : Prop := fnExactOutcomeAtUptoRow.holds Try.pinned (OpenSpec.upto fnExactOutcomeAtSpec)

/-- 'laws.FnExactBestPoints', WHERE WHAT IT READS IS OF BULK AT MOST 1048576: true; the input reads as it did. -/
def fnExactBestPointsUptoRow : OpenClaim := { program := "ytgalpgakdcfilaa", sum := "5eccd237054c24fc1dd8231c614cb3526c83cfb236a80fe63e14457303f7a57c", func := "loop.example/g00834/laws.FnExactBestPoints", spec := "fnExactBestPoints", unfollowed := true, recurses := true, apart := false, narrowed := true }
def FnExactBestPointsUptoSaid : Prop := fnExactBestPointsUptoRow.holds Try.pinned (OpenSpec.upto fnExactBestPointsSpec)

/-- 'laws.FnExactLeadNet', WHERE WHAT IT READS IS OF BULK AT MOST 1048576: true; the input reads as it did. -/
def fnExactLeadNetUptoRow : OpenClaim := { program := "ytgalpgakdcfilaa", sum := "5eccd237054c24fc1dd8231c614cb3526c83cfb236a80fe63e14457303f7a57c", func := "loop.example/g00834/laws.FnExactLeadNet", spec := "fnExactLeadNet", unfollowed := true, recurses := true, apart := false, narrowed := true }
def FnExactLeadNetUptoSaid : Prop := fnExactLeadNetUptoRow.holds Try.pinned (OpenSpec.upto fnExactLeadNetSpec)

/-- 'laws.FnExactChangedTeams', WHERE WHAT IT READS IS OF BULK AT MOST 1048576: true; the input reads as it did. -/
def fnExactChangedTeamsUptoRow : OpenClaim := { program := "ytgalpgakdcfilaa", sum := "5eccd237054c24fc1dd8231c614cb3526c83cfb236a80fe63e14457303f7a57c", func := "loop.example/g00834/laws.FnExactChangedTeams", spec := "fnExactChangedTeams", inPlace := ["slices.overlaps[[]int]"], unfollowed := true, recurses := true, apart := false, narrowed := true }
def FnExactChangedTeamsUptoSaid : Prop := fnExactChangedTeamsUptoRow.holds Try.pinned (OpenSpec.upto fnExactChangedTeamsSpec)

end Rows
end Go.Proofs.Ytgalpgakdcfilaa
