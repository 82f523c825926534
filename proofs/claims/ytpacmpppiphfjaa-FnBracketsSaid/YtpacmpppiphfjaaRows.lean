/-
  No cell of these rows narrows 'for every input' (looked for: loops, veiled, ifaces, maps, wideKeys, modest, calm, conditions, laid).
  DERIVED. THE GIVEN ROWS OF THIS SEAT. 11 by the template 'for every input the law returns true; each argument reads behind the call as it read before'; 0 by the template 'total and deterministic' (their statements: YtpacmpppiphfjaaTotals.lean).
  GIVEN WITH THE SEED: the statements are not yours to turn. If you find one false, say at which input.
  Laid BY PROGRAM, IN A SANDBOX (cutbox-rows.mjs): the forced cells as the released guide's own fill.sh prints them over the translation 849d10f342e432ef… (all of the seat's roots in one cut). By AI agents, Wed Nov 11 2026. No macro, syntax, notation, axiom, sorry.
-/
import Derived.Test.YtpacmpppiphfjaaChecked
import GoSem.Claim
import GoSem.ClaimJoined
import GoSem.ClaimMapViews
import Derived.JoinedTies
import Derived.KernelRfl
namespace Go.Proofs.Ytpacmpppiphfjaa
/- THE CELL 'sum', in the pinned program and in every row, IS THE sha256 OF THE DUMP (.gsa) THAT YtpacmpppiphfjaaProg.lean LOADS. Nothing in Lean hashes anything: it is a label: what it is worth is what the hold of that sum in a sandbox is worth. -/
noncomputable def Try.pinned : Pinned := { name := "ytpacmpppiphfjaa", sum := "849d10f342e432ef47283ac23bedc5198fd3afbb4dc2c9ba72c3652e913beb8f", checked := Try.checked }
namespace Rows
def none {H : Type} : Left H := { results := [], args := [] }

/-- 'laws.FnExactCupSizeOk': WHATEVER THE INPUT: true; the input reads as it did. -/
def fnExactCupSizeOkSpec : ChangeSpec := { name := "fnExactCupSizeOk", fn := fun _ => fun
  | [d] => { results := [.lit (.bool true)], args := [d] }
  | _ => none }
def fnExactCupSizeOkRow : OpenClaim := { program := "ytpacmpppiphfjaa", sum := "849d10f342e432ef47283ac23bedc5198fd3afbb4dc2c9ba72c3652e913beb8f", func := "loop.example/g00834/laws.FnExactCupSizeOk", spec := "fnExactCupSizeOk", apart := false }
def FnExactCupSizeOkSaid : Prop := fnExactCupSizeOkRow.holds Try.pinned (OpenSpec.ofChange fnExactCupSizeOkSpec)

/-- ITS FALSE NEIGHBOUR: 'it returns false'. Refute it at one input. -/
def fnExactCupSizeOkWrong : ChangeSpec := { name := "fnExactCupSizeOk", fn := fun _ => fun
  | [d] => { results := [.lit (.bool false)], args := [d] }
  | _ => none }
def FnExactCupSizeOkWrongFalsely : Prop := fnExactCupSizeOkRow.holds Try.pinned (OpenSpec.ofChange fnExactCupSizeOkWrong)

/-- 'laws.FnExactRuleName': WHATEVER THE INPUT: true; the input reads as it did. -/
def fnExactRuleNameSpec : ChangeSpec := { name := "fnExactRuleName", fn := fun _ => fun
  | [d] => { results := [.lit (.bool true)], args := [d] }
  | _ => none }
def fnExactRuleNameRow : OpenClaim := { program := "ytpacmpppiphfjaa", sum := "849d10f342e432ef47283ac23bedc5198fd3afbb4dc2c9ba72c3652e913beb8f", func := "loop.example/g00834/laws.FnExactRuleName", spec := "fnExactRuleName", apart := false }
def FnExactRuleNameSaid : Prop := fnExactRuleNameRow.holds Try.pinned (OpenSpec.ofChange fnExactRuleNameSpec)

/-- ITS FALSE NEIGHBOUR: 'it returns false'. Refute it at one input. -/
def fnExactRuleNameWrong : ChangeSpec := { name := "fnExactRuleName", fn := fun _ => fun
  | [d] => { results := [.lit (.bool false)], args := [d] }
  | _ => none }
def FnExactRuleNameWrongFalsely : Prop := fnExactRuleNameRow.holds Try.pinned (OpenSpec.ofChange fnExactRuleNameWrong)

/-- 'laws.FnExactRoundsOf': WHATEVER THE INPUT: true; the input reads as it did. -/
def fnExactRoundsOfSpec : ChangeSpec := { name := "fnExactRoundsOf", fn := fun _ => fun
  | [d] => { results := [.lit (.bool true)], args := [d] }
  | _ => none }
def fnExactRoundsOfRow : OpenClaim := { program := "ytpacmpppiphfjaa", sum := "849d10f342e432ef47283ac23bedc5198fd3afbb4dc2c9ba72c3652e913beb8f", func := "loop.example/g00834/laws.FnExactRoundsOf", spec := "fnExactRoundsOf", apart := false }
def FnExactRoundsOfSaid : Prop := fnExactRoundsOfRow.holds Try.pinned (OpenSpec.ofChange fnExactRoundsOfSpec)

/-- ITS FALSE NEIGHBOUR: 'it returns false'. Refute it at one input. -/
def fnExactRoundsOfWrong : ChangeSpec := { name := "fnExactRoundsOf", fn := fun _ => fun
  | [d] => { results := [.lit (.bool false)], args := [d] }
  | _ => none }
def FnExactRoundsOfWrongFalsely : Prop := fnExactRoundsOfRow.holds Try.pinned (OpenSpec.ofChange fnExactRoundsOfWrong)

/-- 'laws.FnExactBracketOf': WHATEVER THE INPUT: true; the input reads as it did. -/
def fnExactBracketOfSpec : ChangeSpec := { name := "fnExactBracketOf", fn := fun _ => fun
  | [d] => { results := [.lit (.bool true)], args := [d] }
  | _ => none }
def fnExactBracketOfRow : OpenClaim := { program := "ytpacmpppiphfjaa", sum := "849d10f342e432ef47283ac23bedc5198fd3afbb4dc2c9ba72c3652e913beb8f", func := "loop.example/g00834/laws.FnExactBracketOf", spec := "fnExactBracketOf", recurses := true, apart := false }
def FnExactBracketOfSaid : Prop := fnExactBracketOfRow.holds Try.pinned (OpenSpec.ofChange fnExactBracketOfSpec)

/-- ITS FALSE NEIGHBOUR: 'it returns false'. Refute it at one input. -/
def fnExactBracketOfWrong : ChangeSpec := { name := "fnExactBracketOf", fn := fun _ => fun
  | [d] => { results := [.lit (.bool false)], args := [d] }
  | _ => none }
def FnExactBracketOfWrongFalsely : Prop := fnExactBracketOfRow.holds Try.pinned (OpenSpec.ofChange fnExactBracketOfWrong)

/-- 'laws.FnExactMeetIn': WHATEVER THE INPUT: true; the input reads as it did. -/
def fnExactMeetInSpec : ChangeSpec := { name := "fnExactMeetIn", fn := fun _ => fun
  | [d1, d2, d3] => { results := [.lit (.bool true)], args := [d1, d2, d3] }
  | _ => none }
def fnExactMeetInRow : OpenClaim := { program := "ytpacmpppiphfjaa", sum := "849d10f342e432ef47283ac23bedc5198fd3afbb4dc2c9ba72c3652e913beb8f", func := "loop.example/g00834/laws.FnExactMeetIn", spec := "fnExactMeetIn", recurses := true, apart := false }
def FnExactMeetInSaid : Prop := fnExactMeetInRow.holds Try.pinned (OpenSpec.ofChange fnExactMeetInSpec)

/-- ITS FALSE NEIGHBOUR: 'it returns false'. Refute it at one input. -/
def fnExactMeetInWrong : ChangeSpec := { name := "fnExactMeetIn", fn := fun _ => fun
  | [d1, d2, d3] => { results := [.lit (.bool false)], args := [d1, d2, d3] }
  | _ => none }
def FnExactMeetInWrongFalsely : Prop := fnExactMeetInRow.holds Try.pinned (OpenSpec.ofChange fnExactMeetInWrong)

/-- 'laws.FnExactOpponentsOf': WHATEVER THE INPUT: true; the input reads as it did. -/
def fnExactOpponentsOfSpec : ChangeSpec := { name := "fnExactOpponentsOf", fn := fun _ => fun
  | [d1, d2] => { results := [.lit (.bool true)], args := [d1, d2] }
  | _ => none }
def fnExactOpponentsOfRow : OpenClaim := { program := "ytpacmpppiphfjaa", sum := "849d10f342e432ef47283ac23bedc5198fd3afbb4dc2c9ba72c3652e913beb8f", func := "loop.example/g00834/laws.FnExactOpponentsOf", spec := "fnExactOpponentsOf", recurses := true, apart := false }
def FnExactOpponentsOfSaid : Prop := fnExactOpponentsOfRow.holds Try.pinned (OpenSpec.ofChange fnExactOpponentsOfSpec)

/-- ITS FALSE NEIGHBOUR: 'it returns false'. Refute it at one input. -/
def fnExactOpponentsOfWrong : ChangeSpec := { name := "fnExactOpponentsOf", fn := fun _ => fun
  | [d1, d2] => { results := [.lit (.bool false)], args := [d1, d2] }
  | _ => none }
def FnExactOpponentsOfWrongFalsely : Prop := fnExactOpponentsOfRow.holds Try.pinned (OpenSpec.ofChange fnExactOpponentsOfWrong)

/-- 'laws.FnExactCupOk': WHATEVER THE INPUT: true; the input reads as it did. -/
def fnExactCupOkSpec : ChangeSpec := { name := "fnExactCupOk", fn := fun _ => fun
  | [d] => { results := [.lit (.bool true)], args := [d] }
  | _ => none }
def fnExactCupOkRow : OpenClaim := { program := "ytpacmpppiphfjaa", sum := "849d10f342e432ef47283ac23bedc5198fd3afbb4dc2c9ba72c3652e913beb8f", func := "loop.example/g00834/laws.FnExactCupOk", spec := "fnExactCupOk", recurses := true, apart := false }
def FnExactCupOkSaid : Prop := fnExactCupOkRow.holds Try.pinned (OpenSpec.ofChange fnExactCupOkSpec)

/-- ITS FALSE NEIGHBOUR: 'it returns false'. Refute it at one input. -/
def fnExactCupOkWrong : ChangeSpec := { name := "fnExactCupOk", fn := fun _ => fun
  | [d] => { results := [.lit (.bool false)], args := [d] }
  | _ => none }
def FnExactCupOkWrongFalsely : Prop := fnExactCupOkRow.holds Try.pinned (OpenSpec.ofChange fnExactCupOkWrong)

/-- 'laws.FnExactChampionOf': WHATEVER THE INPUT: true; the input reads as it did. -/
def fnExactChampionOfSpec : ChangeSpec := { name := "fnExactChampionOf", fn := fun _ => fun
  | [d] => { results := [.lit (.bool true)], args := [d] }
  | _ => none }
def fnExactChampionOfRow : OpenClaim := { program := "ytpacmpppiphfjaa", sum := "849d10f342e432ef47283ac23bedc5198fd3afbb4dc2c9ba72c3652e913beb8f", func := "loop.example/g00834/laws.FnExactChampionOf", spec := "fnExactChampionOf", recurses := true, apart := false }
def FnExactChampionOfSaid : Prop := fnExactChampionOfRow.holds Try.pinned (OpenSpec.ofChange fnExactChampionOfSpec)

/-- ITS FALSE NEIGHBOUR: 'it returns false'. Refute it at one input. -/
def fnExactChampionOfWrong : ChangeSpec := { name := "fnExactChampionOf", fn := fun _ => fun
  | [d] => { results := [.lit (.bool false)], args := [d] }
  | _ => none }
def FnExactChampionOfWrongFalsely : Prop := fnExactChampionOfRow.holds Try.pinned (OpenSpec.ofChange fnExactChampionOfWrong)

/-- 'laws.FnBrackets': WHATEVER THE INPUT: true; the input reads as it did. -/
def fnBracketsSpec : ChangeSpec := { name := "fnBrackets", fn := fun _ => fun
  | [d] => { results := [.lit (.bool true)], args := [d] }
  | _ => none }
def fnBracketsRow : OpenClaim := { program := "ytpacmpppiphfjaa", sum := "849d10f342e432ef47283ac23bedc5198fd3afbb4dc2c9ba72c3652e913beb8f", func := "loop.example/g00834/laws.FnBrackets", spec := "fnBrackets", recurses := true, apart := false }
def FnBracketsSaid : Prop := fnBracketsRow.holds Try.pinned (OpenSpec.ofChange fnBracketsSpec)

/-- ITS FALSE NEIGHBOUR: 'it returns false'. Refute it at one input. -/
def fnBracketsWrong : ChangeSpec := { name := "fnBrackets", fn := fun _ => fun
  | [d] => { results := [.lit (.bool false)], args := [d] }
  | _ => none }
def FnBracketsWrongFalsely : Prop := fnBracketsRow.holds Try.pinned (OpenSpec.ofChange fnBracketsWrong)

/-- 'laws.FnExactWinGame': WHATEVER THE INPUT: true; the input reads as it did. -/
def fnExactWinGameSpec : ChangeSpec := { name := "fnExactWinGame", fn := fun _ => fun
  | [d1, d2] => { results := [.lit (.bool true)], args := [d1, d2] }
  | _ => none }
def fnExactWinGameRow : OpenClaim := { program := "ytpacmpppiphfjaa", sum := "849d10f342e432ef47283ac23bedc5198fd3afbb4dc2c9ba72c3652e913beb8f", func := "loop.example/g00834/laws.FnExactWinGame", spec := "fnExactWinGame", recurses := true, apart := false }
def FnExactWinGameSaid : Prop := fnExactWinGameRow.holds Try.pinned (OpenSpec.ofChange fnExactWinGameSpec)

/-- ITS FALSE NEIGHBOUR: 'it returns false'. Refute it at one input. -/
def fnExactWinGameWrong : ChangeSpec := { name := "fnExactWinGame", fn := fun _ => fun
  | [d1, d2] => { results := [.lit (.bool false)], args := [d1, d2] }
  | _ => none }
def FnExactWinGameWrongFalsely : Prop := fnExactWinGameRow.holds Try.pinned (OpenSpec.ofChange fnExactWinGameWrong)

/-- 'laws.FnExactWaysToWin': WHATEVER THE INPUT: true; the input reads as it did. -/
def fnExactWaysToWinSpec : ChangeSpec := { name := "fnExactWaysToWin", fn := fun _ => fun
  | [d1, d2] => { results := [.lit (.bool true)], args := [d1, d2] }
  | _ => none }
def fnExactWaysToWinRow : OpenClaim := { program := "ytpacmpppiphfjaa", sum := "849d10f342e432ef47283ac23bedc5198fd3afbb4dc2c9ba72c3652e913beb8f", func := "loop.example/g00834/laws.FnExactWaysToWin", spec := "fnExactWaysToWin", recurses := true, apart := false }
def FnExactWaysToWinSaid : Prop := fnExactWaysToWinRow.holds Try.pinned (OpenSpec.ofChange fnExactWaysToWinSpec)

/-- ITS FALSE NEIGHBOUR: 'it returns false'. Refute it at one input. -/
def fnExactWaysToWinWrong : ChangeSpec := { name := "fnExactWaysToWin", fn := fun _ => fun
  | [d1, d2] => { results := [.lit (.bool false)], args := [d1, d2] }
  | _ => none }
def FnExactWaysToWinWrongFalsely : Prop := fnExactWaysToWinRow.holds Try.pinned (OpenSpec.ofChange fnExactWaysToWinWrong)

/- THE SECOND FORM. 'bulk': how many values and letters a reading holds, each counted each time it is reached (what is shared counts as often as it is met; a slice's spare places count too). A statement '..UptoSaid' is the law's where the arguments, and the package variables that the reading takes, are together of bulk at most 1048576: NARROWER than '..Said'. Prove '..Said' where nothing that the law and all that it calls make is longer than what came in: it says more and counts as full. Else prove '..UptoSaid'. A law counts once. -/
mutual
def uptoBulk {H : Type} : DataW H → Nat
  | .lit (.string bytes) => bytes.length + 1
  | .lit _ => 1
  | .nil => 1
  | .ptr d => uptoBulk d + 1
  | .slice elems spare => uptoBulkAll elems + uptoBulkAll spare + 1
  | .agg parts => uptoBulkAll parts + 1
  | .iface _ d => uptoBulk d + 1
  | .map entries => uptoBulkEntries entries + 1
  | .held _ => 1
def uptoBulkAll {H : Type} : List (DataW H) → Nat
  | [] => 0
  | d :: r => uptoBulk d + uptoBulkAll r
def uptoBulkEntries {H : Type} : List (Lit × DataW H) → Nat
  | [] => 0
  | x :: r => uptoBulkEntry x + uptoBulkEntries r
def uptoBulkEntry {H : Type} : Lit × DataW H → Nat
  | (.string bytes, d) => bytes.length + uptoBulk d + 1
  | (_, d) => uptoBulk d + 1
 end
def uptoSmall : (H : Type) → List (DataW H) → Bool := fun _ ds => decide (uptoBulkAll ds ≤ 1048576)
def OpenSpec.upto (s : _root_.Go.ChangeSpec) : _root_.Go.OpenSpec := { _root_.Go.OpenSpec.ofChange s with cond := some uptoSmall }

/-- 'laws.FnExactCupSizeOk', WHERE WHAT IT READS IS OF BULK AT MOST 1048576: true; the input reads as it did. -/
def fnExactCupSizeOkUptoRow : OpenClaim := { program := "ytpacmpppiphfjaa", sum := "849d10f342e432ef47283ac23bedc5198fd3afbb4dc2c9ba72c3652e913beb8f", func := "loop.example/g00834/laws.FnExactCupSizeOk", spec := "fnExactCupSizeOk", apart := false, narrowed := true }
def FnExactCupSizeOkUptoSaid : Prop := fnExactCupSizeOkUptoRow.holds Try.pinned (OpenSpec.upto fnExactCupSizeOkSpec)

/-- 'laws.FnExactRuleName', WHERE WHAT IT READS IS OF BULK AT MOST 1048576: true; the input reads as it did. -/
def fnExactRuleNameUptoRow : OpenClaim := { program := "ytpacmpppiphfjaa", sum := "849d10f342e432ef47283ac23bedc5198fd3afbb4dc2c9ba72c3652e913beb8f", func := "loop.example/g00834/laws.FnExactRuleName", spec := "fnExactRuleName", apart := false, narrowed := true }
def FnExactRuleNameUptoSaid : Prop := fnExactRuleNameUptoRow.holds Try.pinned (OpenSpec.upto fnExactRuleNameSpec)

/-- 'laws.FnExactRoundsOf', WHERE WHAT IT READS IS OF BULK AT MOST 1048576: true; the input reads as it did. -/
def fnExactRoundsOfUptoRow : OpenClaim := { program := "ytpacmpppiphfjaa", sum := "849d10f342e432ef47283ac23bedc5198fd3afbb4dc2c9ba72c3652e913beb8f", func := "loop.example/g00834/laws.FnExactRoundsOf", spec := "fnExactRoundsOf", apart := false, narrowed := true }
def FnExactRoundsOfUptoSaid : Prop := fnExactRoundsOfUptoRow.holds Try.pinned (OpenSpec.upto fnExactRoundsOfSpec)

/-- 'laws.FnExactBracketOf', WHERE WHAT IT READS IS OF BULK AT MOST 1048576: true; the input reads as it did. -/
def fnExactBracketOfUptoRow : OpenClaim := { program := "ytpacmpppiphfjaa", sum := "849d10f342e432ef47283ac23bedc5198fd3afbb4dc2c9ba72c3652e913beb8f", func := "loop.example/g00834/laws.FnExactBracketOf", spec := "fnExactBracketOf", recurses := true, apart := false, narrowed := true }
def FnExactBracketOfUptoSaid : Prop := fnExactBracketOfUptoRow.holds Try.pinned (OpenSpec.upto fnExactBracketOfSpec)

/-- 'laws.FnExactMeetIn', WHERE WHAT IT READS IS OF BULK AT MOST 1048576: true; the input reads as it did. -/
def fnExactMeetInUptoRow : OpenClaim := { program := "ytpacmpppiphfjaa", sum := "849d10f342e432ef47283ac23bedc5198fd3afbb4dc2c9ba72c3652e913beb8f", func := "loop.example/g00834/laws.FnExactMeetIn", spec := "fnExactMeetIn", recurses := true, apart := false, narrowed := true }
def FnExactMeetInUptoSaid : Prop := fnExactMeetInUptoRow.holds Try.pinned (OpenSpec.upto fnExactMeetInSpec)

/-- 'laws.FnExactOpponentsOf', WHERE WHAT IT READS IS OF BULK AT MOST 1048576: true; the input reads as it did. -/
def fnExactOpponentsOfUptoRow : OpenClaim := { program := "ytpacmpppiphfjaa", sum := "849d10f342e432ef47283ac23bedc5198fd3afbb4dc2c9ba72c3652e913beb8f", func := "loop.example/g00834/laws.FnExactOpponentsOf", spec := "fnExactOpponentsOf", recurses := true, apart := false, narrowed := true }
def FnExactOpponentsOfUptoSaid : Prop := fnExactOpponentsOfUptoRow.holds Try.pinned (OpenSpec.upto fnExactOpponentsOfSpec)

/-- 'laws.FnExactCupOk', WHERE WHAT IT READS IS OF BULK AT MOST 1048576: true; the input reads as it did. -/
def fnExactCupOkUptoRow : OpenClaim := { program := "ytpacmpppiphfjaa", sum := "849d10f342e432ef47283ac23bedc5198fd3afbb4dc2c9ba72c3652e913beb8f", func := "loop.example/g00834/laws.FnExactCupOk", spec := "fnExactCupOk", recurses := true, apart := false, narrowed := true }
def FnExactCupOkUptoSaid : Prop := fnExactCupOkUptoRow.holds Try.pinned (OpenSpec.upto fnExactCupOkSpec)

/-- 'laws.FnExactChampionOf', WHERE WHAT IT READS IS OF BULK AT MOST 1048576: true; the input reads as it did. -/
def fnExactChampionOfUptoRow : OpenClaim := { program := "ytpacmpppiphfjaa", sum := "849d10f342e432ef47283ac23bedc5198fd3afbb4dc2c9ba72c3652e913beb8f", func := "loop.example/g00834/laws.FnExactChampionOf", spec := "fnExactChampionOf", recurses := true, apart := false, narrowed := true }
def FnExactChampionOfUptoSaid : Prop := fnExactChampionOfUptoRow.holds Try.pinned (OpenSpec.upto fnExactChampionOfSpec)

/-- 'laws.FnBrackets', WHERE WHAT IT READS IS OF BULK AT MOST 1048576: true; the input reads as it did. -/
def fnBracketsUptoRow : OpenClaim := { program := "ytpacmpppiphfjaa", sum := "849d10f342e432ef47283ac23bedc5198fd3afbb4dc2c9ba72c3652e913beb8f", func := "loop.example/g00834/laws.FnBrackets", spec := "fnBrackets", recurses := true, apart := false, narrowed := true }
def FnBracketsUptoSaid : Prop := fnBracketsUptoRow.holds Try.pinned (OpenSpec.upto fnBracketsSpec)

/-- 'laws.FnExactWinGame', WHERE WHAT IT READS IS OF BULK AT MOST 1048576: true; the input reads as it did. -/
def fnExactWinGameUptoRow : OpenClaim := { program := "ytpacmpppiphfjaa", sum := "849d10f342e432ef47283ac23bedc5198fd3afbb4dc2c9ba72c3652e913beb8f", func := "loop.example/g00834/laws.FnExactWinGame", spec := "fnExactWinGame", recurses := true, apart := false, narrowed := true }
def FnExactWinGameUptoSaid : Prop := fnExactWinGameUptoRow.holds Try.pinned (OpenSpec.upto fnExactWinGameSpec)

/-- 'laws.FnExactWaysToWin', WHERE WHAT IT READS IS OF BULK AT MOST 1048576: true; the input reads as it did. -/
def fnExactWaysToWinUptoRow : OpenClaim := { program := "ytpacmpppiphfjaa", sum := "849d10f342e432ef47283ac23bedc5198fd3afbb4dc2c9ba72c3652e913beb8f", func := "loop.example/g00834/laws.FnExactWaysToWin", spec := "fnExactWaysToWin", recurses := true, apart := false, narrowed := true }
def FnExactWaysToWinUptoSaid : Prop := fnExactWaysToWinUptoRow.holds Try.pinned (OpenSpec.upto fnExactWaysToWinSpec)

end Rows
end Go.Proofs.Ytpacmpppiphfjaa
