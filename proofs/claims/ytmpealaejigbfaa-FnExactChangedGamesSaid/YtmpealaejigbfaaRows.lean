/-
  No cell of these rows narrows 'for every input' (looked for: loops, veiled, ifaces, maps, wideKeys, modest, calm, conditions, laid).
  DERIVED. THE GIVEN ROWS OF THIS SEAT. 5 by the template 'for every input the law returns true; each argument reads behind the call as it read before'; 0 by the template 'total and deterministic' (their statements: YtmpealaejigbfaaTotals.lean).
  GIVEN WITH THE SEED: the statements are not yours to turn. If you find one false, say at which input.
  Laid BY PROGRAM, IN A SANDBOX (cutbox-rows.mjs): the forced cells as the released guide's own fill.sh prints them over the translation 12a85b7bd9f607bf… (all of the seat's roots in one cut). By AI agents, Wed Nov 11 2026. No macro, syntax, notation, axiom, sorry.
-/
import Derived.Test.YtmpealaejigbfaaChecked
import GoSem.Claim
import GoSem.ClaimJoined
import GoSem.ClaimMapViews
import Derived.JoinedTies
import Derived.KernelRfl
namespace Go.Proofs.Ytmpealaejigbfaa
/- THE CELL 'sum', in the pinned program and in every row, IS THE sha256 OF THE DUMP (.gsa) THAT YtmpealaejigbfaaProg.lean LOADS. Nothing in Lean hashes anything: it is a label: what it is worth is what the hold of that sum in a sandbox is worth. -/
noncomputable def Try.pinned : Pinned := { name := "ytmpealaejigbfaa", sum := "12a85b7bd9f607bfc0b8a112bbf972f546d217a199240e24f92c448d8165ab4e", checked := Try.checked }
namespace Rows
def none {H : Type} : Left H := { results := [], args := [] }

/-- 'laws.FnExactSameSent': WHATEVER THE INPUT: true; the input reads as it did. -/
def fnExactSameSentSpec : ChangeSpec := { name := "fnExactSameSent", fn := fun _ => fun
  | [d1, d2] => { results := [.lit (.bool true)], args := [d1, d2] }
  | _ => none }
def fnExactSameSentRow : OpenClaim := { program := "ytmpealaejigbfaa", sum := "12a85b7bd9f607bfc0b8a112bbf972f546d217a199240e24f92c448d8165ab4e", func := "loop.example/g00834/laws.FnExactSameSent", spec := "fnExactSameSent", apart := false }
def FnExactSameSentSaid : Prop := fnExactSameSentRow.holds Try.pinned (OpenSpec.ofChange fnExactSameSentSpec)

/-- ITS FALSE NEIGHBOUR: 'it returns false'. Refute it at one input. -/
def fnExactSameSentWrong : ChangeSpec := { name := "fnExactSameSent", fn := fun _ => fun
  | [d1, d2] => { results := [.lit (.bool false)], args := [d1, d2] }
  | _ => none }
def FnExactSameSentWrongFalsely : Prop := fnExactSameSentRow.holds Try.pinned (OpenSpec.ofChange fnExactSameSentWrong)

/-- 'laws.FnExactIsSimple': WHATEVER THE INPUT: true; the input reads as it did. -/
def fnExactIsSimpleSpec : ChangeSpec := { name := "fnExactIsSimple", fn := fun _ => fun
  | [d] => { results := [.lit (.bool true)], args := [d] }
  | _ => none }
def fnExactIsSimpleRow : OpenClaim := { program := "ytmpealaejigbfaa", sum := "12a85b7bd9f607bfc0b8a112bbf972f546d217a199240e24f92c448d8165ab4e", func := "loop.example/g00834/laws.FnExactIsSimple", spec := "fnExactIsSimple", apart := false }
def FnExactIsSimpleSaid : Prop := fnExactIsSimpleRow.holds Try.pinned (OpenSpec.ofChange fnExactIsSimpleSpec)

/-- ITS FALSE NEIGHBOUR: 'it returns false'. Refute it at one input. -/
def fnExactIsSimpleWrong : ChangeSpec := { name := "fnExactIsSimple", fn := fun _ => fun
  | [d] => { results := [.lit (.bool false)], args := [d] }
  | _ => none }
def FnExactIsSimpleWrongFalsely : Prop := fnExactIsSimpleRow.holds Try.pinned (OpenSpec.ofChange fnExactIsSimpleWrong)

/-- 'laws.FnExactTouchedBy': WHATEVER THE INPUT: true; the input reads as it did. -/
def fnExactTouchedBySpec : ChangeSpec := { name := "fnExactTouchedBy", fn := fun _ => fun
  | [d1, d2] => { results := [.lit (.bool true)], args := [d1, d2] }
  | _ => none }
def fnExactTouchedByRow : OpenClaim := { program := "ytmpealaejigbfaa", sum := "12a85b7bd9f607bfc0b8a112bbf972f546d217a199240e24f92c448d8165ab4e", func := "loop.example/g00834/laws.FnExactTouchedBy", spec := "fnExactTouchedBy", unfollowed := true, recurses := true, apart := false }
def FnExactTouchedBySaid : Prop := fnExactTouchedByRow.holds Try.pinned (OpenSpec.ofChange fnExactTouchedBySpec)

/-- ITS FALSE NEIGHBOUR: 'it returns false'. Refute it at one input. -/
def fnExactTouchedByWrong : ChangeSpec := { name := "fnExactTouchedBy", fn := fun _ => fun
  | [d1, d2] => { results := [.lit (.bool false)], args := [d1, d2] }
  | _ => none }
def FnExactTouchedByWrongFalsely : Prop := fnExactTouchedByRow.holds Try.pinned (OpenSpec.ofChange fnExactTouchedByWrong)

/-- 'laws.FnExactSameBooks': WHATEVER THE INPUT: true; the input reads as it did. -/
def fnExactSameBooksSpec : ChangeSpec := { name := "fnExactSameBooks", fn := fun _ => fun
  | [d1, d2] => { results := [.lit (.bool true)], args := [d1, d2] }
  | _ => none }
def fnExactSameBooksRow : OpenClaim := { program := "ytmpealaejigbfaa", sum := "12a85b7bd9f607bfc0b8a112bbf972f546d217a199240e24f92c448d8165ab4e", func := "loop.example/g00834/laws.FnExactSameBooks", spec := "fnExactSameBooks", apart := false }
def FnExactSameBooksSaid : Prop := fnExactSameBooksRow.holds Try.pinned (OpenSpec.ofChange fnExactSameBooksSpec)

/-- ITS FALSE NEIGHBOUR: 'it returns false'. Refute it at one input. -/
def fnExactSameBooksWrong : ChangeSpec := { name := "fnExactSameBooks", fn := fun _ => fun
  | [d1, d2] => { results := [.lit (.bool false)], args := [d1, d2] }
  | _ => none }
def FnExactSameBooksWrongFalsely : Prop := fnExactSameBooksRow.holds Try.pinned (OpenSpec.ofChange fnExactSameBooksWrong)

/-- 'laws.FnExactChangedGames': WHATEVER THE INPUT: true; the input reads as it did. -/
def fnExactChangedGamesSpec : ChangeSpec := { name := "fnExactChangedGames", fn := fun _ => fun
  | [d1, d2] => { results := [.lit (.bool true)], args := [d1, d2] }
  | _ => none }
def fnExactChangedGamesRow : OpenClaim := { program := "ytmpealaejigbfaa", sum := "12a85b7bd9f607bfc0b8a112bbf972f546d217a199240e24f92c448d8165ab4e", func := "loop.example/g00834/laws.FnExactChangedGames", spec := "fnExactChangedGames", unfollowed := true, recurses := true, apart := false }
def FnExactChangedGamesSaid : Prop := fnExactChangedGamesRow.holds Try.pinned (OpenSpec.ofChange fnExactChangedGamesSpec)

/-- ITS FALSE NEIGHBOUR: 'it returns false'. Refute it at one input. -/
def fnExactChangedGamesWrong : ChangeSpec := { name := "fnExactChangedGames", fn := fun _ => fun
  | [d1, d2] => { results := [.lit (.bool false)], args := [d1, d2] }
  | _ => none }
def FnExactChangedGamesWrongFalsely : Prop := fnExactChangedGamesRow.holds Try.pinned (OpenSpec.ofChange fnExactChangedGamesWrong)

/- THE SECOND FORM. 'bulk': how many values and letters a reading holds, each counted each time it is reached (what is shared counts as often as it is met; a slice's spare places count too). A statement '..UptoSaid' is the law's where the arguments, and the package variables that the reading takes, are together of bulk at most 1048576: NARROWER than '..Said'. Prove '..Said' where nothing that the law and all that it calls make is longer than what came in: it says more and counts as full. Else prove '..UptoSaid'. A law counts once. -/
mutual
def uptoBulk {H : Type} : DataW H → Nat
  | .lit (.string bytes) => bytes.length + 1
  | .lit _ => 1
  | .nil => 1
  | .ptr d => uptoBulk d + 1
  | .slice elems spare => uptoBulkAll elems + uptoBulkAll spare + 1
  | .agg parts => uptoBulkAll parts + 1
  | .iface _ d => uptoBulk d + 1
  | .map entries => uptoBulkEntries entries + 1
  | .held _ => 1
def uptoBulkAll {H : Type} : List (DataW H) → Nat
  | [] => 0
  | d :: r => uptoBulk d + uptoBulkAll r
def uptoBulkEntries {H : Type} : List (Lit × DataW H) → Nat
  | [] => 0
  | x :: r => uptoBulkEntry x + uptoBulkEntries r
def uptoBulkEntry {H : Type} : Lit × DataW H → Nat
  | (.string bytes, d) => bytes.length + uptoBulk d + 1
  | (_, d) => uptoBulk d + 1
 end
def uptoSmall : (H : Type) → List (DataW H) → Bool := fun _ ds => decide (uptoBulkAll ds ≤ 1048576)
def OpenSpec.upto (s : _root_.Go.ChangeSpec) : _root_.Go.OpenSpec := { _root_.Go.OpenSpec.ofChange s with cond := some uptoSmall }

/-- 'laws.FnExactSameSent', WHERE WHAT IT READS IS OF BULK AT MOST 1048576: true; the input reads as it did. -/
def fnExactSameSentUptoRow : OpenClaim := { program := "ytmpealaejigbfaa", sum := "12a85b7bd9f607bfc0b8a112bbf972f546d217a199240e24f92c448d8165ab4e", func := "loop.example/g00834/laws.FnExactSameSent", spec := "fnExactSameSent", apart := false, narrowed := true }
def FnExactSameSentUptoSaid : Prop := fnExactSameSentUptoRow.holds Try.pinned (OpenSpec.upto fnExactSameSentSpec)

/-- 'laws.FnExactIsSimple', WHERE WHAT IT READS IS OF BULK AT MOST 1048576: true; the input reads as it did. -/
def fnExactIsSimpleUptoRow : OpenClaim := { program := "ytmpealaejigbfaa", sum := "12a85b7bd9f607bfc0b8a112bbf972f546d217a199240e24f92c448d8165ab4e", func := "loop.example/g00834/laws.FnExactIsSimple", spec := "fnExactIsSimple", apart := false, narrowed := true }
def FnExactIsSimpleUptoSaid : Prop := fnExactIsSimpleUptoRow.holds Try.pinned (OpenSpec.upto fnExactIsSimpleSpec)

/-- 'laws.FnExactTouchedBy', WHERE WHAT IT READS IS OF BULK AT MOST 1048576: true; the input reads as it did. -/
def fnExactTouchedByUptoRow : OpenClaim := { program := "ytmpealaejigbfaa", sum := "12a85b7bd9f607bfc0b8a112bbf972f546d217a199240e24f92c448d8165ab4e", func := "loop.example/g00834/laws.FnExactTouchedBy", spec := "fnExactTouchedBy", unfollowed := true, recurses := true, apart := false, narrowed := true }
def FnExactTouchedByUptoSaid : Prop := fnExactTouchedByUptoRow.holds Try.pinned (OpenSpec.upto fnExactTouchedBySpec)

/-- 'laws.FnExactSameBooks', WHERE WHAT IT READS IS OF BULK AT MOST 1048576: true; the input reads as it did. -/
def fnExactSameBooksUptoRow : OpenClaim := { program := "ytmpealaejigbfaa", sum := "12a85b7bd9f607bfc0b8a112bbf972f546d217a199240e24f92c448d8165ab4e", func := "loop.example/g00834/laws.FnExactSameBooks", spec := "fnExactSameBooks", apart := false, narrowed := true }
def FnExactSameBooksUptoSaid : Prop := fnExactSameBooksUptoRow.holds Try.pinned (OpenSpec.upto fnExactSameBooksSpec)

/-- 'laws.FnExactChangedGames', WHERE WHAT IT READS IS OF BULK AT MOST 1048576: true; the input reads as it did. -/
def fnExactChangedGamesUptoRow : OpenClaim := { program := "ytmpealaejigbfaa", sum := "12a85b7bd9f607bfc0b8a112bbf972f546d217a199240e24f92c448d8165ab4e", func := "loop.example/g00834/laws.FnExactChangedGames", spec := "fnExactChangedGames", unfollowed := true, recurses := true, apart := false, narrowed := true }
def FnExactChangedGamesUptoSaid : Prop := fnExactChangedGamesUptoRow.holds Try.pinned (OpenSpec.upto fnExactChangedGamesSpec)

end Rows
end Go.Proofs.Ytmpealaejigbfaa
