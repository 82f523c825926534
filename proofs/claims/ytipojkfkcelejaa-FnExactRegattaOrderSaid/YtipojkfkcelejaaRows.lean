/-
  No cell of these rows narrows 'for every input' (looked for: loops, veiled, ifaces, maps, wideKeys, modest, calm, conditions, laid).
  DERIVED. THE GIVEN ROWS OF THIS SEAT. 7 by the template 'for every input the law returns true; each argument reads behind the call as it read before'; 0 by the template 'total and deterministic' (their statements: YtipojkfkcelejaaTotals.lean).
  GIVEN WITH THE SEED: the statements are not yours to turn. If you find one false, say at which input.
  Laid BY PROGRAM, IN A SANDBOX (cutbox-rows.mjs): the forced cells as the released guide's own fill.sh prints them over the translation 8ee8d06981e33b29… (all of the seat's roots in one cut). By AI agents, Wed Nov 11 2026. No macro, syntax, notation, axiom, sorry.
-/
import Derived.Test.YtipojkfkcelejaaChecked
import GoSem.Claim
import GoSem.ClaimJoined
import GoSem.ClaimMapViews
import Derived.JoinedTies
import Derived.KernelRfl
namespace Go.Proofs.Ytipojkfkcelejaa
/- THE CELL 'sum', in the pinned program and in every row, IS THE sha256 OF THE DUMP (.gsa) THAT YtipojkfkcelejaaProg.lean LOADS. Nothing in Lean hashes anything: it is a label: what it is worth is what the hold of that sum in a sandbox is worth. -/
noncomputable def Try.pinned : Pinned := { name := "ytipojkfkcelejaa", sum := "8ee8d06981e33b299e3b5eb0c487ba8b5cd7113391714b5caec297ba441cea89", checked := Try.checked }
namespace Rows
def none {H : Type} : Left H := { results := [], args := [] }

/-- 'laws.FnExactRaceOk': WHATEVER THE INPUT: true; the input reads as it did. -/
def fnExactRaceOkSpec : ChangeSpec := { name := "fnExactRaceOk", fn := fun _ => fun
  | [d1, d2] => { results := [.lit (.bool true)], args := [d1, d2] }
  | _ => none }
def fnExactRaceOkRow : OpenClaim := { program := "ytipojkfkcelejaa", sum := "8ee8d06981e33b299e3b5eb0c487ba8b5cd7113391714b5caec297ba441cea89", func := "loop.example/g00834/laws.FnExactRaceOk", spec := "fnExactRaceOk", unfollowed := true, recurses := true, apart := false }
def FnExactRaceOkSaid : Prop := fnExactRaceOkRow.holds Try.pinned (OpenSpec.ofChange fnExactRaceOkSpec)

/-- ITS FALSE NEIGHBOUR: 'it returns false'. Refute it at one input. -/
def fnExactRaceOkWrong : ChangeSpec := { name := "fnExactRaceOk", fn := fun _ => fun
  | [d1, d2] => { results := [.lit (.bool false)], args := [d1, d2] }
  | _ => none }
def FnExactRaceOkWrongFalsely : Prop := fnExactRaceOkRow.holds Try.pinned (OpenSpec.ofChange fnExactRaceOkWrong)

/-- 'laws.FnExactRegattaOk': WHATEVER THE INPUT: true; the input reads as it did. -/
def fnExactRegattaOkSpec : ChangeSpec := { name := "fnExactRegattaOk", fn := fun _ => fun
  | [d] => { results := [.lit (.bool true)], args := [d] }
  | _ => none }
def fnExactRegattaOkRow : OpenClaim := { program := "ytipojkfkcelejaa", sum := "8ee8d06981e33b299e3b5eb0c487ba8b5cd7113391714b5caec297ba441cea89", func := "loop.example/g00834/laws.FnExactRegattaOk", spec := "fnExactRegattaOk", unfollowed := true, recurses := true, apart := false }
def FnExactRegattaOkSaid : Prop := fnExactRegattaOkRow.holds Try.pinned (OpenSpec.ofChange fnExactRegattaOkSpec)

/-- ITS FALSE NEIGHBOUR: 'it returns false'. Refute it at one input. -/
def fnExactRegattaOkWrong : ChangeSpec := { name := "fnExactRegattaOk", fn := fun _ => fun
  | [d] => { results := [.lit (.bool false)], args := [d] }
  | _ => none }
def FnExactRegattaOkWrongFalsely : Prop := fnExactRegattaOkRow.holds Try.pinned (OpenSpec.ofChange fnExactRegattaOkWrong)

/-- 'laws.FnExactRedressFor': WHATEVER THE INPUT: true; the input reads as it did. -/
def fnExactRedressForSpec : ChangeSpec := { name := "fnExactRedressFor", fn := fun _ => fun
  | [d1, d2, d3] => { results := [.lit (.bool true)], args := [d1, d2, d3] }
  | _ => none }
def fnExactRedressForRow : OpenClaim := { program := "ytipojkfkcelejaa", sum := "8ee8d06981e33b299e3b5eb0c487ba8b5cd7113391714b5caec297ba441cea89", func := "loop.example/g00834/laws.FnExactRedressFor", spec := "fnExactRedressFor", unfollowed := true, recurses := true, apart := false }
def FnExactRedressForSaid : Prop := fnExactRedressForRow.holds Try.pinned (OpenSpec.ofChange fnExactRedressForSpec)

/-- ITS FALSE NEIGHBOUR: 'it returns false'. Refute it at one input. -/
def fnExactRedressForWrong : ChangeSpec := { name := "fnExactRedressFor", fn := fun _ => fun
  | [d1, d2, d3] => { results := [.lit (.bool false)], args := [d1, d2, d3] }
  | _ => none }
def FnExactRedressForWrongFalsely : Prop := fnExactRedressForRow.holds Try.pinned (OpenSpec.ofChange fnExactRedressForWrong)

/-- 'laws.FnExactKeptPlaces': WHATEVER THE INPUT: true; the input reads as it did. -/
def fnExactKeptPlacesSpec : ChangeSpec := { name := "fnExactKeptPlaces", fn := fun _ => fun
  | [d1, d2] => { results := [.lit (.bool true)], args := [d1, d2] }
  | _ => none }
def fnExactKeptPlacesRow : OpenClaim := { program := "ytipojkfkcelejaa", sum := "8ee8d06981e33b299e3b5eb0c487ba8b5cd7113391714b5caec297ba441cea89", func := "loop.example/g00834/laws.FnExactKeptPlaces", spec := "fnExactKeptPlaces", unfollowed := true, recurses := true, apart := false }
def FnExactKeptPlacesSaid : Prop := fnExactKeptPlacesRow.holds Try.pinned (OpenSpec.ofChange fnExactKeptPlacesSpec)

/-- ITS FALSE NEIGHBOUR: 'it returns false'. Refute it at one input. -/
def fnExactKeptPlacesWrong : ChangeSpec := { name := "fnExactKeptPlaces", fn := fun _ => fun
  | [d1, d2] => { results := [.lit (.bool false)], args := [d1, d2] }
  | _ => none }
def FnExactKeptPlacesWrongFalsely : Prop := fnExactKeptPlacesRow.holds Try.pinned (OpenSpec.ofChange fnExactKeptPlacesWrong)

/-- 'laws.FnExactScoresOf': WHATEVER THE INPUT: true; the input reads as it did. -/
def fnExactScoresOfSpec : ChangeSpec := { name := "fnExactScoresOf", fn := fun _ => fun
  | [d] => { results := [.lit (.bool true)], args := [d] }
  | _ => none }
def fnExactScoresOfRow : OpenClaim := { program := "ytipojkfkcelejaa", sum := "8ee8d06981e33b299e3b5eb0c487ba8b5cd7113391714b5caec297ba441cea89", func := "loop.example/g00834/laws.FnExactScoresOf", spec := "fnExactScoresOf", unfollowed := true, recurses := true, apart := false }
def FnExactScoresOfSaid : Prop := fnExactScoresOfRow.holds Try.pinned (OpenSpec.ofChange fnExactScoresOfSpec)

/-- ITS FALSE NEIGHBOUR: 'it returns false'. Refute it at one input. -/
def fnExactScoresOfWrong : ChangeSpec := { name := "fnExactScoresOf", fn := fun _ => fun
  | [d] => { results := [.lit (.bool false)], args := [d] }
  | _ => none }
def FnExactScoresOfWrongFalsely : Prop := fnExactScoresOfRow.holds Try.pinned (OpenSpec.ofChange fnExactScoresOfWrong)

/-- 'laws.FnExactBoatBefore': WHATEVER THE INPUT: true; the input reads as it did. -/
def fnExactBoatBeforeSpec : ChangeSpec := { name := "fnExactBoatBefore", fn := fun _ => fun
  | [d1, d2, d3] => { results := [.lit (.bool true)], args := [d1, d2, d3] }
  | _ => none }
def fnExactBoatBeforeRow : OpenClaim := { program := "ytipojkfkcelejaa", sum := "8ee8d06981e33b299e3b5eb0c487ba8b5cd7113391714b5caec297ba441cea89", func := "loop.example/g00834/laws.FnExactBoatBefore", spec := "fnExactBoatBefore", unfollowed := true, recurses := true, apart := false }
def FnExactBoatBeforeSaid : Prop := fnExactBoatBeforeRow.holds Try.pinned (OpenSpec.ofChange fnExactBoatBeforeSpec)

/-- ITS FALSE NEIGHBOUR: 'it returns false'. Refute it at one input. -/
def fnExactBoatBeforeWrong : ChangeSpec := { name := "fnExactBoatBefore", fn := fun _ => fun
  | [d1, d2, d3] => { results := [.lit (.bool false)], args := [d1, d2, d3] }
  | _ => none }
def FnExactBoatBeforeWrongFalsely : Prop := fnExactBoatBeforeRow.holds Try.pinned (OpenSpec.ofChange fnExactBoatBeforeWrong)

/-- 'laws.FnExactRegattaOrder': WHATEVER THE INPUT: true; the input reads as it did. -/
def fnExactRegattaOrderSpec : ChangeSpec := { name := "fnExactRegattaOrder", fn := fun _ => fun
  | [d] => { results := [.lit (.bool true)], args := [d] }
  | _ => none }
def fnExactRegattaOrderRow : OpenClaim := { program := "ytipojkfkcelejaa", sum := "8ee8d06981e33b299e3b5eb0c487ba8b5cd7113391714b5caec297ba441cea89", func := "loop.example/g00834/laws.FnExactRegattaOrder", spec := "fnExactRegattaOrder", unfollowed := true, recurses := true, apart := false }
def FnExactRegattaOrderSaid : Prop := fnExactRegattaOrderRow.holds Try.pinned (OpenSpec.ofChange fnExactRegattaOrderSpec)

/-- ITS FALSE NEIGHBOUR: 'it returns false'. Refute it at one input. -/
def fnExactRegattaOrderWrong : ChangeSpec := { name := "fnExactRegattaOrder", fn := fun _ => fun
  | [d] => { results := [.lit (.bool false)], args := [d] }
  | _ => none }
def FnExactRegattaOrderWrongFalsely : Prop := fnExactRegattaOrderRow.holds Try.pinned (OpenSpec.ofChange fnExactRegattaOrderWrong)

/- THE SECOND FORM. 'bulk': how many values and letters a reading holds, each counted each time it is reached (what is shared counts as often as it is met; a slice's spare places count too). A statement '..UptoSaid' is the law's where the arguments, and the package variables that the reading takes, are together of bulk at most 1048576: NARROWER than '..Said'. Prove '..Said' where nothing that the law and all that it calls make is longer than what came in: it says more and counts as full. Else prove '..UptoSaid'. A law counts once. -/
mutual
def uptoBulk {H : Type} : DataW H → Nat
  | .lit (.string bytes) => bytes.length + 1
  | .lit _ => 1
  | .nil => 1
  | .ptr d => uptoBulk d + 1
  | .slice elems spare => uptoBulkAll elems + uptoBulkAll spare + 1
  | .agg parts => uptoBulkAll parts + 1
  | .iface _ d => uptoBulk d + 1
  | .map entries => uptoBulkEntries entries + 1
  | .held _ => 1
def uptoBulkAll {H : Type} : List (DataW H) → Nat
  | [] => 0
  | d :: r => uptoBulk d + uptoBulkAll r
def uptoBulkEntries {H : Type} : List (Lit × DataW H) → Nat
  | [] => 0
  | x :: r => uptoBulkEntry x + uptoBulkEntries r
def uptoBulkEntry {H : Type} : Lit × DataW H → Nat
  | (.string bytes, d) => bytes.length + uptoBulk d + 1
  | (_, d) => uptoBulk d + 1
 end
def uptoSmall : (H : Type) → List (DataW H) → Bool := fun _ ds => decide (uptoBulkAll ds ≤ 1048576)
def OpenSpec.upto (s : _root_.Go.ChangeSpec) : _root_.Go.OpenSpec := { _root_.Go.OpenSpec.ofChange s with cond := some uptoSmall }

/-- 'laws.FnExactRaceOk', WHERE WHAT IT READS IS OF BULK AT MOST 1048576: true; the input reads as it did. -/
def fnExactRaceOkUptoRow : OpenClaim := { program := "ytipojkfkcelejaa", sum := "8ee8d06981e33b299e3b5eb0c487ba8b5cd7113391714b5caec297ba441cea89", func := "loop.example/g00834/laws.FnExactRaceOk", spec := "fnExactRaceOk", unfollowed := true, recurses := true, apart := false, narrowed := true }
def FnExactRaceOkUptoSaid : Prop := fnExactRaceOkUptoRow.holds Try.pinned (OpenSpec.upto fnExactRaceOkSpec)

/-- 'laws.FnExactRegattaOk', WHERE WHAT IT READS IS OF BULK AT MOST 1048576: true; the input reads as it did. -/
def fnExactRegattaOkUptoRow : OpenClaim := { program := "ytipojkfkcelejaa", sum := "8ee8d06981e33b299e3b5eb0c487ba8b5cd7113391714b5caec297ba441cea89", func := "loop.example/g00834/laws.FnExactRegattaOk", spec := "fnExactRegattaOk", unfollowed := true, recurses := true, apart := false, narrowed := true }
def FnExactRegattaOkUptoSaid : Prop := fnExactRegattaOkUptoRow.holds Try.pinned (OpenSpec.upto fnExactRegattaOkSpec)

/-- 'laws.FnExactRedressFor', WHERE WHAT IT READS IS OF BULK AT MOST 1048576: true; the input reads as it did. -/
def fnExactRedressForUptoRow : OpenClaim := { program := "ytipojkfkcelejaa", sum := "8ee8d06981e33b299e3b5eb0c487ba8b5cd7113391714b5caec297ba441cea89", func := "loop.example/g00834/laws.FnExactRedressFor", spec := "fnExactRedressFor", unfollowed := true, recurses := true, apart := false, narrowed := true }
def FnExactRedressForUptoSaid : Prop := fnExactRedressForUptoRow.holds Try.pinned (OpenSpec.upto fnExactRedressForSpec)

/-- 'laws.FnExactKeptPlaces', WHERE WHAT IT READS IS OF BULK AT MOST 1048576: true; the input reads as it did. -/
def fnExactKeptPlacesUptoRow : OpenClaim := { program := "ytipojkfkcelejaa", sum := "8ee8d06981e33b299e3b5eb0c487ba8b5cd7113391714b5caec297ba441cea89", func := "loop.example/g00834/laws.FnExactKeptPlaces", spec := "fnExactKeptPlaces", unfollowed := true, recurses := true, apart := false, narrowed := true }
def FnExactKeptPlacesUptoSaid : Prop := fnExactKeptPlacesUptoRow.holds Try.pinned (OpenSpec.upto fnExactKeptPlacesSpec)

/-- 'laws.FnExactScoresOf', WHERE WHAT IT READS IS OF BULK AT MOST 1048576: true; the input reads as it did. -/
def fnExactScoresOfUptoRow : OpenClaim := { program := "ytipojkfkcelejaa", sum := "8ee8d06981e33b299e3b5eb0c487ba8b5cd7113391714b5caec297ba441cea89", func := "loop.example/g00834/laws.FnExactScoresOf", spec := "fnExactScoresOf", unfollowed := true, recurses := true, apart := false, narrowed := true }
def FnExactScoresOfUptoSaid : Prop := fnExactScoresOfUptoRow.holds Try.pinned (OpenSpec.upto fnExactScoresOfSpec)

/-- 'laws.FnExactBoatBefore', WHERE WHAT IT READS IS OF BULK AT MOST 1048576: true; the input reads as it did. -/
def fnExactBoatBeforeUptoRow : OpenClaim := { program := "ytipojkfkcelejaa", sum := "8ee8d06981e33b299e3b5eb0c487ba8b5cd7113391714b5caec297ba441cea89", func := "loop.example/g00834/laws.FnExactBoatBefore", spec := "fnExactBoatBefore", unfollowed := true, recurses := true, apart := false, narrowed := true }
def FnExactBoatBeforeUptoSaid : Prop := fnExactBoatBeforeUptoRow.holds Try.pinned (OpenSpec.upto fnExactBoatBeforeSpec)

/-- 'laws.FnExactRegattaOrder', WHERE WHAT IT READS IS OF BULK AT MOST 1048576: true; the input reads as it did. -/
def fnExactRegattaOrderUptoRow : OpenClaim := { program := "ytipojkfkcelejaa", sum := "8ee8d06981e33b299e3b5eb0c487ba8b5cd7113391714b5caec297ba441cea89", func := "loop.example/g00834/laws.FnExactRegattaOrder", spec := "fnExactRegattaOrder", unfollowed := true, recurses := true, apart := false, narrowed := true }
def FnExactRegattaOrderUptoSaid : Prop := fnExactRegattaOrderUptoRow.holds Try.pinned (OpenSpec.upto fnExactRegattaOrderSpec)

end Rows
end Go.Proofs.Ytipojkfkcelejaa
