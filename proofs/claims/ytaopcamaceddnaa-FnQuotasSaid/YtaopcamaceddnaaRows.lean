/-
  No cell of these rows narrows 'for every input' (looked for: loops, veiled, ifaces, maps, wideKeys, modest, calm, conditions, laid).
  DERIVED. THE GIVEN ROWS OF THIS SEAT. 9 by the template 'for every input the law returns true; each argument reads behind the call as it read before'; 0 by the template 'total and deterministic' (their statements: YtaopcamaceddnaaTotals.lean).
  GIVEN WITH THE SEED: the statements are not yours to turn. If you find one false, say at which input.
  Laid BY PROGRAM, IN A SANDBOX (cutbox-rows.mjs): the forced cells as the released guide's own fill.sh prints them over the translation 8f085782c1cf8590… (all of the seat's roots in one cut). By AI agents, Wed Nov 11 2026. No macro, syntax, notation, axiom, sorry.
-/
import Derived.Test.YtaopcamaceddnaaChecked
import GoSem.Claim
import GoSem.ClaimJoined
import GoSem.ClaimMapViews
import Derived.JoinedTies
import Derived.KernelRfl
namespace Go.Proofs.Ytaopcamaceddnaa
/- THE CELL 'sum', in the pinned program and in every row, IS THE sha256 OF THE DUMP (.gsa) THAT YtaopcamaceddnaaProg.lean LOADS. Nothing in Lean hashes anything: it is a label: what it is worth is what the hold of that sum in a sandbox is worth. -/
noncomputable def Try.pinned : Pinned := { name := "ytaopcamaceddnaa", sum := "8f085782c1cf8590d05b287ceee15439becee389f9e2081b12e61f4ba17e16d5", checked := Try.checked }
namespace Rows
def none {H : Type} : Left H := { results := [], args := [] }

/-- 'laws.FnExactContestsOk': WHATEVER THE INPUT: true; the input reads as it did. -/
def fnExactContestsOkSpec : ChangeSpec := { name := "fnExactContestsOk", fn := fun _ => fun
  | [d1, d2] => { results := [.lit (.bool true)], args := [d1, d2] }
  | _ => none }
def fnExactContestsOkRow : OpenClaim := { program := "ytaopcamaceddnaa", sum := "8f085782c1cf8590d05b287ceee15439becee389f9e2081b12e61f4ba17e16d5", func := "loop.example/g00834/laws.FnExactContestsOk", spec := "fnExactContestsOk", apart := false }
def FnExactContestsOkSaid : Prop := fnExactContestsOkRow.holds Try.pinned (OpenSpec.ofChange fnExactContestsOkSpec)

/-- ITS FALSE NEIGHBOUR: 'it returns false'. Refute it at one input. -/
def fnExactContestsOkWrong : ChangeSpec := { name := "fnExactContestsOk", fn := fun _ => fun
  | [d1, d2] => { results := [.lit (.bool false)], args := [d1, d2] }
  | _ => none }
def FnExactContestsOkWrongFalsely : Prop := fnExactContestsOkRow.holds Try.pinned (OpenSpec.ofChange fnExactContestsOkWrong)

/-- 'laws.FnQuotas': WHATEVER THE INPUT: true; the input reads as it did. -/
def fnQuotasSpec : ChangeSpec := { name := "fnQuotas", fn := fun _ => fun
  | [d] => { results := [.lit (.bool true)], args := [d] }
  | _ => none }
def fnQuotasRow : OpenClaim := { program := "ytaopcamaceddnaa", sum := "8f085782c1cf8590d05b287ceee15439becee389f9e2081b12e61f4ba17e16d5", func := "loop.example/g00834/laws.FnQuotas", spec := "fnQuotas", unfollowed := true, recurses := true, apart := false }
def FnQuotasSaid : Prop := fnQuotasRow.holds Try.pinned (OpenSpec.ofChange fnQuotasSpec)

/-- ITS FALSE NEIGHBOUR: 'it returns false'. Refute it at one input. -/
def fnQuotasWrong : ChangeSpec := { name := "fnQuotas", fn := fun _ => fun
  | [d] => { results := [.lit (.bool false)], args := [d] }
  | _ => none }
def FnQuotasWrongFalsely : Prop := fnQuotasRow.holds Try.pinned (OpenSpec.ofChange fnQuotasWrong)

/-- 'laws.FnSwaps': WHATEVER THE INPUT: true; the input reads as it did. -/
def fnSwapsSpec : ChangeSpec := { name := "fnSwaps", fn := fun _ => fun
  | [d] => { results := [.lit (.bool true)], args := [d] }
  | _ => none }
def fnSwapsRow : OpenClaim := { program := "ytaopcamaceddnaa", sum := "8f085782c1cf8590d05b287ceee15439becee389f9e2081b12e61f4ba17e16d5", func := "loop.example/g00834/laws.FnSwaps", spec := "fnSwaps", unfollowed := true, recurses := true, apart := false }
def FnSwapsSaid : Prop := fnSwapsRow.holds Try.pinned (OpenSpec.ofChange fnSwapsSpec)

/-- ITS FALSE NEIGHBOUR: 'it returns false'. Refute it at one input. -/
def fnSwapsWrong : ChangeSpec := { name := "fnSwaps", fn := fun _ => fun
  | [d] => { results := [.lit (.bool false)], args := [d] }
  | _ => none }
def FnSwapsWrongFalsely : Prop := fnSwapsRow.holds Try.pinned (OpenSpec.ofChange fnSwapsWrong)

/-- 'laws.FnExactLostPlaces': WHATEVER THE INPUT: true; the input reads as it did. -/
def fnExactLostPlacesSpec : ChangeSpec := { name := "fnExactLostPlaces", fn := fun _ => fun
  | [d1, d2] => { results := [.lit (.bool true)], args := [d1, d2] }
  | _ => none }
def fnExactLostPlacesRow : OpenClaim := { program := "ytaopcamaceddnaa", sum := "8f085782c1cf8590d05b287ceee15439becee389f9e2081b12e61f4ba17e16d5", func := "loop.example/g00834/laws.FnExactLostPlaces", spec := "fnExactLostPlaces", apart := false }
def FnExactLostPlacesSaid : Prop := fnExactLostPlacesRow.holds Try.pinned (OpenSpec.ofChange fnExactLostPlacesSpec)

/-- ITS FALSE NEIGHBOUR: 'it returns false'. Refute it at one input. -/
def fnExactLostPlacesWrong : ChangeSpec := { name := "fnExactLostPlaces", fn := fun _ => fun
  | [d1, d2] => { results := [.lit (.bool false)], args := [d1, d2] }
  | _ => none }
def FnExactLostPlacesWrongFalsely : Prop := fnExactLostPlacesRow.holds Try.pinned (OpenSpec.ofChange fnExactLostPlacesWrong)

/-- 'laws.FnExactContestOf': WHATEVER THE INPUT: true; the input reads as it did. -/
def fnExactContestOfSpec : ChangeSpec := { name := "fnExactContestOf", fn := fun _ => fun
  | [d1, d2, d3] => { results := [.lit (.bool true)], args := [d1, d2, d3] }
  | _ => none }
def fnExactContestOfRow : OpenClaim := { program := "ytaopcamaceddnaa", sum := "8f085782c1cf8590d05b287ceee15439becee389f9e2081b12e61f4ba17e16d5", func := "loop.example/g00834/laws.FnExactContestOf", spec := "fnExactContestOf", unfollowed := true, recurses := true, apart := false }
def FnExactContestOfSaid : Prop := fnExactContestOfRow.holds Try.pinned (OpenSpec.ofChange fnExactContestOfSpec)

/-- ITS FALSE NEIGHBOUR: 'it returns false'. Refute it at one input. -/
def fnExactContestOfWrong : ChangeSpec := { name := "fnExactContestOf", fn := fun _ => fun
  | [d1, d2, d3] => { results := [.lit (.bool false)], args := [d1, d2, d3] }
  | _ => none }
def FnExactContestOfWrongFalsely : Prop := fnExactContestOfRow.holds Try.pinned (OpenSpec.ofChange fnExactContestOfWrong)

/-- 'laws.FnExactPlacesOf': WHATEVER THE INPUT: true; the input reads as it did. -/
def fnExactPlacesOfSpec : ChangeSpec := { name := "fnExactPlacesOf", fn := fun _ => fun
  | [d1, d2] => { results := [.lit (.bool true)], args := [d1, d2] }
  | _ => none }
def fnExactPlacesOfRow : OpenClaim := { program := "ytaopcamaceddnaa", sum := "8f085782c1cf8590d05b287ceee15439becee389f9e2081b12e61f4ba17e16d5", func := "loop.example/g00834/laws.FnExactPlacesOf", spec := "fnExactPlacesOf", apart := false }
def FnExactPlacesOfSaid : Prop := fnExactPlacesOfRow.holds Try.pinned (OpenSpec.ofChange fnExactPlacesOfSpec)

/-- ITS FALSE NEIGHBOUR: 'it returns false'. Refute it at one input. -/
def fnExactPlacesOfWrong : ChangeSpec := { name := "fnExactPlacesOf", fn := fun _ => fun
  | [d1, d2] => { results := [.lit (.bool false)], args := [d1, d2] }
  | _ => none }
def FnExactPlacesOfWrongFalsely : Prop := fnExactPlacesOfRow.holds Try.pinned (OpenSpec.ofChange fnExactPlacesOfWrong)

/-- 'laws.FnExactFirstOut': WHATEVER THE INPUT: true; the input reads as it did. -/
def fnExactFirstOutSpec : ChangeSpec := { name := "fnExactFirstOut", fn := fun _ => fun
  | [d1, d2, d3] => { results := [.lit (.bool true)], args := [d1, d2, d3] }
  | _ => none }
def fnExactFirstOutRow : OpenClaim := { program := "ytaopcamaceddnaa", sum := "8f085782c1cf8590d05b287ceee15439becee389f9e2081b12e61f4ba17e16d5", func := "loop.example/g00834/laws.FnExactFirstOut", spec := "fnExactFirstOut", unfollowed := true, recurses := true, apart := false }
def FnExactFirstOutSaid : Prop := fnExactFirstOutRow.holds Try.pinned (OpenSpec.ofChange fnExactFirstOutSpec)

/-- ITS FALSE NEIGHBOUR: 'it returns false'. Refute it at one input. -/
def fnExactFirstOutWrong : ChangeSpec := { name := "fnExactFirstOut", fn := fun _ => fun
  | [d1, d2, d3] => { results := [.lit (.bool false)], args := [d1, d2, d3] }
  | _ => none }
def FnExactFirstOutWrongFalsely : Prop := fnExactFirstOutRow.holds Try.pinned (OpenSpec.ofChange fnExactFirstOutWrong)

/-- 'laws.FnExactQualified': WHATEVER THE INPUT: true; the input reads as it did. -/
def fnExactQualifiedSpec : ChangeSpec := { name := "fnExactQualified", fn := fun _ => fun
  | [d1, d2] => { results := [.lit (.bool true)], args := [d1, d2] }
  | _ => none }
def fnExactQualifiedRow : OpenClaim := { program := "ytaopcamaceddnaa", sum := "8f085782c1cf8590d05b287ceee15439becee389f9e2081b12e61f4ba17e16d5", func := "loop.example/g00834/laws.FnExactQualified", spec := "fnExactQualified", apart := false }
def FnExactQualifiedSaid : Prop := fnExactQualifiedRow.holds Try.pinned (OpenSpec.ofChange fnExactQualifiedSpec)

/-- ITS FALSE NEIGHBOUR: 'it returns false'. Refute it at one input. -/
def fnExactQualifiedWrong : ChangeSpec := { name := "fnExactQualified", fn := fun _ => fun
  | [d1, d2] => { results := [.lit (.bool false)], args := [d1, d2] }
  | _ => none }
def FnExactQualifiedWrongFalsely : Prop := fnExactQualifiedRow.holds Try.pinned (OpenSpec.ofChange fnExactQualifiedWrong)

/-- 'laws.FnExactSwapGains': WHATEVER THE INPUT: true; the input reads as it did. -/
def fnExactSwapGainsSpec : ChangeSpec := { name := "fnExactSwapGains", fn := fun _ => fun
  | [d1, d2, d3, d4] => { results := [.lit (.bool true)], args := [d1, d2, d3, d4] }
  | _ => none }
def fnExactSwapGainsRow : OpenClaim := { program := "ytaopcamaceddnaa", sum := "8f085782c1cf8590d05b287ceee15439becee389f9e2081b12e61f4ba17e16d5", func := "loop.example/g00834/laws.FnExactSwapGains", spec := "fnExactSwapGains", unfollowed := true, recurses := true, apart := false }
def FnExactSwapGainsSaid : Prop := fnExactSwapGainsRow.holds Try.pinned (OpenSpec.ofChange fnExactSwapGainsSpec)

/-- ITS FALSE NEIGHBOUR: 'it returns false'. Refute it at one input. -/
def fnExactSwapGainsWrong : ChangeSpec := { name := "fnExactSwapGains", fn := fun _ => fun
  | [d1, d2, d3, d4] => { results := [.lit (.bool false)], args := [d1, d2, d3, d4] }
  | _ => none }
def FnExactSwapGainsWrongFalsely : Prop := fnExactSwapGainsRow.holds Try.pinned (OpenSpec.ofChange fnExactSwapGainsWrong)

/- THE SECOND FORM. 'bulk': how many values and letters a reading holds, each counted each time it is reached (what is shared counts as often as it is met; a slice's spare places count too). A statement '..UptoSaid' is the law's where the arguments, and the package variables that the reading takes, are together of bulk at most 1048576: NARROWER than '..Said'. Prove '..Said' where nothing that the law and all that it calls make is longer than what came in: it says more and counts as full. Else prove '..UptoSaid'. A law counts once. -/
mutual
def uptoBulk {H : Type} : DataW H → Nat
  | .lit (.string bytes) => bytes.length + 1
  | .lit _ => 1
  | .nil => 1
  | .ptr d => uptoBulk d + 1
  | .slice elems spare => uptoBulkAll elems + uptoBulkAll spare + 1
  | .agg parts => uptoBulkAll parts + 1
  | .iface _ d => uptoBulk d + 1
  | .map entries => uptoBulkEntries entries + 1
  | .held _ => 1
def uptoBulkAll {H : Type} : List (DataW H) → Nat
  | [] => 0
  | d :: r => uptoBulk d + uptoBulkAll r
def uptoBulkEntries {H : Type} : List (Lit × DataW H) → Nat
  | [] => 0
  | x :: r => uptoBulkEntry x + uptoBulkEntries r
def uptoBulkEntry {H : Type} : Lit × DataW H → Nat
  | (.string bytes, d) => bytes.length + uptoBulk d + 1
  | (_, d) => uptoBulk d + 1
 end
def uptoSmall : (H : Type) → List (DataW H) → Bool := fun _ ds => decide (uptoBulkAll ds ≤ 1048576)
def OpenSpec.upto (s : _root_.Go.ChangeSpec) : _root_.Go.OpenSpec := { _root_.Go.OpenSpec.ofChange s with cond := some uptoSmall }

/-- 'laws.FnExactContestsOk', WHERE WHAT IT READS IS OF BULK AT MOST 1048576: true; the input reads as it did. -/
def fnExactContestsOkUptoRow : OpenClaim := { program := "ytaopcamaceddnaa", sum := "8f085782c1cf8590d05b287ceee15439becee389f9e2081b12e61f4ba17e16d5", func := "loop.example/g00834/laws.FnExactContestsOk", spec := "fnExactContestsOk", apart := false, narrowed := true }
def FnExactContestsOkUptoSaid : Prop := fnExactContestsOkUptoRow.holds Try.pinned (OpenSpec.upto fnExactContestsOkSpec)

/-- 'laws.FnQuotas', WHERE WHAT IT READS IS OF BULK AT MOST 1048576: true; the input reads as it did. -/
def fnQuotasUptoRow : OpenClaim := { program := "ytaopcamaceddnaa", sum := "8f085782c1cf8590d05b287ceee15439becee389f9e2081b12e61f4ba17e16d5", func := "loop.example/g00834/laws.FnQuotas", spec := "fnQuotas", unfollowed := true, recurses := true, apart := false, narrowed := true }
def FnQuotasUptoSaid : Prop := fnQuotasUptoRow.holds Try.pinned (OpenSpec.upto fnQuotasSpec)

/-- 'laws.FnSwaps', WHERE WHAT IT READS IS OF BULK AT MOST 1048576: true; the input reads as it did. -/
def fnSwapsUptoRow : OpenClaim := { program := "ytaopcamaceddnaa", sum := "8f085782c1cf8590d05b287ceee15439becee389f9e2081b12e61f4ba17e16d5", func := "loop.example/g00834/laws.FnSwaps", spec := "fnSwaps", unfollowed := true, recurses := true, apart := false, narrowed := true }
def FnSwapsUptoSaid : Prop := fnSwapsUptoRow.holds Try.pinned (OpenSpec.upto fnSwapsSpec)

/-- 'laws.FnExactLostPlaces', WHERE WHAT IT READS IS OF BULK AT MOST 1048576: true; the input reads as it did. -/
def fnExactLostPlacesUptoRow : OpenClaim := { program := "ytaopcamaceddnaa", sum := "8f085782c1cf8590d05b287ceee15439becee389f9e2081b12e61f4ba17e16d5", func := "loop.example/g00834/laws.FnExactLostPlaces", spec := "fnExactLostPlaces", apart := false, narrowed := true }
def FnExactLostPlacesUptoSaid : Prop := fnExactLostPlacesUptoRow.holds Try.pinned (OpenSpec.upto fnExactLostPlacesSpec)

/-- 'laws.FnExactContestOf', WHERE WHAT IT READS IS OF BULK AT MOST 1048576: true; the input reads as it did. -/
def fnExactContestOfUptoRow : OpenClaim := { program := "ytaopcamaceddnaa", sum := "8f085782c1cf8590d05b287ceee15439becee389f9e2081b12e61f4ba17e16d5", func := "loop.example/g00834/laws.FnExactContestOf", spec := "fnExactContestOf", unfollowed := true, recurses := true, apart := false, narrowed := true }
def FnExactContestOfUptoSaid : Prop := fnExactContestOfUptoRow.holds Try.pinned (OpenSpec.upto fnExactContestOfSpec)

/-- 'laws.FnExactPlacesOf', WHERE WHAT IT READS IS OF BULK AT MOST 1048576: true; the input reads as it did. -/
def fnExactPlacesOfUptoRow : OpenClaim := { program := "ytaopcamaceddnaa", sum := "8f085782c1cf8590d05b287ceee15439becee389f9e2081b12e61f4ba17e16d5", func := "loop.example/g00834/laws.FnExactPlacesOf", spec := "fnExactPlacesOf", apart := false, narrowed := true }
def FnExactPlacesOfUptoSaid : Prop := fnExactPlacesOfUptoRow.holds Try.pinned (OpenSpec.upto fnExactPlacesOfSpec)

/-- 'laws.FnExactFirstOut', WHERE WHAT IT READS IS OF BULK AT MOST 1048576: true; the input reads as it did. -/
def fnExactFirstOutUptoRow : OpenClaim := { program := "ytaopcamaceddnaa", sum := "8f085782c1cf8590d05b287ceee15439becee389f9e2081b12e61f4ba17e16d5", func := "loop.example/g00834/laws.FnExactFirstOut", spec := "fnExactFirstOut", unfollowed := true, recurses := true, apart := false, narrowed := true }
def FnExactFirstOutUptoSaid : Prop := fnExactFirstOutUptoRow.holds Try.pinned (OpenSpec.upto fnExactFirstOutSpec)

/-- 'laws.FnExactQualified', WHERE WHAT IT READS IS OF BULK AT MOST 1048576: true; the input reads as it did. -/
def fnExactQualifiedUptoRow : OpenClaim := { program := "ytaopcamaceddnaa", sum := "8f085782c1cf8590d05b287ceee15439becee389f9e2081b12e61f4ba17e16d5", func := "loop.example/g00834/laws.FnExactQualified", spec := "fnExactQualified", apart := false, narrowed := true }
def FnExactQualifiedUptoSaid : Prop := fnExactQualifiedUptoRow.holds Try.pinned (OpenSpec.upto fnExactQualifiedSpec)

/-- 'laws.FnExactSwapGains', WHERE WHAT IT READS IS OF BULK AT MOST 1048576: true; the input reads as it did. -/
def fnExactSwapGainsUptoRow : OpenClaim := { program := "ytaopcamaceddnaa", sum := "8f085782c1cf8590d05b287ceee15439becee389f9e2081b12e61f4ba17e16d5", func := "loop.example/g00834/laws.FnExactSwapGains", spec := "fnExactSwapGains", unfollowed := true, recurses := true, apart := false, narrowed := true }
def FnExactSwapGainsUptoSaid : Prop := fnExactSwapGainsUptoRow.holds Try.pinned (OpenSpec.upto fnExactSwapGainsSpec)

end Rows
end Go.Proofs.Ytaopcamaceddnaa
