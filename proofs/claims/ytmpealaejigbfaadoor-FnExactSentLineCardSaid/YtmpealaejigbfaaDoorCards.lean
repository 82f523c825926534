/-
  DERIVED. GIVEN WITH THE SEED: THE CARDS: each row of YtmpealaejigbfaaDoorRows.lean that lists a variable, with what it lists TIED to the program's text (the seventh form; the later family's looks); each row that meets fmt, with fmt's text TOLD by the authors' own Lean function (tested against real Go, not proved from fmt's source: count such statements apart). THE CARD IS WHAT COUNTS. Prove the row's statement (the work); the ties are given (YtmpealaejigbfaaDoorTie.lean); close each card by the builder's one call (the guide's Derived/Test/ToyasCard.lean, 'card_holds'). Laid BY PROGRAM, IN A SANDBOX (cutbox-door.mjs). By AI agents, Wed Nov 11 2026. No macro, syntax, notation, axiom, sorry.
-/
import Derived.Test.YtmpealaejigbfaaDoorRows
import GoSem.ClaimSeven
namespace Go.Proofs.YtmpealaejigbfaaDoor
namespace Rows

/-- THE TIED CARD OF 'laws.FnExactFormatRow'. -/
def fnExactFormatRowCard : Claim7 := { stood := { row := fnExactFormatRowRow, standIns := [], harness := (true, "14e484ebbb5c54e0892aaf511c6c188778821a10b1af3b3e50c78adc9c539c26"), looks := false }, kinds := [], alts := [], laidByText := true, laidKinds := [.data, .data, .data], laidTests := true, laidLooks := .later }
def FnExactFormatRowCardSaid : Prop := Claim7.holds Tryd.pinned (.plain (OpenSpec.ofChange fnExactFormatRowSpec)) fnExactFormatRowCard

/-- THE TIED CARD OF 'laws.FnExactSentLine'. -/
def fnExactSentLineCard : Claim7 := { stood := { row := fnExactSentLineRow, standIns := [], harness := (true, "14e484ebbb5c54e0892aaf511c6c188778821a10b1af3b3e50c78adc9c539c26"), looks := false }, kinds := [], alts := [], laidByText := true, laidKinds := [.data, .data, .data], laidTests := true, laidLooks := .later }
def FnExactSentLineCardSaid : Prop := Claim7.holds Tryd.pinned (.plain (OpenSpec.ofChange fnExactSentLineSpec)) fnExactSentLineCard

/-- THE SECOND FORM's CARD OF 'laws.FnExactFormatRow'. -/
def fnExactFormatRowUptoCard : Claim7 := { stood := { row := fnExactFormatRowUptoRow, standIns := [], harness := (true, "14e484ebbb5c54e0892aaf511c6c188778821a10b1af3b3e50c78adc9c539c26"), looks := false }, kinds := [], alts := [], laidByText := true, laidKinds := [.data, .data, .data], laidTests := true, laidLooks := .later }
def FnExactFormatRowUptoCardSaid : Prop := Claim7.holds Tryd.pinned (.plain (OpenSpec.upto fnExactFormatRowSpec)) fnExactFormatRowUptoCard

/-- THE SECOND FORM's CARD OF 'laws.FnExactSentLine'. -/
def fnExactSentLineUptoCard : Claim7 := { stood := { row := fnExactSentLineUptoRow, standIns := [], harness := (true, "14e484ebbb5c54e0892aaf511c6c188778821a10b1af3b3e50c78adc9c539c26"), looks := false }, kinds := [], alts := [], laidByText := true, laidKinds := [.data, .data, .data], laidTests := true, laidLooks := .later }
def FnExactSentLineUptoCardSaid : Prop := Claim7.holds Tryd.pinned (.plain (OpenSpec.upto fnExactSentLineSpec)) fnExactSentLineUptoCard
end Rows
end Go.Proofs.YtmpealaejigbfaaDoor
