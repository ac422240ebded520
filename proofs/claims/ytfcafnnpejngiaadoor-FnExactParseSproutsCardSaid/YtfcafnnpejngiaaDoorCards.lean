/-
  DERIVED. GIVEN WITH THE SEED: THE CARDS: each row of YtfcafnnpejngiaaDoorRows.lean that lists a variable, with what it lists TIED to the program's text (the seventh form; the later family's looks); each row that meets fmt, with fmt's text TOLD by the authors' own Lean function (tested against real Go, not proved from fmt's source: count such statements apart). THE CARD IS WHAT COUNTS. Prove the row's statement (the work); the ties are given (YtfcafnnpejngiaaDoorTie.lean); close each card by the builder's one call (the guide's Derived/Test/ToyasCard.lean, 'card_holds'). Laid BY PROGRAM, IN A SANDBOX (cutbox-door.mjs). By AI agents, Wed Nov 11 2026. No macro, syntax, notation, axiom, sorry.
-/
import Derived.Test.YtfcafnnpejngiaaDoorRows
import GoSem.ClaimSeven
namespace Go.Proofs.YtfcafnnpejngiaaDoor
namespace Rows

/-- THE TIED CARD OF 'laws.FnExactParseSprouts'. -/
def fnExactParseSproutsCard : Claim7 := { stood := { row := fnExactParseSproutsRow, standIns := [], harness := (true, "17a8be2a5044ea7200621ed4dfcda0b191a5704364a10c666f565610d6ea75ec"), looks := true }, kinds := [], alts := [], laidByText := true, laidKinds := [.data, .pinned], laidTests := true, laidLooks := .later }
def FnExactParseSproutsCardSaid : Prop := Claim7.holds Tryd.pinned (.plain (OpenSpec.ofChange fnExactParseSproutsSpec)) fnExactParseSproutsCard

/-- THE TIED CARD OF 'laws.FnExactParseBoxes'. -/
def fnExactParseBoxesCard : Claim7 := { stood := { row := fnExactParseBoxesRow, standIns := [], harness := (true, "17a8be2a5044ea7200621ed4dfcda0b191a5704364a10c666f565610d6ea75ec"), looks := true }, kinds := [], alts := [], laidByText := true, laidKinds := [.data, .data, .data, .data, .sentinel, .sentinel, .pinned], laidTests := true, laidLooks := .later }
def FnExactParseBoxesCardSaid : Prop := Claim7.holds Tryd.pinned (.plain (OpenSpec.ofChange fnExactParseBoxesSpec)) fnExactParseBoxesCard

/-- THE SECOND FORM's CARD OF 'laws.FnExactParseSprouts'. -/
def fnExactParseSproutsUptoCard : Claim7 := { stood := { row := fnExactParseSproutsUptoRow, standIns := [], harness := (true, "17a8be2a5044ea7200621ed4dfcda0b191a5704364a10c666f565610d6ea75ec"), looks := true }, kinds := [], alts := [], laidByText := true, laidKinds := [.data, .pinned], laidTests := true, laidLooks := .later }
def FnExactParseSproutsUptoCardSaid : Prop := Claim7.holds Tryd.pinned (.plain (OpenSpec.upto fnExactParseSproutsSpec)) fnExactParseSproutsUptoCard

/-- THE SECOND FORM's CARD OF 'laws.FnExactParseBoxes'. -/
def fnExactParseBoxesUptoCard : Claim7 := { stood := { row := fnExactParseBoxesUptoRow, standIns := [], harness := (true, "17a8be2a5044ea7200621ed4dfcda0b191a5704364a10c666f565610d6ea75ec"), looks := true }, kinds := [], alts := [], laidByText := true, laidKinds := [.data, .data, .data, .data, .sentinel, .sentinel, .pinned], laidTests := true, laidLooks := .later }
def FnExactParseBoxesUptoCardSaid : Prop := Claim7.holds Tryd.pinned (.plain (OpenSpec.upto fnExactParseBoxesSpec)) fnExactParseBoxesUptoCard
end Rows
end Go.Proofs.YtfcafnnpejngiaaDoor
