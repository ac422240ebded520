/-
  DERIVED. GIVEN WITH THE SEED: THE CARDS: each row of YtcjfofcgbpbdmaaDoorRows.lean that lists a variable, with what it lists TIED to the program's text (the seventh form; the later family's looks); each row that meets fmt, with fmt's text TOLD by the authors' own Lean function (tested against real Go, not proved from fmt's source: count such statements apart). THE CARD IS WHAT COUNTS. Prove the row's statement (the work); the ties are given (YtcjfofcgbpbdmaaDoorTie.lean); close each card by the builder's one call (the guide's Derived/Test/ToyasCard.lean, 'card_holds'). Laid BY PROGRAM, IN A SANDBOX (cutbox-door.mjs). By AI agents, Wed Nov 11 2026. No macro, syntax, notation, axiom, sorry.
-/
import Derived.Test.YtcjfofcgbpbdmaaDoorRows
import GoSem.ClaimSeven
namespace Go.Proofs.YtcjfofcgbpbdmaaDoor
namespace Rows

/-- THE TIED CARD OF 'laws.FnExactParseGame'. -/
def fnExactParseGameCard : Claim7 := { stood := { row := fnExactParseGameRow, standIns := [], harness := (true, "65b48f1fe91905a5c525c2dd1c3a38e5f492fdd172adb3a13e5b1c547e818cd2"), looks := true }, kinds := [], alts := [], laidByText := true, laidKinds := [.data, .data, .data, .data, .sentinel, .sentinel, .pinned], laidTests := true, laidLooks := .later }
def FnExactParseGameCardSaid : Prop := Claim7.holds Tryd.pinned (.plain (OpenSpec.ofChange fnExactParseGameSpec)) fnExactParseGameCard

/-- THE TIED CARD OF 'laws.FnExactParseEnding'. -/
def fnExactParseEndingCard : Claim7 := { stood := { row := fnExactParseEndingRow, standIns := [], harness := (true, "65b48f1fe91905a5c525c2dd1c3a38e5f492fdd172adb3a13e5b1c547e818cd2"), looks := true }, kinds := [], alts := [], laidByText := true, laidKinds := [.data, .data, .data, .data, .sentinel, .sentinel, .pinned], laidTests := true, laidLooks := .later }
def FnExactParseEndingCardSaid : Prop := Claim7.holds Tryd.pinned (.plain (OpenSpec.ofChange fnExactParseEndingSpec)) fnExactParseEndingCard

/-- THE SECOND FORM's CARD OF 'laws.FnExactParseGame'. -/
def fnExactParseGameUptoCard : Claim7 := { stood := { row := fnExactParseGameUptoRow, standIns := [], harness := (true, "65b48f1fe91905a5c525c2dd1c3a38e5f492fdd172adb3a13e5b1c547e818cd2"), looks := true }, kinds := [], alts := [], laidByText := true, laidKinds := [.data, .data, .data, .data, .sentinel, .sentinel, .pinned], laidTests := true, laidLooks := .later }
def FnExactParseGameUptoCardSaid : Prop := Claim7.holds Tryd.pinned (.plain (OpenSpec.upto fnExactParseGameSpec)) fnExactParseGameUptoCard

/-- THE SECOND FORM's CARD OF 'laws.FnExactParseEnding'. -/
def fnExactParseEndingUptoCard : Claim7 := { stood := { row := fnExactParseEndingUptoRow, standIns := [], harness := (true, "65b48f1fe91905a5c525c2dd1c3a38e5f492fdd172adb3a13e5b1c547e818cd2"), looks := true }, kinds := [], alts := [], laidByText := true, laidKinds := [.data, .data, .data, .data, .sentinel, .sentinel, .pinned], laidTests := true, laidLooks := .later }
def FnExactParseEndingUptoCardSaid : Prop := Claim7.holds Tryd.pinned (.plain (OpenSpec.upto fnExactParseEndingSpec)) fnExactParseEndingUptoCard
end Rows
end Go.Proofs.YtcjfofcgbpbdmaaDoor
