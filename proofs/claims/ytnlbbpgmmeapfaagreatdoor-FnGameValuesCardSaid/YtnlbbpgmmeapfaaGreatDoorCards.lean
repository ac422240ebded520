/-
  DERIVED. GIVEN WITH THE SEED: THE CARDS: each row of YtnlbbpgmmeapfaaGreatDoorRows.lean that lists a variable, with what it lists TIED to the program's text (the seventh form; the later family's looks); each row that meets fmt, with fmt's text TOLD by the authors' own Lean function (tested against real Go, not proved from fmt's source: count such statements apart). THE CARD IS WHAT COUNTS. Prove the row's statement (the work); the ties are given (YtnlbbpgmmeapfaaGreatDoorTie.lean); close each card by the builder's one call (the guide's Derived/Test/ToyasCard.lean, 'card_holds'). Laid BY PROGRAM, IN A SANDBOX (cutbox-door.mjs). By AI agents, Wed Nov 11 2026. No macro, syntax, notation, axiom, sorry.
-/
import Derived.Test.YtnlbbpgmmeapfaaGreatDoorRows
import GoSem.ClaimSeven
namespace Go.Proofs.YtnlbbpgmmeapfaaGreatDoor
namespace Rows

/-- THE TIED CARD OF 'laws.FnGameValues'. -/
def fnGameValuesCard : Claim7 := { stood := { row := fnGameValuesRow, standIns := [], harness := (true, "aa54ca0192c2135f220c7ff876519c274ea2c6c72b509b3b44ff2b8eb356fc8d"), looks := true }, kinds := [], alts := [], laidByText := true, laidKinds := [.data, .data, .data, .data, .sentinel, .sentinel, .pinned], laidTests := true, laidLooks := .later }
def FnGameValuesCardSaid : Prop := Claim7.holds Tryz.pinned (.plain (OpenSpec.ofChange fnGameValuesSpec)) fnGameValuesCard

/-- THE SECOND FORM's CARD OF 'laws.FnGameValues'. -/
def fnGameValuesUptoCard : Claim7 := { stood := { row := fnGameValuesUptoRow, standIns := [], harness := (true, "aa54ca0192c2135f220c7ff876519c274ea2c6c72b509b3b44ff2b8eb356fc8d"), looks := true }, kinds := [], alts := [], laidByText := true, laidKinds := [.data, .data, .data, .data, .sentinel, .sentinel, .pinned], laidTests := true, laidLooks := .later }
def FnGameValuesUptoCardSaid : Prop := Claim7.holds Tryz.pinned (.plain (OpenSpec.upto fnGameValuesSpec)) fnGameValuesUptoCard
end Rows
end Go.Proofs.YtnlbbpgmmeapfaaGreatDoor
