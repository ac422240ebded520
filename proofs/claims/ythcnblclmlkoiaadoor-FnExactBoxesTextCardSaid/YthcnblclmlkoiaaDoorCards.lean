/-
  DERIVED. GIVEN WITH THE SEED: THE CARDS: each row of YthcnblclmlkoiaaDoorRows.lean that lists a variable, with what it lists TIED to the program's text (the seventh form; the later family's looks); each row that meets fmt, with fmt's text TOLD by the authors' own Lean function (tested against real Go, not proved from fmt's source: count such statements apart). THE CARD IS WHAT COUNTS. Prove the row's statement (the work); the ties are given (YthcnblclmlkoiaaDoorTie.lean); close each card by the builder's one call (the guide's Derived/Test/ToyasCard.lean, 'card_holds'). Laid BY PROGRAM, IN A SANDBOX (cutbox-door.mjs). By AI agents, Wed Nov 11 2026. No macro, syntax, notation, axiom, sorry.
-/
import Derived.Test.YthcnblclmlkoiaaDoorRows
import GoSem.ClaimSeven
namespace Go.Proofs.YthcnblclmlkoiaaDoor
namespace Rows

/-- THE TIED CARD OF 'laws.FnExactBoxesText'. -/
def fnExactBoxesTextCard : Claim7 := { stood := { row := fnExactBoxesTextRow, standIns := [], harness := (true, "55d13b05bfc0544c9dfb464dbdb26e0fdf872906794abc141ff0443df2b86cc9"), looks := false }, kinds := [], alts := [], laidByText := true, laidKinds := [.data, .data, .data], laidTests := true, laidLooks := .later }
def FnExactBoxesTextCardSaid : Prop := Claim7.holds Tryd.pinned (.plain (OpenSpec.ofChange fnExactBoxesTextSpec)) fnExactBoxesTextCard

/-- THE TIED CARD OF 'laws.FnExactEndingText'. -/
def fnExactEndingTextCard : Claim7 := { stood := { row := fnExactEndingTextRow, standIns := [], harness := (true, "55d13b05bfc0544c9dfb464dbdb26e0fdf872906794abc141ff0443df2b86cc9"), looks := false }, kinds := [], alts := [], laidByText := true, laidKinds := [.data, .data, .data], laidTests := true, laidLooks := .later }
def FnExactEndingTextCardSaid : Prop := Claim7.holds Tryd.pinned (.plain (OpenSpec.ofChange fnExactEndingTextSpec)) fnExactEndingTextCard

/-- THE TIED CARD OF 'laws.FnExactGameText'. -/
def fnExactGameTextCard : Claim7 := { stood := { row := fnExactGameTextRow, standIns := [], harness := (true, "55d13b05bfc0544c9dfb464dbdb26e0fdf872906794abc141ff0443df2b86cc9"), looks := false }, kinds := [], alts := [], laidByText := true, laidKinds := [.data, .data, .data], laidTests := true, laidLooks := .later }
def FnExactGameTextCardSaid : Prop := Claim7.holds Tryd.pinned (.plain (OpenSpec.ofChange fnExactGameTextSpec)) fnExactGameTextCard

/-- THE SECOND FORM's CARD OF 'laws.FnExactBoxesText'. -/
def fnExactBoxesTextUptoCard : Claim7 := { stood := { row := fnExactBoxesTextUptoRow, standIns := [], harness := (true, "55d13b05bfc0544c9dfb464dbdb26e0fdf872906794abc141ff0443df2b86cc9"), looks := false }, kinds := [], alts := [], laidByText := true, laidKinds := [.data, .data, .data], laidTests := true, laidLooks := .later }
def FnExactBoxesTextUptoCardSaid : Prop := Claim7.holds Tryd.pinned (.plain (OpenSpec.upto fnExactBoxesTextSpec)) fnExactBoxesTextUptoCard

/-- THE SECOND FORM's CARD OF 'laws.FnExactEndingText'. -/
def fnExactEndingTextUptoCard : Claim7 := { stood := { row := fnExactEndingTextUptoRow, standIns := [], harness := (true, "55d13b05bfc0544c9dfb464dbdb26e0fdf872906794abc141ff0443df2b86cc9"), looks := false }, kinds := [], alts := [], laidByText := true, laidKinds := [.data, .data, .data], laidTests := true, laidLooks := .later }
def FnExactEndingTextUptoCardSaid : Prop := Claim7.holds Tryd.pinned (.plain (OpenSpec.upto fnExactEndingTextSpec)) fnExactEndingTextUptoCard

/-- THE SECOND FORM's CARD OF 'laws.FnExactGameText'. -/
def fnExactGameTextUptoCard : Claim7 := { stood := { row := fnExactGameTextUptoRow, standIns := [], harness := (true, "55d13b05bfc0544c9dfb464dbdb26e0fdf872906794abc141ff0443df2b86cc9"), looks := false }, kinds := [], alts := [], laidByText := true, laidKinds := [.data, .data, .data], laidTests := true, laidLooks := .later }
def FnExactGameTextUptoCardSaid : Prop := Claim7.holds Tryd.pinned (.plain (OpenSpec.upto fnExactGameTextSpec)) fnExactGameTextUptoCard
end Rows
end Go.Proofs.YthcnblclmlkoiaaDoor
