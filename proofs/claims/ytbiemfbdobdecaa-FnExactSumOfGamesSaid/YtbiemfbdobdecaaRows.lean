/-
  No cell of these rows narrows 'for every input' (looked for: loops, veiled, ifaces, maps, wideKeys, modest, calm, conditions, laid).
  DERIVED. THE GIVEN ROWS OF THIS SEAT. 5 by the template 'for every input the law returns true; each argument reads behind the call as it read before'; 0 by the template 'total and deterministic' (their statements: YtbiemfbdobdecaaTotals.lean).
  GIVEN WITH THE SEED: the statements are not yours to turn. If you find one false, say at which input.
  Laid BY PROGRAM, IN A SANDBOX (cutbox-rows.mjs): the forced cells as the released guide's own fill.sh prints them over the translation 252359d12c9729bb… (all of the seat's roots in one cut). By AI agents, Wed Nov 11 2026. No macro, syntax, notation, axiom, sorry.
-/
import Derived.Test.YtbiemfbdobdecaaChecked
import GoSem.Claim
import GoSem.ClaimJoined
import GoSem.ClaimMapViews
import Derived.JoinedTies
import Derived.KernelRfl
namespace Go.Proofs.Ytbiemfbdobdecaa
/- THE CELL 'sum', in the pinned program and in every row, IS THE sha256 OF THE DUMP (.gsa) THAT YtbiemfbdobdecaaProg.lean LOADS. Nothing in Lean hashes anything: it is a label: what it is worth is what the hold of that sum in a sandbox is worth. -/
noncomputable def Try.pinned : Pinned := { name := "ytbiemfbdobdecaa", sum := "252359d12c9729bb6bf5577491a4454f78ff0c0511fa86d53ce53faba5f8232a", checked := Try.checked }
namespace Rows
def none {H : Type} : Left H := { results := [], args := [] }

/-- 'laws.FnExactSumOfGames': WHATEVER THE INPUT: true; the input reads as it did. -/
def fnExactSumOfGamesSpec : ChangeSpec := { name := "fnExactSumOfGames", fn := fun _ => fun
  | [d1, d2] => { results := [.lit (.bool true)], args := [d1, d2] }
  | _ => none }
def fnExactSumOfGamesRow : OpenClaim := { program := "ytbiemfbdobdecaa", sum := "252359d12c9729bb6bf5577491a4454f78ff0c0511fa86d53ce53faba5f8232a", func := "loop.example/g01388/laws.FnExactSumOfGames", spec := "fnExactSumOfGames", apart := false }
def FnExactSumOfGamesSaid : Prop := fnExactSumOfGamesRow.holds Try.pinned (OpenSpec.ofChange fnExactSumOfGamesSpec)

/-- ITS FALSE NEIGHBOUR: 'it returns false'. Refute it at one input. -/
def fnExactSumOfGamesWrong : ChangeSpec := { name := "fnExactSumOfGames", fn := fun _ => fun
  | [d1, d2] => { results := [.lit (.bool false)], args := [d1, d2] }
  | _ => none }
def FnExactSumOfGamesWrongFalsely : Prop := fnExactSumOfGamesRow.holds Try.pinned (OpenSpec.ofChange fnExactSumOfGamesWrong)

/-- 'laws.FnExactAreEqualGames': WHATEVER THE INPUT: true; the input reads as it did. -/
def fnExactAreEqualGamesSpec : ChangeSpec := { name := "fnExactAreEqualGames", fn := fun _ => fun
  | [d1, d2, d3, d4] => { results := [.lit (.bool true)], args := [d1, d2, d3, d4] }
  | _ => none }
def fnExactAreEqualGamesRow : OpenClaim := { program := "ytbiemfbdobdecaa", sum := "252359d12c9729bb6bf5577491a4454f78ff0c0511fa86d53ce53faba5f8232a", func := "loop.example/g01388/laws.FnExactAreEqualGames", spec := "fnExactAreEqualGames", unfollowed := true, recurses := true, apart := false }
def FnExactAreEqualGamesSaid : Prop := fnExactAreEqualGamesRow.holds Try.pinned (OpenSpec.ofChange fnExactAreEqualGamesSpec)

/-- ITS FALSE NEIGHBOUR: 'it returns false'. Refute it at one input. -/
def fnExactAreEqualGamesWrong : ChangeSpec := { name := "fnExactAreEqualGames", fn := fun _ => fun
  | [d1, d2, d3, d4] => { results := [.lit (.bool false)], args := [d1, d2, d3, d4] }
  | _ => none }
def FnExactAreEqualGamesWrongFalsely : Prop := fnExactAreEqualGamesRow.holds Try.pinned (OpenSpec.ofChange fnExactAreEqualGamesWrong)

/-- 'laws.FnExactReachedFrom': WHATEVER THE INPUT: true; the input reads as it did. -/
def fnExactReachedFromSpec : ChangeSpec := { name := "fnExactReachedFrom", fn := fun _ => fun
  | [d1, d2] => { results := [.lit (.bool true)], args := [d1, d2] }
  | _ => none }
def fnExactReachedFromRow : OpenClaim := { program := "ytbiemfbdobdecaa", sum := "252359d12c9729bb6bf5577491a4454f78ff0c0511fa86d53ce53faba5f8232a", func := "loop.example/g01388/laws.FnExactReachedFrom", spec := "fnExactReachedFrom", unfollowed := true, recurses := true, apart := false }
def FnExactReachedFromSaid : Prop := fnExactReachedFromRow.holds Try.pinned (OpenSpec.ofChange fnExactReachedFromSpec)

/-- ITS FALSE NEIGHBOUR: 'it returns false'. Refute it at one input. -/
def fnExactReachedFromWrong : ChangeSpec := { name := "fnExactReachedFrom", fn := fun _ => fun
  | [d1, d2] => { results := [.lit (.bool false)], args := [d1, d2] }
  | _ => none }
def FnExactReachedFromWrongFalsely : Prop := fnExactReachedFromRow.holds Try.pinned (OpenSpec.ofChange fnExactReachedFromWrong)

/-- 'laws.FnExactBestMoves': WHATEVER THE INPUT: true; the input reads as it did. -/
def fnExactBestMovesSpec : ChangeSpec := { name := "fnExactBestMoves", fn := fun _ => fun
  | [d1, d2] => { results := [.lit (.bool true)], args := [d1, d2] }
  | _ => none }
def fnExactBestMovesRow : OpenClaim := { program := "ytbiemfbdobdecaa", sum := "252359d12c9729bb6bf5577491a4454f78ff0c0511fa86d53ce53faba5f8232a", func := "loop.example/g01388/laws.FnExactBestMoves", spec := "fnExactBestMoves", unfollowed := true, recurses := true, apart := false }
def FnExactBestMovesSaid : Prop := fnExactBestMovesRow.holds Try.pinned (OpenSpec.ofChange fnExactBestMovesSpec)

/-- ITS FALSE NEIGHBOUR: 'it returns false'. Refute it at one input. -/
def fnExactBestMovesWrong : ChangeSpec := { name := "fnExactBestMoves", fn := fun _ => fun
  | [d1, d2] => { results := [.lit (.bool false)], args := [d1, d2] }
  | _ => none }
def FnExactBestMovesWrongFalsely : Prop := fnExactBestMovesRow.holds Try.pinned (OpenSpec.ofChange fnExactBestMovesWrong)

/-- 'laws.FnExactPlayFrom': WHATEVER THE INPUT: true; the input reads as it did. -/
def fnExactPlayFromSpec : ChangeSpec := { name := "fnExactPlayFrom", fn := fun _ => fun
  | [d1, d2] => { results := [.lit (.bool true)], args := [d1, d2] }
  | _ => none }
def fnExactPlayFromRow : OpenClaim := { program := "ytbiemfbdobdecaa", sum := "252359d12c9729bb6bf5577491a4454f78ff0c0511fa86d53ce53faba5f8232a", func := "loop.example/g01388/laws.FnExactPlayFrom", spec := "fnExactPlayFrom", unfollowed := true, recurses := true, apart := false }
def FnExactPlayFromSaid : Prop := fnExactPlayFromRow.holds Try.pinned (OpenSpec.ofChange fnExactPlayFromSpec)

/-- ITS FALSE NEIGHBOUR: 'it returns false'. Refute it at one input. -/
def fnExactPlayFromWrong : ChangeSpec := { name := "fnExactPlayFrom", fn := fun _ => fun
  | [d1, d2] => { results := [.lit (.bool false)], args := [d1, d2] }
  | _ => none }
def FnExactPlayFromWrongFalsely : Prop := fnExactPlayFromRow.holds Try.pinned (OpenSpec.ofChange fnExactPlayFromWrong)

/- THE SECOND FORM. 'bulk': how many values and letters a reading holds, each counted each time it is reached (what is shared counts as often as it is met; a slice's spare places count too). A statement '..UptoSaid' is the law's where the arguments, and the package variables that the reading takes, are together of bulk at most 1048576: NARROWER than '..Said'. Prove '..Said' where nothing that the law and all that it calls make is longer than what came in: it says more and counts as full. Else prove '..UptoSaid'. A law counts once. -/
mutual
def uptoBulk {H : Type} : DataW H → Nat
  | .lit (.string bytes) => bytes.length + 1
  | .lit _ => 1
  | .nil => 1
  | .ptr d => uptoBulk d + 1
  | .slice elems spare => uptoBulkAll elems + uptoBulkAll spare + 1
  | .agg parts => uptoBulkAll parts + 1
  | .iface _ d => uptoBulk d + 1
  | .map entries => uptoBulkEntries entries + 1
  | .held _ => 1
def uptoBulkAll {H : Type} : List (DataW H) → Nat
  | [] => 0
  | d :: r => uptoBulk d + uptoBulkAll r
def uptoBulkEntries {H : Type} : List (Lit × DataW H) → Nat
  | [] => 0
  | x :: r => uptoBulkEntry x + uptoBulkEntries r
def uptoBulkEntry {H : Type} : Lit × DataW H → Nat
  | (.string bytes, d) => bytes.length + uptoBulk d + 1
  | (_, d) => uptoBulk d + 1
 end
def uptoSmall : (H : Type) → List (DataW H) → Bool := fun _ ds => decide (uptoBulkAll ds ≤ 1048576)
def OpenSpec.upto (s : _root_.Go.ChangeSpec) : _root_.Go.OpenSpec := { _root_.Go.OpenSpec.ofChange s with cond := some uptoSmall }

/-- 'laws.FnExactSumOfGames', WHERE WHAT IT READS IS OF BULK AT MOST 1048576: true; the input reads as it did. -/
def fnExactSumOfGamesUptoRow : OpenClaim := { program := "ytbiemfbdobdecaa", sum := "252359d12c9729bb6bf5577491a4454f78ff0c0511fa86d53ce53faba5f8232a", func := "loop.example/g01388/laws.FnExactSumOfGames", spec := "fnExactSumOfGames", apart := false, narrowed := true }
def FnExactSumOfGamesUptoSaid : Prop := fnExactSumOfGamesUptoRow.holds Try.pinned (OpenSpec.upto fnExactSumOfGamesSpec)

/-- 'laws.FnExactAreEqualGames', WHERE WHAT IT READS IS OF BULK AT MOST 1048576: true; the input reads as it did. -/
def fnExactAreEqualGamesUptoRow : OpenClaim := { program := "ytbiemfbdobdecaa", sum := "252359d12c9729bb6bf5577491a4454f78ff0c0511fa86d53ce53faba5f8232a", func := "loop.example/g01388/laws.FnExactAreEqualGames", spec := "fnExactAreEqualGames", unfollowed := true, recurses := true, apart := false, narrowed := true }
def FnExactAreEqualGamesUptoSaid : Prop := fnExactAreEqualGamesUptoRow.holds Try.pinned (OpenSpec.upto fnExactAreEqualGamesSpec)

/-- 'laws.FnExactReachedFrom', WHERE WHAT IT READS IS OF BULK AT MOST 1048576: true; the input reads as it did. -/
def fnExactReachedFromUptoRow : OpenClaim := { program := "ytbiemfbdobdecaa", sum := "252359d12c9729bb6bf5577491a4454f78ff0c0511fa86d53ce53faba5f8232a", func := "loop.example/g01388/laws.FnExactReachedFrom", spec := "fnExactReachedFrom", unfollowed := true, recurses := true, apart := false, narrowed := true }
def FnExactReachedFromUptoSaid : Prop := fnExactReachedFromUptoRow.holds Try.pinned (OpenSpec.upto fnExactReachedFromSpec)

/-- 'laws.FnExactBestMoves', WHERE WHAT IT READS IS OF BULK AT MOST 1048576: true; the input reads as it did. -/
def fnExactBestMovesUptoRow : OpenClaim := { program := "ytbiemfbdobdecaa", sum := "252359d12c9729bb6bf5577491a4454f78ff0c0511fa86d53ce53faba5f8232a", func := "loop.example/g01388/laws.FnExactBestMoves", spec := "fnExactBestMoves", unfollowed := true, recurses := true, apart := false, narrowed := true }
def FnExactBestMovesUptoSaid : Prop := fnExactBestMovesUptoRow.holds Try.pinned (OpenSpec.upto fnExactBestMovesSpec)

/-- 'laws.FnExactPlayFrom', WHERE WHAT IT READS IS OF BULK AT MOST 1048576: true; the input reads as it did. -/
def fnExactPlayFromUptoRow : OpenClaim := { program := "ytbiemfbdobdecaa", sum := "252359d12c9729bb6bf5577491a4454f78ff0c0511fa86d53ce53faba5f8232a", func := "loop.example/g01388/laws.FnExactPlayFrom", spec := "fnExactPlayFrom", unfollowed := true, recurses := true, apart := false, narrowed := true }
def FnExactPlayFromUptoSaid : Prop := fnExactPlayFromUptoRow.holds Try.pinned (OpenSpec.upto fnExactPlayFromSpec)

end Rows
end Go.Proofs.Ytbiemfbdobdecaa
