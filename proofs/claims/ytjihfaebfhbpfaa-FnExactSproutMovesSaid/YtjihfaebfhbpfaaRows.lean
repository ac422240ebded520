/-
  No cell of these rows narrows 'for every input' (looked for: loops, veiled, ifaces, maps, wideKeys, modest, calm, conditions, laid).
  DERIVED. THE GIVEN ROWS OF THIS SEAT. 5 by the template 'for every input the law returns true; each argument reads behind the call as it read before'; 0 by the template 'total and deterministic' (their statements: YtjihfaebfhbpfaaTotals.lean).
  GIVEN WITH THE SEED: the statements are not yours to turn. If you find one false, say at which input.
  Laid BY PROGRAM, IN A SANDBOX (cutbox-rows.mjs): the forced cells as the released guide's own fill.sh prints them over the translation bfb1512e0d5d0bc0… (all of the seat's roots in one cut). By AI agents, Wed Nov 11 2026. No macro, syntax, notation, axiom, sorry.
-/
import Derived.Test.YtjihfaebfhbpfaaChecked
import GoSem.Claim
import GoSem.ClaimJoined
import GoSem.ClaimMapViews
import Derived.JoinedTies
import Derived.KernelRfl
namespace Go.Proofs.Ytjihfaebfhbpfaa
/- THE CELL 'sum', in the pinned program and in every row, IS THE sha256 OF THE DUMP (.gsa) THAT YtjihfaebfhbpfaaProg.lean LOADS. Nothing in Lean hashes anything: it is a label: what it is worth is what the hold of that sum in a sandbox is worth. -/
noncomputable def Try.pinned : Pinned := { name := "ytjihfaebfhbpfaa", sum := "bfb1512e0d5d0bc03d9ca51548cb4d3e79dd7238b643f782c1e3d3ce6ecb1ead", checked := Try.checked }
namespace Rows
def none {H : Type} : Left H := { results := [], args := [] }

/-- 'laws.FnExactIsSprouts': WHATEVER THE INPUT: true; the input reads as it did. -/
def fnExactIsSproutsSpec : ChangeSpec := { name := "fnExactIsSprouts", fn := fun _ => fun
  | [d] => { results := [.lit (.bool true)], args := [d] }
  | _ => none }
def fnExactIsSproutsRow : OpenClaim := { program := "ytjihfaebfhbpfaa", sum := "bfb1512e0d5d0bc03d9ca51548cb4d3e79dd7238b643f782c1e3d3ce6ecb1ead", func := "loop.example/g01388/laws.FnExactIsSprouts", spec := "fnExactIsSprouts", apart := false }
def FnExactIsSproutsSaid : Prop := fnExactIsSproutsRow.holds Try.pinned (OpenSpec.ofChange fnExactIsSproutsSpec)

/-- ITS FALSE NEIGHBOUR: 'it returns false'. Refute it at one input. -/
def fnExactIsSproutsWrong : ChangeSpec := { name := "fnExactIsSprouts", fn := fun _ => fun
  | [d] => { results := [.lit (.bool false)], args := [d] }
  | _ => none }
def FnExactIsSproutsWrongFalsely : Prop := fnExactIsSproutsRow.holds Try.pinned (OpenSpec.ofChange fnExactIsSproutsWrong)

/-- 'laws.FnExactLivesOf': WHATEVER THE INPUT: true; the input reads as it did. -/
def fnExactLivesOfSpec : ChangeSpec := { name := "fnExactLivesOf", fn := fun _ => fun
  | [d] => { results := [.lit (.bool true)], args := [d] }
  | _ => none }
def fnExactLivesOfRow : OpenClaim := { program := "ytjihfaebfhbpfaa", sum := "bfb1512e0d5d0bc03d9ca51548cb4d3e79dd7238b643f782c1e3d3ce6ecb1ead", func := "loop.example/g01388/laws.FnExactLivesOf", spec := "fnExactLivesOf", apart := false }
def FnExactLivesOfSaid : Prop := fnExactLivesOfRow.holds Try.pinned (OpenSpec.ofChange fnExactLivesOfSpec)

/-- ITS FALSE NEIGHBOUR: 'it returns false'. Refute it at one input. -/
def fnExactLivesOfWrong : ChangeSpec := { name := "fnExactLivesOf", fn := fun _ => fun
  | [d] => { results := [.lit (.bool false)], args := [d] }
  | _ => none }
def FnExactLivesOfWrongFalsely : Prop := fnExactLivesOfRow.holds Try.pinned (OpenSpec.ofChange fnExactLivesOfWrong)

/-- 'laws.FnExactDegreesOf': WHATEVER THE INPUT: true; the input reads as it did. -/
def fnExactDegreesOfSpec : ChangeSpec := { name := "fnExactDegreesOf", fn := fun _ => fun
  | [d] => { results := [.lit (.bool true)], args := [d] }
  | _ => none }
def fnExactDegreesOfRow : OpenClaim := { program := "ytjihfaebfhbpfaa", sum := "bfb1512e0d5d0bc03d9ca51548cb4d3e79dd7238b643f782c1e3d3ce6ecb1ead", func := "loop.example/g01388/laws.FnExactDegreesOf", spec := "fnExactDegreesOf", apart := false }
def FnExactDegreesOfSaid : Prop := fnExactDegreesOfRow.holds Try.pinned (OpenSpec.ofChange fnExactDegreesOfSpec)

/-- ITS FALSE NEIGHBOUR: 'it returns false'. Refute it at one input. -/
def fnExactDegreesOfWrong : ChangeSpec := { name := "fnExactDegreesOf", fn := fun _ => fun
  | [d] => { results := [.lit (.bool false)], args := [d] }
  | _ => none }
def FnExactDegreesOfWrongFalsely : Prop := fnExactDegreesOfRow.holds Try.pinned (OpenSpec.ofChange fnExactDegreesOfWrong)

/-- 'laws.FnExactSproutsText': WHATEVER THE INPUT: true; the input reads as it did. -/
def fnExactSproutsTextSpec : ChangeSpec := { name := "fnExactSproutsText", fn := fun _ => fun
  | [d] => { results := [.lit (.bool true)], args := [d] }
  | _ => none }
def fnExactSproutsTextRow : OpenClaim := { program := "ytjihfaebfhbpfaa", sum := "bfb1512e0d5d0bc03d9ca51548cb4d3e79dd7238b643f782c1e3d3ce6ecb1ead", func := "loop.example/g01388/laws.FnExactSproutsText", spec := "fnExactSproutsText", inPlace := ["internal/abi.NoEscape", "internal/bytealg.MakeNoZero"], apart := false }
def FnExactSproutsTextSaid : Prop := fnExactSproutsTextRow.holds Try.pinned (OpenSpec.ofChange fnExactSproutsTextSpec)

/-- ITS FALSE NEIGHBOUR: 'it returns false'. Refute it at one input. -/
def fnExactSproutsTextWrong : ChangeSpec := { name := "fnExactSproutsText", fn := fun _ => fun
  | [d] => { results := [.lit (.bool false)], args := [d] }
  | _ => none }
def FnExactSproutsTextWrongFalsely : Prop := fnExactSproutsTextRow.holds Try.pinned (OpenSpec.ofChange fnExactSproutsTextWrong)

/-- 'laws.FnExactSproutMoves': WHATEVER THE INPUT: true; the input reads as it did. -/
def fnExactSproutMovesSpec : ChangeSpec := { name := "fnExactSproutMoves", fn := fun _ => fun
  | [d] => { results := [.lit (.bool true)], args := [d] }
  | _ => none }
def fnExactSproutMovesRow : OpenClaim := { program := "ytjihfaebfhbpfaa", sum := "bfb1512e0d5d0bc03d9ca51548cb4d3e79dd7238b643f782c1e3d3ce6ecb1ead", func := "loop.example/g01388/laws.FnExactSproutMoves", spec := "fnExactSproutMoves", unfollowed := true, recurses := true, apart := false }
def FnExactSproutMovesSaid : Prop := fnExactSproutMovesRow.holds Try.pinned (OpenSpec.ofChange fnExactSproutMovesSpec)

/-- ITS FALSE NEIGHBOUR: 'it returns false'. Refute it at one input. -/
def fnExactSproutMovesWrong : ChangeSpec := { name := "fnExactSproutMoves", fn := fun _ => fun
  | [d] => { results := [.lit (.bool false)], args := [d] }
  | _ => none }
def FnExactSproutMovesWrongFalsely : Prop := fnExactSproutMovesRow.holds Try.pinned (OpenSpec.ofChange fnExactSproutMovesWrong)

/- THE SECOND FORM. 'bulk': how many values and letters a reading holds, each counted each time it is reached (what is shared counts as often as it is met; a slice's spare places count too). A statement '..UptoSaid' is the law's where the arguments, and the package variables that the reading takes, are together of bulk at most 1048576: NARROWER than '..Said'. Prove '..Said' where nothing that the law and all that it calls make is longer than what came in: it says more and counts as full. Else prove '..UptoSaid'. A law counts once. -/
mutual
def uptoBulk {H : Type} : DataW H → Nat
  | .lit (.string bytes) => bytes.length + 1
  | .lit _ => 1
  | .nil => 1
  | .ptr d => uptoBulk d + 1
  | .slice elems spare => uptoBulkAll elems + uptoBulkAll spare + 1
  | .agg parts => uptoBulkAll parts + 1
  | .iface _ d => uptoBulk d + 1
  | .map entries => uptoBulkEntries entries + 1
  | .held _ => 1
def uptoBulkAll {H : Type} : List (DataW H) → Nat
  | [] => 0
  | d :: r => uptoBulk d + uptoBulkAll r
def uptoBulkEntries {H : Type} : List (Lit × DataW H) → Nat
  | [] => 0
  | x :: r => uptoBulkEntry x + uptoBulkEntries r
def uptoBulkEntry {H : Type} : Lit × DataW H → Nat
  | (.string bytes, d) => bytes.length + uptoBulk d + 1
  | (_, d) => uptoBulk d + 1
 end
def uptoSmall : (H : Type) → List (DataW H) → Bool := fun _ ds => decide (uptoBulkAll ds ≤ 1048576)
def OpenSpec.upto (s : _root_.Go.ChangeSpec) : _root_.Go.OpenSpec := { _root_.Go.OpenSpec.ofChange s with cond := some uptoSmall }

/-- 'laws.FnExactIsSprouts', WHERE WHAT IT READS IS OF BULK AT MOST 1048576: true; the input reads as it did. -/
def fnExactIsSproutsUptoRow : OpenClaim := { program := "ytjihfaebfhbpfaa", sum := "bfb1512e0d5d0bc03d9ca51548cb4d3e79dd7238b643f782c1e3d3ce6ecb1ead", func := "loop.example/g01388/laws.FnExactIsSprouts", spec := "fnExactIsSprouts", apart := false, narrowed := true }
def FnExactIsSproutsUptoSaid : Prop := fnExactIsSproutsUptoRow.holds Try.pinned (OpenSpec.upto fnExactIsSproutsSpec)

/-- 'laws.FnExactLivesOf', WHERE WHAT IT READS IS OF BULK AT MOST 1048576: true; the input reads as it did. -/
def fnExactLivesOfUptoRow : OpenClaim := { program := "ytjihfaebfhbpfaa", sum := "bfb1512e0d5d0bc03d9ca51548cb4d3e79dd7238b643f782c1e3d3ce6ecb1ead", func := "loop.example/g01388/laws.FnExactLivesOf", spec := "fnExactLivesOf", apart := false, narrowed := true }
def FnExactLivesOfUptoSaid : Prop := fnExactLivesOfUptoRow.holds Try.pinned (OpenSpec.upto fnExactLivesOfSpec)

/-- 'laws.FnExactDegreesOf', WHERE WHAT IT READS IS OF BULK AT MOST 1048576: true; the input reads as it did. -/
def fnExactDegreesOfUptoRow : OpenClaim := { program := "ytjihfaebfhbpfaa", sum := "bfb1512e0d5d0bc03d9ca51548cb4d3e79dd7238b643f782c1e3d3ce6ecb1ead", func := "loop.example/g01388/laws.FnExactDegreesOf", spec := "fnExactDegreesOf", apart := false, narrowed := true }
def FnExactDegreesOfUptoSaid : Prop := fnExactDegreesOfUptoRow.holds Try.pinned (OpenSpec.upto fnExactDegreesOfSpec)

/-- 'laws.FnExactSproutsText', WHERE WHAT IT READS IS OF BULK AT MOST 1048576: true; the input reads as it did. -/
def fnExactSproutsTextUptoRow : OpenClaim := { program := "ytjihfaebfhbpfaa", sum := "bfb1512e0d5d0bc03d9ca51548cb4d3e79dd7238b643f782c1e3d3ce6ecb1ead", func := "loop.example/g01388/laws.FnExactSproutsText", spec := "fnExactSproutsText", inPlace := ["internal/abi.NoEscape", "internal/bytealg.MakeNoZero"], apart := false, narrowed := true }
def FnExactSproutsTextUptoSaid : Prop := fnExactSproutsTextUptoRow.holds Try.pinned (OpenSpec.upto fnExactSproutsTextSpec)

/-- 'laws.FnExactSproutMoves', WHERE WHAT IT READS IS OF BULK AT MOST 1048576: true; the input reads as it did. -/
def fnExactSproutMovesUptoRow : OpenClaim := { program := "ytjihfaebfhbpfaa", sum := "bfb1512e0d5d0bc03d9ca51548cb4d3e79dd7238b643f782c1e3d3ce6ecb1ead", func := "loop.example/g01388/laws.FnExactSproutMoves", spec := "fnExactSproutMoves", unfollowed := true, recurses := true, apart := false, narrowed := true }
def FnExactSproutMovesUptoSaid : Prop := fnExactSproutMovesUptoRow.holds Try.pinned (OpenSpec.upto fnExactSproutMovesSpec)

end Rows
end Go.Proofs.Ytjihfaebfhbpfaa
