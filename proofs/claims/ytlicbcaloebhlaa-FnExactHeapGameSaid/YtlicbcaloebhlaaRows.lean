/-
  No cell of these rows narrows 'for every input' (looked for: loops, veiled, ifaces, maps, wideKeys, modest, calm, conditions, laid).
  DERIVED. THE GIVEN ROWS OF THIS SEAT. 12 by the template 'for every input the law returns true; each argument reads behind the call as it read before'; 0 by the template 'total and deterministic' (their statements: YtlicbcaloebhlaaTotals.lean).
  GIVEN WITH THE SEED: the statements are not yours to turn. If you find one false, say at which input.
  Laid BY PROGRAM, IN A SANDBOX (cutbox-rows.mjs): the forced cells as the released guide's own fill.sh prints them over the translation 6c56c48c4443d849… (all of the seat's roots in one cut). By AI agents, Wed Nov 11 2026. No macro, syntax, notation, axiom, sorry.
-/
import Derived.Test.YtlicbcaloebhlaaChecked
import GoSem.Claim
import GoSem.ClaimJoined
import GoSem.ClaimMapViews
import Derived.JoinedTies
import Derived.KernelRfl
namespace Go.Proofs.Ytlicbcaloebhlaa
/- THE CELL 'sum', in the pinned program and in every row, IS THE sha256 OF THE DUMP (.gsa) THAT YtlicbcaloebhlaaProg.lean LOADS. Nothing in Lean hashes anything: it is a label: what it is worth is what the hold of that sum in a sandbox is worth. -/
noncomputable def Try.pinned : Pinned := { name := "ytlicbcaloebhlaa", sum := "6c56c48c4443d8496fa8f4db55a1ab57689b5758080daef37dbe3722a1397cca", checked := Try.checked }
namespace Rows
def none {H : Type} : Left H := { results := [], args := [] }

/-- 'laws.FnExactIsGame': WHATEVER THE INPUT: true; the input reads as it did. -/
def fnExactIsGameSpec : ChangeSpec := { name := "fnExactIsGame", fn := fun _ => fun
  | [d] => { results := [.lit (.bool true)], args := [d] }
  | _ => none }
def fnExactIsGameRow : OpenClaim := { program := "ytlicbcaloebhlaa", sum := "6c56c48c4443d8496fa8f4db55a1ab57689b5758080daef37dbe3722a1397cca", func := "loop.example/g01388/laws.FnExactIsGame", spec := "fnExactIsGame", apart := false }
def FnExactIsGameSaid : Prop := fnExactIsGameRow.holds Try.pinned (OpenSpec.ofChange fnExactIsGameSpec)

/-- ITS FALSE NEIGHBOUR: 'it returns false'. Refute it at one input. -/
def fnExactIsGameWrong : ChangeSpec := { name := "fnExactIsGame", fn := fun _ => fun
  | [d] => { results := [.lit (.bool false)], args := [d] }
  | _ => none }
def FnExactIsGameWrongFalsely : Prop := fnExactIsGameRow.holds Try.pinned (OpenSpec.ofChange fnExactIsGameWrong)

/-- 'laws.FnExactNimSumOf': WHATEVER THE INPUT: true; the input reads as it did. -/
def fnExactNimSumOfSpec : ChangeSpec := { name := "fnExactNimSumOf", fn := fun _ => fun
  | [d] => { results := [.lit (.bool true)], args := [d] }
  | _ => none }
def fnExactNimSumOfRow : OpenClaim := { program := "ytlicbcaloebhlaa", sum := "6c56c48c4443d8496fa8f4db55a1ab57689b5758080daef37dbe3722a1397cca", func := "loop.example/g01388/laws.FnExactNimSumOf", spec := "fnExactNimSumOf", unfollowed := true, recurses := true, apart := false }
def FnExactNimSumOfSaid : Prop := fnExactNimSumOfRow.holds Try.pinned (OpenSpec.ofChange fnExactNimSumOfSpec)

/-- ITS FALSE NEIGHBOUR: 'it returns false'. Refute it at one input. -/
def fnExactNimSumOfWrong : ChangeSpec := { name := "fnExactNimSumOf", fn := fun _ => fun
  | [d] => { results := [.lit (.bool false)], args := [d] }
  | _ => none }
def FnExactNimSumOfWrongFalsely : Prop := fnExactNimSumOfRow.holds Try.pinned (OpenSpec.ofChange fnExactNimSumOfWrong)

/-- 'laws.FnExactMexOf': WHATEVER THE INPUT: true; the input reads as it did. -/
def fnExactMexOfSpec : ChangeSpec := { name := "fnExactMexOf", fn := fun _ => fun
  | [d] => { results := [.lit (.bool true)], args := [d] }
  | _ => none }
def fnExactMexOfRow : OpenClaim := { program := "ytlicbcaloebhlaa", sum := "6c56c48c4443d8496fa8f4db55a1ab57689b5758080daef37dbe3722a1397cca", func := "loop.example/g01388/laws.FnExactMexOf", spec := "fnExactMexOf", unfollowed := true, recurses := true, apart := false }
def FnExactMexOfSaid : Prop := fnExactMexOfRow.holds Try.pinned (OpenSpec.ofChange fnExactMexOfSpec)

/-- ITS FALSE NEIGHBOUR: 'it returns false'. Refute it at one input. -/
def fnExactMexOfWrong : ChangeSpec := { name := "fnExactMexOf", fn := fun _ => fun
  | [d] => { results := [.lit (.bool false)], args := [d] }
  | _ => none }
def FnExactMexOfWrongFalsely : Prop := fnExactMexOfRow.holds Try.pinned (OpenSpec.ofChange fnExactMexOfWrong)

/-- 'laws.FnExactEndsOf': WHATEVER THE INPUT: true; the input reads as it did. -/
def fnExactEndsOfSpec : ChangeSpec := { name := "fnExactEndsOf", fn := fun _ => fun
  | [d] => { results := [.lit (.bool true)], args := [d] }
  | _ => none }
def fnExactEndsOfRow : OpenClaim := { program := "ytlicbcaloebhlaa", sum := "6c56c48c4443d8496fa8f4db55a1ab57689b5758080daef37dbe3722a1397cca", func := "loop.example/g01388/laws.FnExactEndsOf", spec := "fnExactEndsOf", unfollowed := true, recurses := true, apart := false }
def FnExactEndsOfSaid : Prop := fnExactEndsOfRow.holds Try.pinned (OpenSpec.ofChange fnExactEndsOfSpec)

/-- ITS FALSE NEIGHBOUR: 'it returns false'. Refute it at one input. -/
def fnExactEndsOfWrong : ChangeSpec := { name := "fnExactEndsOf", fn := fun _ => fun
  | [d] => { results := [.lit (.bool false)], args := [d] }
  | _ => none }
def FnExactEndsOfWrongFalsely : Prop := fnExactEndsOfRow.holds Try.pinned (OpenSpec.ofChange fnExactEndsOfWrong)

/-- 'laws.FnExactWonPlaces': WHATEVER THE INPUT: true; the input reads as it did. -/
def fnExactWonPlacesSpec : ChangeSpec := { name := "fnExactWonPlaces", fn := fun _ => fun
  | [d] => { results := [.lit (.bool true)], args := [d] }
  | _ => none }
def fnExactWonPlacesRow : OpenClaim := { program := "ytlicbcaloebhlaa", sum := "6c56c48c4443d8496fa8f4db55a1ab57689b5758080daef37dbe3722a1397cca", func := "loop.example/g01388/laws.FnExactWonPlaces", spec := "fnExactWonPlaces", unfollowed := true, recurses := true, apart := false }
def FnExactWonPlacesSaid : Prop := fnExactWonPlacesRow.holds Try.pinned (OpenSpec.ofChange fnExactWonPlacesSpec)

/-- ITS FALSE NEIGHBOUR: 'it returns false'. Refute it at one input. -/
def fnExactWonPlacesWrong : ChangeSpec := { name := "fnExactWonPlaces", fn := fun _ => fun
  | [d] => { results := [.lit (.bool false)], args := [d] }
  | _ => none }
def FnExactWonPlacesWrongFalsely : Prop := fnExactWonPlacesRow.holds Try.pinned (OpenSpec.ofChange fnExactWonPlacesWrong)

/-- 'laws.FnExactWonInMisere': WHATEVER THE INPUT: true; the input reads as it did. -/
def fnExactWonInMisereSpec : ChangeSpec := { name := "fnExactWonInMisere", fn := fun _ => fun
  | [d] => { results := [.lit (.bool true)], args := [d] }
  | _ => none }
def fnExactWonInMisereRow : OpenClaim := { program := "ytlicbcaloebhlaa", sum := "6c56c48c4443d8496fa8f4db55a1ab57689b5758080daef37dbe3722a1397cca", func := "loop.example/g01388/laws.FnExactWonInMisere", spec := "fnExactWonInMisere", unfollowed := true, recurses := true, apart := false }
def FnExactWonInMisereSaid : Prop := fnExactWonInMisereRow.holds Try.pinned (OpenSpec.ofChange fnExactWonInMisereSpec)

/-- ITS FALSE NEIGHBOUR: 'it returns false'. Refute it at one input. -/
def fnExactWonInMisereWrong : ChangeSpec := { name := "fnExactWonInMisere", fn := fun _ => fun
  | [d] => { results := [.lit (.bool false)], args := [d] }
  | _ => none }
def FnExactWonInMisereWrongFalsely : Prop := fnExactWonInMisereRow.holds Try.pinned (OpenSpec.ofChange fnExactWonInMisereWrong)

/-- 'laws.FnExactGrundyOf': WHATEVER THE INPUT: true; the input reads as it did. -/
def fnExactGrundyOfSpec : ChangeSpec := { name := "fnExactGrundyOf", fn := fun _ => fun
  | [d] => { results := [.lit (.bool true)], args := [d] }
  | _ => none }
def fnExactGrundyOfRow : OpenClaim := { program := "ytlicbcaloebhlaa", sum := "6c56c48c4443d8496fa8f4db55a1ab57689b5758080daef37dbe3722a1397cca", func := "loop.example/g01388/laws.FnExactGrundyOf", spec := "fnExactGrundyOf", unfollowed := true, recurses := true, apart := false }
def FnExactGrundyOfSaid : Prop := fnExactGrundyOfRow.holds Try.pinned (OpenSpec.ofChange fnExactGrundyOfSpec)

/-- ITS FALSE NEIGHBOUR: 'it returns false'. Refute it at one input. -/
def fnExactGrundyOfWrong : ChangeSpec := { name := "fnExactGrundyOf", fn := fun _ => fun
  | [d] => { results := [.lit (.bool false)], args := [d] }
  | _ => none }
def FnExactGrundyOfWrongFalsely : Prop := fnExactGrundyOfRow.holds Try.pinned (OpenSpec.ofChange fnExactGrundyOfWrong)

/-- 'laws.FnExactCountPlays': WHATEVER THE INPUT: true; the input reads as it did. -/
def fnExactCountPlaysSpec : ChangeSpec := { name := "fnExactCountPlays", fn := fun _ => fun
  | [d] => { results := [.lit (.bool true)], args := [d] }
  | _ => none }
def fnExactCountPlaysRow : OpenClaim := { program := "ytlicbcaloebhlaa", sum := "6c56c48c4443d8496fa8f4db55a1ab57689b5758080daef37dbe3722a1397cca", func := "loop.example/g01388/laws.FnExactCountPlays", spec := "fnExactCountPlays", unfollowed := true, recurses := true, apart := false }
def FnExactCountPlaysSaid : Prop := fnExactCountPlaysRow.holds Try.pinned (OpenSpec.ofChange fnExactCountPlaysSpec)

/-- ITS FALSE NEIGHBOUR: 'it returns false'. Refute it at one input. -/
def fnExactCountPlaysWrong : ChangeSpec := { name := "fnExactCountPlays", fn := fun _ => fun
  | [d] => { results := [.lit (.bool false)], args := [d] }
  | _ => none }
def FnExactCountPlaysWrongFalsely : Prop := fnExactCountPlaysRow.holds Try.pinned (OpenSpec.ofChange fnExactCountPlaysWrong)

/-- 'laws.FnExactMostMoves': WHATEVER THE INPUT: true; the input reads as it did. -/
def fnExactMostMovesSpec : ChangeSpec := { name := "fnExactMostMoves", fn := fun _ => fun
  | [d] => { results := [.lit (.bool true)], args := [d] }
  | _ => none }
def fnExactMostMovesRow : OpenClaim := { program := "ytlicbcaloebhlaa", sum := "6c56c48c4443d8496fa8f4db55a1ab57689b5758080daef37dbe3722a1397cca", func := "loop.example/g01388/laws.FnExactMostMoves", spec := "fnExactMostMoves", unfollowed := true, recurses := true, apart := false }
def FnExactMostMovesSaid : Prop := fnExactMostMovesRow.holds Try.pinned (OpenSpec.ofChange fnExactMostMovesSpec)

/-- ITS FALSE NEIGHBOUR: 'it returns false'. Refute it at one input. -/
def fnExactMostMovesWrong : ChangeSpec := { name := "fnExactMostMoves", fn := fun _ => fun
  | [d] => { results := [.lit (.bool false)], args := [d] }
  | _ => none }
def FnExactMostMovesWrongFalsely : Prop := fnExactMostMovesRow.holds Try.pinned (OpenSpec.ofChange fnExactMostMovesWrong)

/-- 'laws.FnExactFewestMoves': WHATEVER THE INPUT: true; the input reads as it did. -/
def fnExactFewestMovesSpec : ChangeSpec := { name := "fnExactFewestMoves", fn := fun _ => fun
  | [d] => { results := [.lit (.bool true)], args := [d] }
  | _ => none }
def fnExactFewestMovesRow : OpenClaim := { program := "ytlicbcaloebhlaa", sum := "6c56c48c4443d8496fa8f4db55a1ab57689b5758080daef37dbe3722a1397cca", func := "loop.example/g01388/laws.FnExactFewestMoves", spec := "fnExactFewestMoves", unfollowed := true, recurses := true, apart := false }
def FnExactFewestMovesSaid : Prop := fnExactFewestMovesRow.holds Try.pinned (OpenSpec.ofChange fnExactFewestMovesSpec)

/-- ITS FALSE NEIGHBOUR: 'it returns false'. Refute it at one input. -/
def fnExactFewestMovesWrong : ChangeSpec := { name := "fnExactFewestMoves", fn := fun _ => fun
  | [d] => { results := [.lit (.bool false)], args := [d] }
  | _ => none }
def FnExactFewestMovesWrongFalsely : Prop := fnExactFewestMovesRow.holds Try.pinned (OpenSpec.ofChange fnExactFewestMovesWrong)

/-- 'laws.FnExactLengthsOf': WHATEVER THE INPUT: true; the input reads as it did. -/
def fnExactLengthsOfSpec : ChangeSpec := { name := "fnExactLengthsOf", fn := fun _ => fun
  | [d] => { results := [.lit (.bool true)], args := [d] }
  | _ => none }
def fnExactLengthsOfRow : OpenClaim := { program := "ytlicbcaloebhlaa", sum := "6c56c48c4443d8496fa8f4db55a1ab57689b5758080daef37dbe3722a1397cca", func := "loop.example/g01388/laws.FnExactLengthsOf", spec := "fnExactLengthsOf", unfollowed := true, recurses := true, apart := false }
def FnExactLengthsOfSaid : Prop := fnExactLengthsOfRow.holds Try.pinned (OpenSpec.ofChange fnExactLengthsOfSpec)

/-- ITS FALSE NEIGHBOUR: 'it returns false'. Refute it at one input. -/
def fnExactLengthsOfWrong : ChangeSpec := { name := "fnExactLengthsOf", fn := fun _ => fun
  | [d] => { results := [.lit (.bool false)], args := [d] }
  | _ => none }
def FnExactLengthsOfWrongFalsely : Prop := fnExactLengthsOfRow.holds Try.pinned (OpenSpec.ofChange fnExactLengthsOfWrong)

/-- 'laws.FnExactHeapGame': WHATEVER THE INPUT: true; the input reads as it did. -/
def fnExactHeapGameSpec : ChangeSpec := { name := "fnExactHeapGame", fn := fun _ => fun
  | [d1, d2] => { results := [.lit (.bool true)], args := [d1, d2] }
  | _ => none }
def fnExactHeapGameRow : OpenClaim := { program := "ytlicbcaloebhlaa", sum := "6c56c48c4443d8496fa8f4db55a1ab57689b5758080daef37dbe3722a1397cca", func := "loop.example/g01388/laws.FnExactHeapGame", spec := "fnExactHeapGame", apart := false }
def FnExactHeapGameSaid : Prop := fnExactHeapGameRow.holds Try.pinned (OpenSpec.ofChange fnExactHeapGameSpec)

/-- ITS FALSE NEIGHBOUR: 'it returns false'. Refute it at one input. -/
def fnExactHeapGameWrong : ChangeSpec := { name := "fnExactHeapGame", fn := fun _ => fun
  | [d1, d2] => { results := [.lit (.bool false)], args := [d1, d2] }
  | _ => none }
def FnExactHeapGameWrongFalsely : Prop := fnExactHeapGameRow.holds Try.pinned (OpenSpec.ofChange fnExactHeapGameWrong)

/- THE SECOND FORM. 'bulk': how many values and letters a reading holds, each counted each time it is reached (what is shared counts as often as it is met; a slice's spare places count too). A statement '..UptoSaid' is the law's where the arguments, and the package variables that the reading takes, are together of bulk at most 1048576: NARROWER than '..Said'. Prove '..Said' where nothing that the law and all that it calls make is longer than what came in: it says more and counts as full. Else prove '..UptoSaid'. A law counts once. -/
mutual
def uptoBulk {H : Type} : DataW H → Nat
  | .lit (.string bytes) => bytes.length + 1
  | .lit _ => 1
  | .nil => 1
  | .ptr d => uptoBulk d + 1
  | .slice elems spare => uptoBulkAll elems + uptoBulkAll spare + 1
  | .agg parts => uptoBulkAll parts + 1
  | .iface _ d => uptoBulk d + 1
  | .map entries => uptoBulkEntries entries + 1
  | .held _ => 1
def uptoBulkAll {H : Type} : List (DataW H) → Nat
  | [] => 0
  | d :: r => uptoBulk d + uptoBulkAll r
def uptoBulkEntries {H : Type} : List (Lit × DataW H) → Nat
  | [] => 0
  | x :: r => uptoBulkEntry x + uptoBulkEntries r
def uptoBulkEntry {H : Type} : Lit × DataW H → Nat
  | (.string bytes, d) => bytes.length + uptoBulk d + 1
  | (_, d) => uptoBulk d + 1
 end
def uptoSmall : (H : Type) → List (DataW H) → Bool := fun _ ds => decide (uptoBulkAll ds ≤ 1048576)
def OpenSpec.upto (s : _root_.Go.ChangeSpec) : _root_.Go.OpenSpec := { _root_.Go.OpenSpec.ofChange s with cond := some uptoSmall }

/-- 'laws.FnExactIsGame', WHERE WHAT IT READS IS OF BULK AT MOST 1048576: true; the input reads as it did. -/
def fnExactIsGameUptoRow : OpenClaim := { program := "ytlicbcaloebhlaa", sum := "6c56c48c4443d8496fa8f4db55a1ab57689b5758080daef37dbe3722a1397cca", func := "loop.example/g01388/laws.FnExactIsGame", spec := "fnExactIsGame", apart := false, narrowed := true }
def FnExactIsGameUptoSaid : Prop := fnExactIsGameUptoRow.holds Try.pinned (OpenSpec.upto fnExactIsGameSpec)

/-- 'laws.FnExactNimSumOf', WHERE WHAT IT READS IS OF BULK AT MOST 1048576: true; the input reads as it did. -/
def fnExactNimSumOfUptoRow : OpenClaim := { program := "ytlicbcaloebhlaa", sum := "6c56c48c4443d8496fa8f4db55a1ab57689b5758080daef37dbe3722a1397cca", func := "loop.example/g01388/laws.FnExactNimSumOf", spec := "fnExactNimSumOf", unfollowed := true, recurses := true, apart := false, narrowed := true }
def FnExactNimSumOfUptoSaid : Prop := fnExactNimSumOfUptoRow.holds Try.pinned (OpenSpec.upto fnExactNimSumOfSpec)

/-- 'laws.FnExactMexOf', WHERE WHAT IT READS IS OF BULK AT MOST 1048576: true; the input reads as it did. -/
def fnExactMexOfUptoRow : OpenClaim := { program := "ytlicbcaloebhlaa", sum := "6c56c48c4443d8496fa8f4db55a1ab57689b5758080daef37dbe3722a1397cca", func := "loop.example/g01388/laws.FnExactMexOf", spec := "fnExactMexOf", unfollowed := true, recurses := true, apart := false, narrowed := true }
def FnExactMexOfUptoSaid : Prop := fnExactMexOfUptoRow.holds Try.pinned (OpenSpec.upto fnExactMexOfSpec)

/-- 'laws.FnExactEndsOf', WHERE WHAT IT READS IS OF BULK AT MOST 1048576: true; the input reads as it did. -/
def fnExactEndsOfUptoRow : OpenClaim := { program := "ytlicbcaloebhlaa", sum := "6c56c48c4443d8496fa8f4db55a1ab57689b5758080daef37dbe3722a1397cca", func := "loop.example/g01388/laws.FnExactEndsOf", spec := "fnExactEndsOf", unfollowed := true, recurses := true, apart := false, narrowed := true }
def FnExactEndsOfUptoSaid : Prop := fnExactEndsOfUptoRow.holds Try.pinned (OpenSpec.upto fnExactEndsOfSpec)

/-- 'laws.FnExactWonPlaces', WHERE WHAT IT READS IS OF BULK AT MOST 1048576: true; the input reads as it did. -/
def fnExactWonPlacesUptoRow : OpenClaim := { program := "ytlicbcaloebhlaa", sum := "6c56c48c4443d8496fa8f4db55a1ab57689b5758080daef37dbe3722a1397cca", func := "loop.example/g01388/laws.FnExactWonPlaces", spec := "fnExactWonPlaces", unfollowed := true, recurses := true, apart := false, narrowed := true }
def FnExactWonPlacesUptoSaid : Prop := fnExactWonPlacesUptoRow.holds Try.pinned (OpenSpec.upto fnExactWonPlacesSpec)

/-- 'laws.FnExactWonInMisere', WHERE WHAT IT READS IS OF BULK AT MOST 1048576: true; the input reads as it did. -/
def fnExactWonInMisereUptoRow : OpenClaim := { program := "ytlicbcaloebhlaa", sum := "6c56c48c4443d8496fa8f4db55a1ab57689b5758080daef37dbe3722a1397cca", func := "loop.example/g01388/laws.FnExactWonInMisere", spec := "fnExactWonInMisere", unfollowed := true, recurses := true, apart := false, narrowed := true }
def FnExactWonInMisereUptoSaid : Prop := fnExactWonInMisereUptoRow.holds Try.pinned (OpenSpec.upto fnExactWonInMisereSpec)

/-- 'laws.FnExactGrundyOf', WHERE WHAT IT READS IS OF BULK AT MOST 1048576: true; the input reads as it did. -/
def fnExactGrundyOfUptoRow : OpenClaim := { program := "ytlicbcaloebhlaa", sum := "6c56c48c4443d8496fa8f4db55a1ab57689b5758080daef37dbe3722a1397cca", func := "loop.example/g01388/laws.FnExactGrundyOf", spec := "fnExactGrundyOf", unfollowed := true, recurses := true, apart := false, narrowed := true }
def FnExactGrundyOfUptoSaid : Prop := fnExactGrundyOfUptoRow.holds Try.pinned (OpenSpec.upto fnExactGrundyOfSpec)

/-- 'laws.FnExactCountPlays', WHERE WHAT IT READS IS OF BULK AT MOST 1048576: true; the input reads as it did. -/
def fnExactCountPlaysUptoRow : OpenClaim := { program := "ytlicbcaloebhlaa", sum := "6c56c48c4443d8496fa8f4db55a1ab57689b5758080daef37dbe3722a1397cca", func := "loop.example/g01388/laws.FnExactCountPlays", spec := "fnExactCountPlays", unfollowed := true, recurses := true, apart := false, narrowed := true }
def FnExactCountPlaysUptoSaid : Prop := fnExactCountPlaysUptoRow.holds Try.pinned (OpenSpec.upto fnExactCountPlaysSpec)

/-- 'laws.FnExactMostMoves', WHERE WHAT IT READS IS OF BULK AT MOST 1048576: true; the input reads as it did. -/
def fnExactMostMovesUptoRow : OpenClaim := { program := "ytlicbcaloebhlaa", sum := "6c56c48c4443d8496fa8f4db55a1ab57689b5758080daef37dbe3722a1397cca", func := "loop.example/g01388/laws.FnExactMostMoves", spec := "fnExactMostMoves", unfollowed := true, recurses := true, apart := false, narrowed := true }
def FnExactMostMovesUptoSaid : Prop := fnExactMostMovesUptoRow.holds Try.pinned (OpenSpec.upto fnExactMostMovesSpec)

/-- 'laws.FnExactFewestMoves', WHERE WHAT IT READS IS OF BULK AT MOST 1048576: true; the input reads as it did. -/
def fnExactFewestMovesUptoRow : OpenClaim := { program := "ytlicbcaloebhlaa", sum := "6c56c48c4443d8496fa8f4db55a1ab57689b5758080daef37dbe3722a1397cca", func := "loop.example/g01388/laws.FnExactFewestMoves", spec := "fnExactFewestMoves", unfollowed := true, recurses := true, apart := false, narrowed := true }
def FnExactFewestMovesUptoSaid : Prop := fnExactFewestMovesUptoRow.holds Try.pinned (OpenSpec.upto fnExactFewestMovesSpec)

/-- 'laws.FnExactLengthsOf', WHERE WHAT IT READS IS OF BULK AT MOST 1048576: true; the input reads as it did. -/
def fnExactLengthsOfUptoRow : OpenClaim := { program := "ytlicbcaloebhlaa", sum := "6c56c48c4443d8496fa8f4db55a1ab57689b5758080daef37dbe3722a1397cca", func := "loop.example/g01388/laws.FnExactLengthsOf", spec := "fnExactLengthsOf", unfollowed := true, recurses := true, apart := false, narrowed := true }
def FnExactLengthsOfUptoSaid : Prop := fnExactLengthsOfUptoRow.holds Try.pinned (OpenSpec.upto fnExactLengthsOfSpec)

/-- 'laws.FnExactHeapGame', WHERE WHAT IT READS IS OF BULK AT MOST 1048576: true; the input reads as it did. -/
def fnExactHeapGameUptoRow : OpenClaim := { program := "ytlicbcaloebhlaa", sum := "6c56c48c4443d8496fa8f4db55a1ab57689b5758080daef37dbe3722a1397cca", func := "loop.example/g01388/laws.FnExactHeapGame", spec := "fnExactHeapGame", apart := false, narrowed := true }
def FnExactHeapGameUptoSaid : Prop := fnExactHeapGameUptoRow.holds Try.pinned (OpenSpec.upto fnExactHeapGameSpec)

end Rows
end Go.Proofs.Ytlicbcaloebhlaa
