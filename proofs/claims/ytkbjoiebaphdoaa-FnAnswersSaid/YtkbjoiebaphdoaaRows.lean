/-
  No cell of these rows narrows 'for every input' (looked for: loops, veiled, ifaces, maps, wideKeys, modest, calm, conditions, laid).
  DERIVED. THE GIVEN ROWS OF THIS SEAT. 12 by the template 'for every input the law returns true; each argument reads behind the call as it read before'; 0 by the template 'total and deterministic' (their statements: YtkbjoiebaphdoaaTotals.lean).
  GIVEN WITH THE SEED: the statements are not yours to turn. If you find one false, say at which input.
  Laid BY PROGRAM, IN A SANDBOX (cutbox-rows.mjs): the forced cells as the released guide's own fill.sh prints them over the translation 0b4e9da75b4b7df1… (all of the seat's roots in one cut). By AI agents, Wed Nov 11 2026. No macro, syntax, notation, axiom, sorry.
-/
import Derived.Test.YtkbjoiebaphdoaaChecked
import GoSem.Claim
import GoSem.ClaimJoined
import GoSem.ClaimMapViews
import Derived.JoinedTies
import Derived.KernelRfl
namespace Go.Proofs.Ytkbjoiebaphdoaa
/- THE CELL 'sum', in the pinned program and in every row, IS THE sha256 OF THE DUMP (.gsa) THAT YtkbjoiebaphdoaaProg.lean LOADS. Nothing in Lean hashes anything: it is a label: what it is worth is what the hold of that sum in a sandbox is worth. -/
noncomputable def Try.pinned : Pinned := { name := "ytkbjoiebaphdoaa", sum := "0b4e9da75b4b7df1dea0f3722e69ec92dc2fdd82eef2b7f295024d671e1e6cc5", checked := Try.checked }
namespace Rows
def none {H : Type} : Left H := { results := [], args := [] }

/-- 'laws.FnExactIsEnding': WHATEVER THE INPUT: true; the input reads as it did. -/
def fnExactIsEndingSpec : ChangeSpec := { name := "fnExactIsEnding", fn := fun _ => fun
  | [d] => { results := [.lit (.bool true)], args := [d] }
  | _ => none }
def fnExactIsEndingRow : OpenClaim := { program := "ytkbjoiebaphdoaa", sum := "0b4e9da75b4b7df1dea0f3722e69ec92dc2fdd82eef2b7f295024d671e1e6cc5", func := "loop.example/g01388/laws.FnExactIsEnding", spec := "fnExactIsEnding", unfollowed := true, recurses := true, apart := false }
def FnExactIsEndingSaid : Prop := fnExactIsEndingRow.holds Try.pinned (OpenSpec.ofChange fnExactIsEndingSpec)

/-- ITS FALSE NEIGHBOUR: 'it returns false'. Refute it at one input. -/
def fnExactIsEndingWrong : ChangeSpec := { name := "fnExactIsEnding", fn := fun _ => fun
  | [d] => { results := [.lit (.bool false)], args := [d] }
  | _ => none }
def FnExactIsEndingWrongFalsely : Prop := fnExactIsEndingRow.holds Try.pinned (OpenSpec.ofChange fnExactIsEndingWrong)

/-- 'laws.FnExactBoxesOf': WHATEVER THE INPUT: true; the input reads as it did. -/
def fnExactBoxesOfSpec : ChangeSpec := { name := "fnExactBoxesOf", fn := fun _ => fun
  | [d] => { results := [.lit (.bool true)], args := [d] }
  | _ => none }
def fnExactBoxesOfRow : OpenClaim := { program := "ytkbjoiebaphdoaa", sum := "0b4e9da75b4b7df1dea0f3722e69ec92dc2fdd82eef2b7f295024d671e1e6cc5", func := "loop.example/g01388/laws.FnExactBoxesOf", spec := "fnExactBoxesOf", unfollowed := true, recurses := true, apart := false }
def FnExactBoxesOfSaid : Prop := fnExactBoxesOfRow.holds Try.pinned (OpenSpec.ofChange fnExactBoxesOfSpec)

/-- ITS FALSE NEIGHBOUR: 'it returns false'. Refute it at one input. -/
def fnExactBoxesOfWrong : ChangeSpec := { name := "fnExactBoxesOf", fn := fun _ => fun
  | [d] => { results := [.lit (.bool false)], args := [d] }
  | _ => none }
def FnExactBoxesOfWrongFalsely : Prop := fnExactBoxesOfRow.holds Try.pinned (OpenSpec.ofChange fnExactBoxesOfWrong)

/-- 'laws.FnExactCountLong': WHATEVER THE INPUT: true; the input reads as it did. -/
def fnExactCountLongSpec : ChangeSpec := { name := "fnExactCountLong", fn := fun _ => fun
  | [d] => { results := [.lit (.bool true)], args := [d] }
  | _ => none }
def fnExactCountLongRow : OpenClaim := { program := "ytkbjoiebaphdoaa", sum := "0b4e9da75b4b7df1dea0f3722e69ec92dc2fdd82eef2b7f295024d671e1e6cc5", func := "loop.example/g01388/laws.FnExactCountLong", spec := "fnExactCountLong", unfollowed := true, recurses := true, apart := false }
def FnExactCountLongSaid : Prop := fnExactCountLongRow.holds Try.pinned (OpenSpec.ofChange fnExactCountLongSpec)

/-- ITS FALSE NEIGHBOUR: 'it returns false'. Refute it at one input. -/
def fnExactCountLongWrong : ChangeSpec := { name := "fnExactCountLong", fn := fun _ => fun
  | [d] => { results := [.lit (.bool false)], args := [d] }
  | _ => none }
def FnExactCountLongWrongFalsely : Prop := fnExactCountLongRow.holds Try.pinned (OpenSpec.ofChange fnExactCountLongWrong)

/-- 'laws.FnExactSparingNumber': WHATEVER THE INPUT: true; the input reads as it did. -/
def fnExactSparingNumberSpec : ChangeSpec := { name := "fnExactSparingNumber", fn := fun _ => fun
  | [d] => { results := [.lit (.bool true)], args := [d] }
  | _ => none }
def fnExactSparingNumberRow : OpenClaim := { program := "ytkbjoiebaphdoaa", sum := "0b4e9da75b4b7df1dea0f3722e69ec92dc2fdd82eef2b7f295024d671e1e6cc5", func := "loop.example/g01388/laws.FnExactSparingNumber", spec := "fnExactSparingNumber", unfollowed := true, recurses := true, apart := false }
def FnExactSparingNumberSaid : Prop := fnExactSparingNumberRow.holds Try.pinned (OpenSpec.ofChange fnExactSparingNumberSpec)

/-- ITS FALSE NEIGHBOUR: 'it returns false'. Refute it at one input. -/
def fnExactSparingNumberWrong : ChangeSpec := { name := "fnExactSparingNumber", fn := fun _ => fun
  | [d] => { results := [.lit (.bool false)], args := [d] }
  | _ => none }
def FnExactSparingNumberWrongFalsely : Prop := fnExactSparingNumberRow.holds Try.pinned (OpenSpec.ofChange fnExactSparingNumberWrong)

/-- 'laws.FnExactAfterOpening': WHATEVER THE INPUT: true; the input reads as it did. -/
def fnExactAfterOpeningSpec : ChangeSpec := { name := "fnExactAfterOpening", fn := fun _ => fun
  | [d1, d2, d3] => { results := [.lit (.bool true)], args := [d1, d2, d3] }
  | _ => none }
def fnExactAfterOpeningRow : OpenClaim := { program := "ytkbjoiebaphdoaa", sum := "0b4e9da75b4b7df1dea0f3722e69ec92dc2fdd82eef2b7f295024d671e1e6cc5", func := "loop.example/g01388/laws.FnExactAfterOpening", spec := "fnExactAfterOpening", unfollowed := true, recurses := true, apart := false }
def FnExactAfterOpeningSaid : Prop := fnExactAfterOpeningRow.holds Try.pinned (OpenSpec.ofChange fnExactAfterOpeningSpec)

/-- ITS FALSE NEIGHBOUR: 'it returns false'. Refute it at one input. -/
def fnExactAfterOpeningWrong : ChangeSpec := { name := "fnExactAfterOpening", fn := fun _ => fun
  | [d1, d2, d3] => { results := [.lit (.bool false)], args := [d1, d2, d3] }
  | _ => none }
def FnExactAfterOpeningWrongFalsely : Prop := fnExactAfterOpeningRow.holds Try.pinned (OpenSpec.ofChange fnExactAfterOpeningWrong)

/-- 'laws.FnExactEndingValue': WHATEVER THE INPUT: true; the input reads as it did. -/
def fnExactEndingValueSpec : ChangeSpec := { name := "fnExactEndingValue", fn := fun _ => fun
  | [d] => { results := [.lit (.bool true)], args := [d] }
  | _ => none }
def fnExactEndingValueRow : OpenClaim := { program := "ytkbjoiebaphdoaa", sum := "0b4e9da75b4b7df1dea0f3722e69ec92dc2fdd82eef2b7f295024d671e1e6cc5", func := "loop.example/g01388/laws.FnExactEndingValue", spec := "fnExactEndingValue", unfollowed := true, recurses := true, apart := false }
def FnExactEndingValueSaid : Prop := fnExactEndingValueRow.holds Try.pinned (OpenSpec.ofChange fnExactEndingValueSpec)

/-- ITS FALSE NEIGHBOUR: 'it returns false'. Refute it at one input. -/
def fnExactEndingValueWrong : ChangeSpec := { name := "fnExactEndingValue", fn := fun _ => fun
  | [d] => { results := [.lit (.bool false)], args := [d] }
  | _ => none }
def FnExactEndingValueWrongFalsely : Prop := fnExactEndingValueRow.holds Try.pinned (OpenSpec.ofChange fnExactEndingValueWrong)

/-- 'laws.FnExactBestOpening': WHATEVER THE INPUT: true; the input reads as it did. -/
def fnExactBestOpeningSpec : ChangeSpec := { name := "fnExactBestOpening", fn := fun _ => fun
  | [d] => { results := [.lit (.bool true)], args := [d] }
  | _ => none }
def fnExactBestOpeningRow : OpenClaim := { program := "ytkbjoiebaphdoaa", sum := "0b4e9da75b4b7df1dea0f3722e69ec92dc2fdd82eef2b7f295024d671e1e6cc5", func := "loop.example/g01388/laws.FnExactBestOpening", spec := "fnExactBestOpening", unfollowed := true, recurses := true, apart := false }
def FnExactBestOpeningSaid : Prop := fnExactBestOpeningRow.holds Try.pinned (OpenSpec.ofChange fnExactBestOpeningSpec)

/-- ITS FALSE NEIGHBOUR: 'it returns false'. Refute it at one input. -/
def fnExactBestOpeningWrong : ChangeSpec := { name := "fnExactBestOpening", fn := fun _ => fun
  | [d] => { results := [.lit (.bool false)], args := [d] }
  | _ => none }
def FnExactBestOpeningWrongFalsely : Prop := fnExactBestOpeningRow.holds Try.pinned (OpenSpec.ofChange fnExactBestOpeningWrong)

/-- 'laws.FnExactBestAnswer': WHATEVER THE INPUT: true; the input reads as it did. -/
def fnExactBestAnswerSpec : ChangeSpec := { name := "fnExactBestAnswer", fn := fun _ => fun
  | [d1, d2, d3] => { results := [.lit (.bool true)], args := [d1, d2, d3] }
  | _ => none }
def fnExactBestAnswerRow : OpenClaim := { program := "ytkbjoiebaphdoaa", sum := "0b4e9da75b4b7df1dea0f3722e69ec92dc2fdd82eef2b7f295024d671e1e6cc5", func := "loop.example/g01388/laws.FnExactBestAnswer", spec := "fnExactBestAnswer", unfollowed := true, recurses := true, apart := false }
def FnExactBestAnswerSaid : Prop := fnExactBestAnswerRow.holds Try.pinned (OpenSpec.ofChange fnExactBestAnswerSpec)

/-- ITS FALSE NEIGHBOUR: 'it returns false'. Refute it at one input. -/
def fnExactBestAnswerWrong : ChangeSpec := { name := "fnExactBestAnswer", fn := fun _ => fun
  | [d1, d2, d3] => { results := [.lit (.bool false)], args := [d1, d2, d3] }
  | _ => none }
def FnExactBestAnswerWrongFalsely : Prop := fnExactBestAnswerRow.holds Try.pinned (OpenSpec.ofChange fnExactBestAnswerWrong)

/-- 'laws.FnExactPlayEnding': WHATEVER THE INPUT: true; the input reads as it did. -/
def fnExactPlayEndingSpec : ChangeSpec := { name := "fnExactPlayEnding", fn := fun _ => fun
  | [d] => { results := [.lit (.bool true)], args := [d] }
  | _ => none }
def fnExactPlayEndingRow : OpenClaim := { program := "ytkbjoiebaphdoaa", sum := "0b4e9da75b4b7df1dea0f3722e69ec92dc2fdd82eef2b7f295024d671e1e6cc5", func := "loop.example/g01388/laws.FnExactPlayEnding", spec := "fnExactPlayEnding", unfollowed := true, recurses := true, apart := false }
def FnExactPlayEndingSaid : Prop := fnExactPlayEndingRow.holds Try.pinned (OpenSpec.ofChange fnExactPlayEndingSpec)

/-- ITS FALSE NEIGHBOUR: 'it returns false'. Refute it at one input. -/
def fnExactPlayEndingWrong : ChangeSpec := { name := "fnExactPlayEnding", fn := fun _ => fun
  | [d] => { results := [.lit (.bool false)], args := [d] }
  | _ => none }
def FnExactPlayEndingWrongFalsely : Prop := fnExactPlayEndingRow.holds Try.pinned (OpenSpec.ofChange fnExactPlayEndingWrong)

/-- 'laws.FnExactBestParts': WHATEVER THE INPUT: true; the input reads as it did. -/
def fnExactBestPartsSpec : ChangeSpec := { name := "fnExactBestParts", fn := fun _ => fun
  | [d1, d2] => { results := [.lit (.bool true)], args := [d1, d2] }
  | _ => none }
def fnExactBestPartsRow : OpenClaim := { program := "ytkbjoiebaphdoaa", sum := "0b4e9da75b4b7df1dea0f3722e69ec92dc2fdd82eef2b7f295024d671e1e6cc5", func := "loop.example/g01388/laws.FnExactBestParts", spec := "fnExactBestParts", unfollowed := true, recurses := true, apart := false }
def FnExactBestPartsSaid : Prop := fnExactBestPartsRow.holds Try.pinned (OpenSpec.ofChange fnExactBestPartsSpec)

/-- ITS FALSE NEIGHBOUR: 'it returns false'. Refute it at one input. -/
def fnExactBestPartsWrong : ChangeSpec := { name := "fnExactBestParts", fn := fun _ => fun
  | [d1, d2] => { results := [.lit (.bool false)], args := [d1, d2] }
  | _ => none }
def FnExactBestPartsWrongFalsely : Prop := fnExactBestPartsRow.holds Try.pinned (OpenSpec.ofChange fnExactBestPartsWrong)

/-- 'laws.FnAnswers': WHATEVER THE INPUT: true; the input reads as it did. -/
def fnAnswersSpec : ChangeSpec := { name := "fnAnswers", fn := fun _ => fun
  | [d] => { results := [.lit (.bool true)], args := [d] }
  | _ => none }
def fnAnswersRow : OpenClaim := { program := "ytkbjoiebaphdoaa", sum := "0b4e9da75b4b7df1dea0f3722e69ec92dc2fdd82eef2b7f295024d671e1e6cc5", func := "loop.example/g01388/laws.FnAnswers", spec := "fnAnswers", unfollowed := true, recurses := true, apart := false }
def FnAnswersSaid : Prop := fnAnswersRow.holds Try.pinned (OpenSpec.ofChange fnAnswersSpec)

/-- ITS FALSE NEIGHBOUR: 'it returns false'. Refute it at one input. -/
def fnAnswersWrong : ChangeSpec := { name := "fnAnswers", fn := fun _ => fun
  | [d] => { results := [.lit (.bool false)], args := [d] }
  | _ => none }
def FnAnswersWrongFalsely : Prop := fnAnswersRow.holds Try.pinned (OpenSpec.ofChange fnAnswersWrong)

/-- 'laws.FnExactStartOf': WHATEVER THE INPUT: true; the input reads as it did. -/
def fnExactStartOfSpec : ChangeSpec := { name := "fnExactStartOf", fn := fun _ => fun
  | [d] => { results := [.lit (.bool true)], args := [d] }
  | _ => none }
def fnExactStartOfRow : OpenClaim := { program := "ytkbjoiebaphdoaa", sum := "0b4e9da75b4b7df1dea0f3722e69ec92dc2fdd82eef2b7f295024d671e1e6cc5", func := "loop.example/g01388/laws.FnExactStartOf", spec := "fnExactStartOf", apart := false }
def FnExactStartOfSaid : Prop := fnExactStartOfRow.holds Try.pinned (OpenSpec.ofChange fnExactStartOfSpec)

/-- ITS FALSE NEIGHBOUR: 'it returns false'. Refute it at one input. -/
def fnExactStartOfWrong : ChangeSpec := { name := "fnExactStartOf", fn := fun _ => fun
  | [d] => { results := [.lit (.bool false)], args := [d] }
  | _ => none }
def FnExactStartOfWrongFalsely : Prop := fnExactStartOfRow.holds Try.pinned (OpenSpec.ofChange fnExactStartOfWrong)

/- THE SECOND FORM. 'bulk': how many values and letters a reading holds, each counted each time it is reached (what is shared counts as often as it is met; a slice's spare places count too). A statement '..UptoSaid' is the law's where the arguments, and the package variables that the reading takes, are together of bulk at most 1048576: NARROWER than '..Said'. Prove '..Said' where nothing that the law and all that it calls make is longer than what came in: it says more and counts as full. Else prove '..UptoSaid'. A law counts once. -/
mutual
def uptoBulk {H : Type} : DataW H → Nat
  | .lit (.string bytes) => bytes.length + 1
  | .lit _ => 1
  | .nil => 1
  | .ptr d => uptoBulk d + 1
  | .slice elems spare => uptoBulkAll elems + uptoBulkAll spare + 1
  | .agg parts => uptoBulkAll parts + 1
  | .iface _ d => uptoBulk d + 1
  | .map entries => uptoBulkEntries entries + 1
  | .held _ => 1
def uptoBulkAll {H : Type} : List (DataW H) → Nat
  | [] => 0
  | d :: r => uptoBulk d + uptoBulkAll r
def uptoBulkEntries {H : Type} : List (Lit × DataW H) → Nat
  | [] => 0
  | x :: r => uptoBulkEntry x + uptoBulkEntries r
def uptoBulkEntry {H : Type} : Lit × DataW H → Nat
  | (.string bytes, d) => bytes.length + uptoBulk d + 1
  | (_, d) => uptoBulk d + 1
 end
def uptoSmall : (H : Type) → List (DataW H) → Bool := fun _ ds => decide (uptoBulkAll ds ≤ 1048576)
def OpenSpec.upto (s : _root_.Go.ChangeSpec) : _root_.Go.OpenSpec := { _root_.Go.OpenSpec.ofChange s with cond := some uptoSmall }

/-- 'laws.FnExactIsEnding', WHERE WHAT IT READS IS OF BULK AT MOST 1048576: true; the input reads as it did. -/
def fnExactIsEndingUptoRow : OpenClaim := { program := "ytkbjoiebaphdoaa", sum := "0b4e9da75b4b7df1dea0f3722e69ec92dc2fdd82eef2b7f295024d671e1e6cc5", func := "loop.example/g01388/laws.FnExactIsEnding", spec := "fnExactIsEnding", unfollowed := true, recurses := true, apart := false, narrowed := true }
def FnExactIsEndingUptoSaid : Prop := fnExactIsEndingUptoRow.holds Try.pinned (OpenSpec.upto fnExactIsEndingSpec)

/-- 'laws.FnExactBoxesOf', WHERE WHAT IT READS IS OF BULK AT MOST 1048576: true; the input reads as it did. -/
def fnExactBoxesOfUptoRow : OpenClaim := { program := "ytkbjoiebaphdoaa", sum := "0b4e9da75b4b7df1dea0f3722e69ec92dc2fdd82eef2b7f295024d671e1e6cc5", func := "loop.example/g01388/laws.FnExactBoxesOf", spec := "fnExactBoxesOf", unfollowed := true, recurses := true, apart := false, narrowed := true }
def FnExactBoxesOfUptoSaid : Prop := fnExactBoxesOfUptoRow.holds Try.pinned (OpenSpec.upto fnExactBoxesOfSpec)

/-- 'laws.FnExactCountLong', WHERE WHAT IT READS IS OF BULK AT MOST 1048576: true; the input reads as it did. -/
def fnExactCountLongUptoRow : OpenClaim := { program := "ytkbjoiebaphdoaa", sum := "0b4e9da75b4b7df1dea0f3722e69ec92dc2fdd82eef2b7f295024d671e1e6cc5", func := "loop.example/g01388/laws.FnExactCountLong", spec := "fnExactCountLong", unfollowed := true, recurses := true, apart := false, narrowed := true }
def FnExactCountLongUptoSaid : Prop := fnExactCountLongUptoRow.holds Try.pinned (OpenSpec.upto fnExactCountLongSpec)

/-- 'laws.FnExactSparingNumber', WHERE WHAT IT READS IS OF BULK AT MOST 1048576: true; the input reads as it did. -/
def fnExactSparingNumberUptoRow : OpenClaim := { program := "ytkbjoiebaphdoaa", sum := "0b4e9da75b4b7df1dea0f3722e69ec92dc2fdd82eef2b7f295024d671e1e6cc5", func := "loop.example/g01388/laws.FnExactSparingNumber", spec := "fnExactSparingNumber", unfollowed := true, recurses := true, apart := false, narrowed := true }
def FnExactSparingNumberUptoSaid : Prop := fnExactSparingNumberUptoRow.holds Try.pinned (OpenSpec.upto fnExactSparingNumberSpec)

/-- 'laws.FnExactAfterOpening', WHERE WHAT IT READS IS OF BULK AT MOST 1048576: true; the input reads as it did. -/
def fnExactAfterOpeningUptoRow : OpenClaim := { program := "ytkbjoiebaphdoaa", sum := "0b4e9da75b4b7df1dea0f3722e69ec92dc2fdd82eef2b7f295024d671e1e6cc5", func := "loop.example/g01388/laws.FnExactAfterOpening", spec := "fnExactAfterOpening", unfollowed := true, recurses := true, apart := false, narrowed := true }
def FnExactAfterOpeningUptoSaid : Prop := fnExactAfterOpeningUptoRow.holds Try.pinned (OpenSpec.upto fnExactAfterOpeningSpec)

/-- 'laws.FnExactEndingValue', WHERE WHAT IT READS IS OF BULK AT MOST 1048576: true; the input reads as it did. -/
def fnExactEndingValueUptoRow : OpenClaim := { program := "ytkbjoiebaphdoaa", sum := "0b4e9da75b4b7df1dea0f3722e69ec92dc2fdd82eef2b7f295024d671e1e6cc5", func := "loop.example/g01388/laws.FnExactEndingValue", spec := "fnExactEndingValue", unfollowed := true, recurses := true, apart := false, narrowed := true }
def FnExactEndingValueUptoSaid : Prop := fnExactEndingValueUptoRow.holds Try.pinned (OpenSpec.upto fnExactEndingValueSpec)

/-- 'laws.FnExactBestOpening', WHERE WHAT IT READS IS OF BULK AT MOST 1048576: true; the input reads as it did. -/
def fnExactBestOpeningUptoRow : OpenClaim := { program := "ytkbjoiebaphdoaa", sum := "0b4e9da75b4b7df1dea0f3722e69ec92dc2fdd82eef2b7f295024d671e1e6cc5", func := "loop.example/g01388/laws.FnExactBestOpening", spec := "fnExactBestOpening", unfollowed := true, recurses := true, apart := false, narrowed := true }
def FnExactBestOpeningUptoSaid : Prop := fnExactBestOpeningUptoRow.holds Try.pinned (OpenSpec.upto fnExactBestOpeningSpec)

/-- 'laws.FnExactBestAnswer', WHERE WHAT IT READS IS OF BULK AT MOST 1048576: true; the input reads as it did. -/
def fnExactBestAnswerUptoRow : OpenClaim := { program := "ytkbjoiebaphdoaa", sum := "0b4e9da75b4b7df1dea0f3722e69ec92dc2fdd82eef2b7f295024d671e1e6cc5", func := "loop.example/g01388/laws.FnExactBestAnswer", spec := "fnExactBestAnswer", unfollowed := true, recurses := true, apart := false, narrowed := true }
def FnExactBestAnswerUptoSaid : Prop := fnExactBestAnswerUptoRow.holds Try.pinned (OpenSpec.upto fnExactBestAnswerSpec)

/-- 'laws.FnExactPlayEnding', WHERE WHAT IT READS IS OF BULK AT MOST 1048576: true; the input reads as it did. -/
def fnExactPlayEndingUptoRow : OpenClaim := { program := "ytkbjoiebaphdoaa", sum := "0b4e9da75b4b7df1dea0f3722e69ec92dc2fdd82eef2b7f295024d671e1e6cc5", func := "loop.example/g01388/laws.FnExactPlayEnding", spec := "fnExactPlayEnding", unfollowed := true, recurses := true, apart := false, narrowed := true }
def FnExactPlayEndingUptoSaid : Prop := fnExactPlayEndingUptoRow.holds Try.pinned (OpenSpec.upto fnExactPlayEndingSpec)

/-- 'laws.FnExactBestParts', WHERE WHAT IT READS IS OF BULK AT MOST 1048576: true; the input reads as it did. -/
def fnExactBestPartsUptoRow : OpenClaim := { program := "ytkbjoiebaphdoaa", sum := "0b4e9da75b4b7df1dea0f3722e69ec92dc2fdd82eef2b7f295024d671e1e6cc5", func := "loop.example/g01388/laws.FnExactBestParts", spec := "fnExactBestParts", unfollowed := true, recurses := true, apart := false, narrowed := true }
def FnExactBestPartsUptoSaid : Prop := fnExactBestPartsUptoRow.holds Try.pinned (OpenSpec.upto fnExactBestPartsSpec)

/-- 'laws.FnAnswers', WHERE WHAT IT READS IS OF BULK AT MOST 1048576: true; the input reads as it did. -/
def fnAnswersUptoRow : OpenClaim := { program := "ytkbjoiebaphdoaa", sum := "0b4e9da75b4b7df1dea0f3722e69ec92dc2fdd82eef2b7f295024d671e1e6cc5", func := "loop.example/g01388/laws.FnAnswers", spec := "fnAnswers", unfollowed := true, recurses := true, apart := false, narrowed := true }
def FnAnswersUptoSaid : Prop := fnAnswersUptoRow.holds Try.pinned (OpenSpec.upto fnAnswersSpec)

/-- 'laws.FnExactStartOf', WHERE WHAT IT READS IS OF BULK AT MOST 1048576: true; the input reads as it did. -/
def fnExactStartOfUptoRow : OpenClaim := { program := "ytkbjoiebaphdoaa", sum := "0b4e9da75b4b7df1dea0f3722e69ec92dc2fdd82eef2b7f295024d671e1e6cc5", func := "loop.example/g01388/laws.FnExactStartOf", spec := "fnExactStartOf", apart := false, narrowed := true }
def FnExactStartOfUptoSaid : Prop := fnExactStartOfUptoRow.holds Try.pinned (OpenSpec.upto fnExactStartOfSpec)

end Rows
end Go.Proofs.Ytkbjoiebaphdoaa
