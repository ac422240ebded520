/-
  No cell of these rows narrows 'for every input' (looked for: loops, veiled, ifaces, maps, wideKeys, modest, calm, conditions, laid).
  DERIVED. THE GIVEN ROWS OF THIS SEAT. 11 by the template 'for every input the law returns true; each argument reads behind the call as it read before'; 0 by the template 'total and deterministic' (their statements: YtbnkefbcnojdgaaTotals.lean).
  GIVEN WITH THE SEED: the statements are not yours to turn. If you find one false, say at which input.
  Laid BY PROGRAM, IN A SANDBOX (cutbox-rows.mjs): the forced cells as the released guide's own fill.sh prints them over the translation 90fbb80922f72787… (all of the seat's roots in one cut). By AI agents, Wed Nov 11 2026. No macro, syntax, notation, axiom, sorry.
-/
import Derived.Test.YtbnkefbcnojdgaaChecked
import GoSem.Claim
import GoSem.ClaimJoined
import GoSem.ClaimMapViews
import Derived.JoinedTies
import Derived.KernelRfl
namespace Go.Proofs.Ytbnkefbcnojdgaa
/- THE CELL 'sum', in the pinned program and in every row, IS THE sha256 OF THE DUMP (.gsa) THAT YtbnkefbcnojdgaaProg.lean LOADS. Nothing in Lean hashes anything: it is a label: what it is worth is what the hold of that sum in a sandbox is worth. -/
noncomputable def Try.pinned : Pinned := { name := "ytbnkefbcnojdgaa", sum := "90fbb80922f727874bfe91f281502b18ae7770c5be731fab642dcd614f5d7743", checked := Try.checked }
namespace Rows
def none {H : Type} : Left H := { results := [], args := [] }

/-- 'laws.FnExactConstants': WHATEVER THE INPUT: true; the input reads as it did. -/
def fnExactConstantsSpec : ChangeSpec := { name := "fnExactConstants", fn := fun _ => fun
  | [] => { results := [.lit (.bool true)], args := [] }
  | _ => none }
def fnExactConstantsRow : OpenClaim := { program := "ytbnkefbcnojdgaa", sum := "90fbb80922f727874bfe91f281502b18ae7770c5be731fab642dcd614f5d7743", func := "loop.example/g01388/laws.FnExactConstants", spec := "fnExactConstants", apart := false }
def FnExactConstantsSaid : Prop := fnExactConstantsRow.holds Try.pinned (OpenSpec.ofChange fnExactConstantsSpec)

/-- ITS FALSE NEIGHBOUR: 'it returns false'. Refute it at one input. -/
def fnExactConstantsWrong : ChangeSpec := { name := "fnExactConstants", fn := fun _ => fun
  | [] => { results := [.lit (.bool false)], args := [] }
  | _ => none }
def FnExactConstantsWrongFalsely : Prop := fnExactConstantsRow.holds Try.pinned (OpenSpec.ofChange fnExactConstantsWrong)

/-- 'laws.FnExactTurnsOf': WHATEVER THE INPUT: true; the input reads as it did. -/
def fnExactTurnsOfSpec : ChangeSpec := { name := "fnExactTurnsOf", fn := fun _ => fun
  | [d1, d2, d3] => { results := [.lit (.bool true)], args := [d1, d2, d3] }
  | _ => none }
def fnExactTurnsOfRow : OpenClaim := { program := "ytbnkefbcnojdgaa", sum := "90fbb80922f727874bfe91f281502b18ae7770c5be731fab642dcd614f5d7743", func := "loop.example/g01388/laws.FnExactTurnsOf", spec := "fnExactTurnsOf", apart := false }
def FnExactTurnsOfSaid : Prop := fnExactTurnsOfRow.holds Try.pinned (OpenSpec.ofChange fnExactTurnsOfSpec)

/-- ITS FALSE NEIGHBOUR: 'it returns false'. Refute it at one input. -/
def fnExactTurnsOfWrong : ChangeSpec := { name := "fnExactTurnsOf", fn := fun _ => fun
  | [d1, d2, d3] => { results := [.lit (.bool false)], args := [d1, d2, d3] }
  | _ => none }
def FnExactTurnsOfWrongFalsely : Prop := fnExactTurnsOfRow.holds Try.pinned (OpenSpec.ofChange fnExactTurnsOfWrong)

/-- 'laws.FnExactIsBoxes': WHATEVER THE INPUT: true; the input reads as it did. -/
def fnExactIsBoxesSpec : ChangeSpec := { name := "fnExactIsBoxes", fn := fun _ => fun
  | [d] => { results := [.lit (.bool true)], args := [d] }
  | _ => none }
def fnExactIsBoxesRow : OpenClaim := { program := "ytbnkefbcnojdgaa", sum := "90fbb80922f727874bfe91f281502b18ae7770c5be731fab642dcd614f5d7743", func := "loop.example/g01388/laws.FnExactIsBoxes", spec := "fnExactIsBoxes", apart := false }
def FnExactIsBoxesSaid : Prop := fnExactIsBoxesRow.holds Try.pinned (OpenSpec.ofChange fnExactIsBoxesSpec)

/-- ITS FALSE NEIGHBOUR: 'it returns false'. Refute it at one input. -/
def fnExactIsBoxesWrong : ChangeSpec := { name := "fnExactIsBoxes", fn := fun _ => fun
  | [d] => { results := [.lit (.bool false)], args := [d] }
  | _ => none }
def FnExactIsBoxesWrongFalsely : Prop := fnExactIsBoxesRow.holds Try.pinned (OpenSpec.ofChange fnExactIsBoxesWrong)

/-- 'laws.FnExactCountEdges': WHATEVER THE INPUT: true; the input reads as it did. -/
def fnExactCountEdgesSpec : ChangeSpec := { name := "fnExactCountEdges", fn := fun _ => fun
  | [d] => { results := [.lit (.bool true)], args := [d] }
  | _ => none }
def fnExactCountEdgesRow : OpenClaim := { program := "ytbnkefbcnojdgaa", sum := "90fbb80922f727874bfe91f281502b18ae7770c5be731fab642dcd614f5d7743", func := "loop.example/g01388/laws.FnExactCountEdges", spec := "fnExactCountEdges", apart := false }
def FnExactCountEdgesSaid : Prop := fnExactCountEdgesRow.holds Try.pinned (OpenSpec.ofChange fnExactCountEdgesSpec)

/-- ITS FALSE NEIGHBOUR: 'it returns false'. Refute it at one input. -/
def fnExactCountEdgesWrong : ChangeSpec := { name := "fnExactCountEdges", fn := fun _ => fun
  | [d] => { results := [.lit (.bool false)], args := [d] }
  | _ => none }
def FnExactCountEdgesWrongFalsely : Prop := fnExactCountEdgesRow.holds Try.pinned (OpenSpec.ofChange fnExactCountEdgesWrong)

/-- 'laws.FnExactEdgesOfBox': WHATEVER THE INPUT: true; the input reads as it did. -/
def fnExactEdgesOfBoxSpec : ChangeSpec := { name := "fnExactEdgesOfBox", fn := fun _ => fun
  | [d1, d2] => { results := [.lit (.bool true)], args := [d1, d2] }
  | _ => none }
def fnExactEdgesOfBoxRow : OpenClaim := { program := "ytbnkefbcnojdgaa", sum := "90fbb80922f727874bfe91f281502b18ae7770c5be731fab642dcd614f5d7743", func := "loop.example/g01388/laws.FnExactEdgesOfBox", spec := "fnExactEdgesOfBox", apart := false }
def FnExactEdgesOfBoxSaid : Prop := fnExactEdgesOfBoxRow.holds Try.pinned (OpenSpec.ofChange fnExactEdgesOfBoxSpec)

/-- ITS FALSE NEIGHBOUR: 'it returns false'. Refute it at one input. -/
def fnExactEdgesOfBoxWrong : ChangeSpec := { name := "fnExactEdgesOfBox", fn := fun _ => fun
  | [d1, d2] => { results := [.lit (.bool false)], args := [d1, d2] }
  | _ => none }
def FnExactEdgesOfBoxWrongFalsely : Prop := fnExactEdgesOfBoxRow.holds Try.pinned (OpenSpec.ofChange fnExactEdgesOfBoxWrong)

/-- 'laws.FnExactReflectBoxes': WHATEVER THE INPUT: true; the input reads as it did. -/
def fnExactReflectBoxesSpec : ChangeSpec := { name := "fnExactReflectBoxes", fn := fun _ => fun
  | [d1, d2] => { results := [.lit (.bool true)], args := [d1, d2] }
  | _ => none }
def fnExactReflectBoxesRow : OpenClaim := { program := "ytbnkefbcnojdgaa", sum := "90fbb80922f727874bfe91f281502b18ae7770c5be731fab642dcd614f5d7743", func := "loop.example/g01388/laws.FnExactReflectBoxes", spec := "fnExactReflectBoxes", apart := false }
def FnExactReflectBoxesSaid : Prop := fnExactReflectBoxesRow.holds Try.pinned (OpenSpec.ofChange fnExactReflectBoxesSpec)

/-- ITS FALSE NEIGHBOUR: 'it returns false'. Refute it at one input. -/
def fnExactReflectBoxesWrong : ChangeSpec := { name := "fnExactReflectBoxes", fn := fun _ => fun
  | [d1, d2] => { results := [.lit (.bool false)], args := [d1, d2] }
  | _ => none }
def FnExactReflectBoxesWrongFalsely : Prop := fnExactReflectBoxesRow.holds Try.pinned (OpenSpec.ofChange fnExactReflectBoxesWrong)

/-- 'laws.FnExactLeastBoxes': WHATEVER THE INPUT: true; the input reads as it did. -/
def fnExactLeastBoxesSpec : ChangeSpec := { name := "fnExactLeastBoxes", fn := fun _ => fun
  | [d] => { results := [.lit (.bool true)], args := [d] }
  | _ => none }
def fnExactLeastBoxesRow : OpenClaim := { program := "ytbnkefbcnojdgaa", sum := "90fbb80922f727874bfe91f281502b18ae7770c5be731fab642dcd614f5d7743", func := "loop.example/g01388/laws.FnExactLeastBoxes", spec := "fnExactLeastBoxes", apart := false }
def FnExactLeastBoxesSaid : Prop := fnExactLeastBoxesRow.holds Try.pinned (OpenSpec.ofChange fnExactLeastBoxesSpec)

/-- ITS FALSE NEIGHBOUR: 'it returns false'. Refute it at one input. -/
def fnExactLeastBoxesWrong : ChangeSpec := { name := "fnExactLeastBoxes", fn := fun _ => fun
  | [d] => { results := [.lit (.bool false)], args := [d] }
  | _ => none }
def FnExactLeastBoxesWrongFalsely : Prop := fnExactLeastBoxesRow.holds Try.pinned (OpenSpec.ofChange fnExactLeastBoxesWrong)

/-- 'laws.FnExactIsField': WHATEVER THE INPUT: true; the input reads as it did. -/
def fnExactIsFieldSpec : ChangeSpec := { name := "fnExactIsField", fn := fun _ => fun
  | [d] => { results := [.lit (.bool true)], args := [d] }
  | _ => none }
def fnExactIsFieldRow : OpenClaim := { program := "ytbnkefbcnojdgaa", sum := "90fbb80922f727874bfe91f281502b18ae7770c5be731fab642dcd614f5d7743", func := "loop.example/g01388/laws.FnExactIsField", spec := "fnExactIsField", apart := false }
def FnExactIsFieldSaid : Prop := fnExactIsFieldRow.holds Try.pinned (OpenSpec.ofChange fnExactIsFieldSpec)

/-- ITS FALSE NEIGHBOUR: 'it returns false'. Refute it at one input. -/
def fnExactIsFieldWrong : ChangeSpec := { name := "fnExactIsField", fn := fun _ => fun
  | [d] => { results := [.lit (.bool false)], args := [d] }
  | _ => none }
def FnExactIsFieldWrongFalsely : Prop := fnExactIsFieldRow.holds Try.pinned (OpenSpec.ofChange fnExactIsFieldWrong)

/-- 'laws.FnExactExchangeSides': WHATEVER THE INPUT: true; the input reads as it did. -/
def fnExactExchangeSidesSpec : ChangeSpec := { name := "fnExactExchangeSides", fn := fun _ => fun
  | [d] => { results := [.lit (.bool true)], args := [d] }
  | _ => none }
def fnExactExchangeSidesRow : OpenClaim := { program := "ytbnkefbcnojdgaa", sum := "90fbb80922f727874bfe91f281502b18ae7770c5be731fab642dcd614f5d7743", func := "loop.example/g01388/laws.FnExactExchangeSides", spec := "fnExactExchangeSides", apart := false }
def FnExactExchangeSidesSaid : Prop := fnExactExchangeSidesRow.holds Try.pinned (OpenSpec.ofChange fnExactExchangeSidesSpec)

/-- ITS FALSE NEIGHBOUR: 'it returns false'. Refute it at one input. -/
def fnExactExchangeSidesWrong : ChangeSpec := { name := "fnExactExchangeSides", fn := fun _ => fun
  | [d] => { results := [.lit (.bool false)], args := [d] }
  | _ => none }
def FnExactExchangeSidesWrongFalsely : Prop := fnExactExchangeSidesRow.holds Try.pinned (OpenSpec.ofChange fnExactExchangeSidesWrong)

/-- 'laws.FnExactAreJoined': WHATEVER THE INPUT: true; the input reads as it did. -/
def fnExactAreJoinedSpec : ChangeSpec := { name := "fnExactAreJoined", fn := fun _ => fun
  | [d1, d2, d3] => { results := [.lit (.bool true)], args := [d1, d2, d3] }
  | _ => none }
def fnExactAreJoinedRow : OpenClaim := { program := "ytbnkefbcnojdgaa", sum := "90fbb80922f727874bfe91f281502b18ae7770c5be731fab642dcd614f5d7743", func := "loop.example/g01388/laws.FnExactAreJoined", spec := "fnExactAreJoined", apart := false }
def FnExactAreJoinedSaid : Prop := fnExactAreJoinedRow.holds Try.pinned (OpenSpec.ofChange fnExactAreJoinedSpec)

/-- ITS FALSE NEIGHBOUR: 'it returns false'. Refute it at one input. -/
def fnExactAreJoinedWrong : ChangeSpec := { name := "fnExactAreJoined", fn := fun _ => fun
  | [d1, d2, d3] => { results := [.lit (.bool false)], args := [d1, d2, d3] }
  | _ => none }
def FnExactAreJoinedWrongFalsely : Prop := fnExactAreJoinedRow.holds Try.pinned (OpenSpec.ofChange fnExactAreJoinedWrong)

/-- 'laws.FnExactIsFairField': WHATEVER THE INPUT: true; the input reads as it did. -/
def fnExactIsFairFieldSpec : ChangeSpec := { name := "fnExactIsFairField", fn := fun _ => fun
  | [d1, d2] => { results := [.lit (.bool true)], args := [d1, d2] }
  | _ => none }
def fnExactIsFairFieldRow : OpenClaim := { program := "ytbnkefbcnojdgaa", sum := "90fbb80922f727874bfe91f281502b18ae7770c5be731fab642dcd614f5d7743", func := "loop.example/g01388/laws.FnExactIsFairField", spec := "fnExactIsFairField", apart := false }
def FnExactIsFairFieldSaid : Prop := fnExactIsFairFieldRow.holds Try.pinned (OpenSpec.ofChange fnExactIsFairFieldSpec)

/-- ITS FALSE NEIGHBOUR: 'it returns false'. Refute it at one input. -/
def fnExactIsFairFieldWrong : ChangeSpec := { name := "fnExactIsFairField", fn := fun _ => fun
  | [d1, d2] => { results := [.lit (.bool false)], args := [d1, d2] }
  | _ => none }
def FnExactIsFairFieldWrongFalsely : Prop := fnExactIsFairFieldRow.holds Try.pinned (OpenSpec.ofChange fnExactIsFairFieldWrong)

/- THE SECOND FORM. 'bulk': how many values and letters a reading holds, each counted each time it is reached (what is shared counts as often as it is met; a slice's spare places count too). A statement '..UptoSaid' is the law's where the arguments, and the package variables that the reading takes, are together of bulk at most 1048576: NARROWER than '..Said'. Prove '..Said' where nothing that the law and all that it calls make is longer than what came in: it says more and counts as full. Else prove '..UptoSaid'. A law counts once. -/
mutual
def uptoBulk {H : Type} : DataW H → Nat
  | .lit (.string bytes) => bytes.length + 1
  | .lit _ => 1
  | .nil => 1
  | .ptr d => uptoBulk d + 1
  | .slice elems spare => uptoBulkAll elems + uptoBulkAll spare + 1
  | .agg parts => uptoBulkAll parts + 1
  | .iface _ d => uptoBulk d + 1
  | .map entries => uptoBulkEntries entries + 1
  | .held _ => 1
def uptoBulkAll {H : Type} : List (DataW H) → Nat
  | [] => 0
  | d :: r => uptoBulk d + uptoBulkAll r
def uptoBulkEntries {H : Type} : List (Lit × DataW H) → Nat
  | [] => 0
  | x :: r => uptoBulkEntry x + uptoBulkEntries r
def uptoBulkEntry {H : Type} : Lit × DataW H → Nat
  | (.string bytes, d) => bytes.length + uptoBulk d + 1
  | (_, d) => uptoBulk d + 1
 end
def uptoSmall : (H : Type) → List (DataW H) → Bool := fun _ ds => decide (uptoBulkAll ds ≤ 1048576)
def OpenSpec.upto (s : _root_.Go.ChangeSpec) : _root_.Go.OpenSpec := { _root_.Go.OpenSpec.ofChange s with cond := some uptoSmall }

/-- 'laws.FnExactConstants', WHERE WHAT IT READS IS OF BULK AT MOST 1048576: true; the input reads as it did. -/
def fnExactConstantsUptoRow : OpenClaim := { program := "ytbnkefbcnojdgaa", sum := "90fbb80922f727874bfe91f281502b18ae7770c5be731fab642dcd614f5d7743", func := "loop.example/g01388/laws.FnExactConstants", spec := "fnExactConstants", apart := false, narrowed := true }
def FnExactConstantsUptoSaid : Prop := fnExactConstantsUptoRow.holds Try.pinned (OpenSpec.upto fnExactConstantsSpec)

/-- 'laws.FnExactTurnsOf', WHERE WHAT IT READS IS OF BULK AT MOST 1048576: true; the input reads as it did. -/
def fnExactTurnsOfUptoRow : OpenClaim := { program := "ytbnkefbcnojdgaa", sum := "90fbb80922f727874bfe91f281502b18ae7770c5be731fab642dcd614f5d7743", func := "loop.example/g01388/laws.FnExactTurnsOf", spec := "fnExactTurnsOf", apart := false, narrowed := true }
def FnExactTurnsOfUptoSaid : Prop := fnExactTurnsOfUptoRow.holds Try.pinned (OpenSpec.upto fnExactTurnsOfSpec)

/-- 'laws.FnExactIsBoxes', WHERE WHAT IT READS IS OF BULK AT MOST 1048576: true; the input reads as it did. -/
def fnExactIsBoxesUptoRow : OpenClaim := { program := "ytbnkefbcnojdgaa", sum := "90fbb80922f727874bfe91f281502b18ae7770c5be731fab642dcd614f5d7743", func := "loop.example/g01388/laws.FnExactIsBoxes", spec := "fnExactIsBoxes", apart := false, narrowed := true }
def FnExactIsBoxesUptoSaid : Prop := fnExactIsBoxesUptoRow.holds Try.pinned (OpenSpec.upto fnExactIsBoxesSpec)

/-- 'laws.FnExactCountEdges', WHERE WHAT IT READS IS OF BULK AT MOST 1048576: true; the input reads as it did. -/
def fnExactCountEdgesUptoRow : OpenClaim := { program := "ytbnkefbcnojdgaa", sum := "90fbb80922f727874bfe91f281502b18ae7770c5be731fab642dcd614f5d7743", func := "loop.example/g01388/laws.FnExactCountEdges", spec := "fnExactCountEdges", apart := false, narrowed := true }
def FnExactCountEdgesUptoSaid : Prop := fnExactCountEdgesUptoRow.holds Try.pinned (OpenSpec.upto fnExactCountEdgesSpec)

/-- 'laws.FnExactEdgesOfBox', WHERE WHAT IT READS IS OF BULK AT MOST 1048576: true; the input reads as it did. -/
def fnExactEdgesOfBoxUptoRow : OpenClaim := { program := "ytbnkefbcnojdgaa", sum := "90fbb80922f727874bfe91f281502b18ae7770c5be731fab642dcd614f5d7743", func := "loop.example/g01388/laws.FnExactEdgesOfBox", spec := "fnExactEdgesOfBox", apart := false, narrowed := true }
def FnExactEdgesOfBoxUptoSaid : Prop := fnExactEdgesOfBoxUptoRow.holds Try.pinned (OpenSpec.upto fnExactEdgesOfBoxSpec)

/-- 'laws.FnExactReflectBoxes', WHERE WHAT IT READS IS OF BULK AT MOST 1048576: true; the input reads as it did. -/
def fnExactReflectBoxesUptoRow : OpenClaim := { program := "ytbnkefbcnojdgaa", sum := "90fbb80922f727874bfe91f281502b18ae7770c5be731fab642dcd614f5d7743", func := "loop.example/g01388/laws.FnExactReflectBoxes", spec := "fnExactReflectBoxes", apart := false, narrowed := true }
def FnExactReflectBoxesUptoSaid : Prop := fnExactReflectBoxesUptoRow.holds Try.pinned (OpenSpec.upto fnExactReflectBoxesSpec)

/-- 'laws.FnExactLeastBoxes', WHERE WHAT IT READS IS OF BULK AT MOST 1048576: true; the input reads as it did. -/
def fnExactLeastBoxesUptoRow : OpenClaim := { program := "ytbnkefbcnojdgaa", sum := "90fbb80922f727874bfe91f281502b18ae7770c5be731fab642dcd614f5d7743", func := "loop.example/g01388/laws.FnExactLeastBoxes", spec := "fnExactLeastBoxes", apart := false, narrowed := true }
def FnExactLeastBoxesUptoSaid : Prop := fnExactLeastBoxesUptoRow.holds Try.pinned (OpenSpec.upto fnExactLeastBoxesSpec)

/-- 'laws.FnExactIsField', WHERE WHAT IT READS IS OF BULK AT MOST 1048576: true; the input reads as it did. -/
def fnExactIsFieldUptoRow : OpenClaim := { program := "ytbnkefbcnojdgaa", sum := "90fbb80922f727874bfe91f281502b18ae7770c5be731fab642dcd614f5d7743", func := "loop.example/g01388/laws.FnExactIsField", spec := "fnExactIsField", apart := false, narrowed := true }
def FnExactIsFieldUptoSaid : Prop := fnExactIsFieldUptoRow.holds Try.pinned (OpenSpec.upto fnExactIsFieldSpec)

/-- 'laws.FnExactExchangeSides', WHERE WHAT IT READS IS OF BULK AT MOST 1048576: true; the input reads as it did. -/
def fnExactExchangeSidesUptoRow : OpenClaim := { program := "ytbnkefbcnojdgaa", sum := "90fbb80922f727874bfe91f281502b18ae7770c5be731fab642dcd614f5d7743", func := "loop.example/g01388/laws.FnExactExchangeSides", spec := "fnExactExchangeSides", apart := false, narrowed := true }
def FnExactExchangeSidesUptoSaid : Prop := fnExactExchangeSidesUptoRow.holds Try.pinned (OpenSpec.upto fnExactExchangeSidesSpec)

/-- 'laws.FnExactAreJoined', WHERE WHAT IT READS IS OF BULK AT MOST 1048576: true; the input reads as it did. -/
def fnExactAreJoinedUptoRow : OpenClaim := { program := "ytbnkefbcnojdgaa", sum := "90fbb80922f727874bfe91f281502b18ae7770c5be731fab642dcd614f5d7743", func := "loop.example/g01388/laws.FnExactAreJoined", spec := "fnExactAreJoined", apart := false, narrowed := true }
def FnExactAreJoinedUptoSaid : Prop := fnExactAreJoinedUptoRow.holds Try.pinned (OpenSpec.upto fnExactAreJoinedSpec)

/-- 'laws.FnExactIsFairField', WHERE WHAT IT READS IS OF BULK AT MOST 1048576: true; the input reads as it did. -/
def fnExactIsFairFieldUptoRow : OpenClaim := { program := "ytbnkefbcnojdgaa", sum := "90fbb80922f727874bfe91f281502b18ae7770c5be731fab642dcd614f5d7743", func := "loop.example/g01388/laws.FnExactIsFairField", spec := "fnExactIsFairField", apart := false, narrowed := true }
def FnExactIsFairFieldUptoSaid : Prop := fnExactIsFairFieldUptoRow.holds Try.pinned (OpenSpec.upto fnExactIsFairFieldSpec)

end Rows
end Go.Proofs.Ytbnkefbcnojdgaa
