/-
  NARROWER THAN 'FOR EVERY INPUT', by the rows' own cells (each row's printed sentence says how): FnExactConstantValue: loops · FnExactEvalLocal: loops.
  DERIVED. THE GIVEN ROWS OF THIS SEAT. 11 by the template 'for every input the law returns true; each argument reads behind the call as it read before'; 0 by the template 'total and deterministic' (their statements: YtpnkabohkmabmaaTotals.lean).
  GIVEN WITH THE SEED: the statements are not yours to turn. If you find one false, say at which input.
  Laid BY PROGRAM, IN A SANDBOX (cutbox-rows.mjs): the forced cells as the released guide's own fill.sh prints them over the translation 9ffc6ec920bc5824… (all of the seat's roots in one cut). By AI agents, Wed Nov 11 2026. No macro, syntax, notation, axiom, sorry.
-/
import Derived.Test.YtpnkabohkmabmaaChecked
import GoSem.Claim
import GoSem.ClaimJoined
import GoSem.ClaimMapViews
import Derived.JoinedTies
import Derived.KernelRfl
namespace Go.Proofs.Ytpnkabohkmabmaa
/- THE CELL 'sum', in the pinned program and in every row, IS THE sha256 OF THE DUMP (.gsa) THAT YtpnkabohkmabmaaProg.lean LOADS. Nothing in Lean hashes anything: it is a label: what it is worth is what the hold of that sum in a sandbox is worth. -/
noncomputable def Try.pinned : Pinned := { name := "ytpnkabohkmabmaa", sum := "9ffc6ec920bc5824ed7749774b8b66f2431b29ce839972caf27ab6ea2a6eb5d3", checked := Try.checked }
namespace Rows
def none {H : Type} : Left H := { results := [], args := [] }

/-- 'laws.FnExactSlotValue': WHATEVER THE INPUT: true; the input reads as it did. -/
def fnExactSlotValueSpec : ChangeSpec := { name := "fnExactSlotValue", fn := fun _ => fun
  | [d1, d2] => { results := [.lit (.bool true)], args := [d1, d2] }
  | _ => none }
def fnExactSlotValueRow : OpenClaim := { program := "ytpnkabohkmabmaa", sum := "9ffc6ec920bc5824ed7749774b8b66f2431b29ce839972caf27ab6ea2a6eb5d3", func := "loop.example/g00512/laws.FnExactSlotValue", spec := "fnExactSlotValue", apart := false }
def FnExactSlotValueSaid : Prop := fnExactSlotValueRow.holds Try.pinned (OpenSpec.ofChange fnExactSlotValueSpec)

/-- ITS FALSE NEIGHBOUR: 'it returns false'. Refute it at one input. -/
def fnExactSlotValueWrong : ChangeSpec := { name := "fnExactSlotValue", fn := fun _ => fun
  | [d1, d2] => { results := [.lit (.bool false)], args := [d1, d2] }
  | _ => none }
def FnExactSlotValueWrongFalsely : Prop := fnExactSlotValueRow.holds Try.pinned (OpenSpec.ofChange fnExactSlotValueWrong)

/-- 'laws.FnExactNodeIndex': WHATEVER THE INPUT: true; the input reads as it did. -/
def fnExactNodeIndexSpec : ChangeSpec := { name := "fnExactNodeIndex", fn := fun _ => fun
  | [d1, d2] => { results := [.lit (.bool true)], args := [d1, d2] }
  | _ => none }
def fnExactNodeIndexRow : OpenClaim := { program := "ytpnkabohkmabmaa", sum := "9ffc6ec920bc5824ed7749774b8b66f2431b29ce839972caf27ab6ea2a6eb5d3", func := "loop.example/g00512/laws.FnExactNodeIndex", spec := "fnExactNodeIndex", unfollowed := true, recurses := true, apart := false }
def FnExactNodeIndexSaid : Prop := fnExactNodeIndexRow.holds Try.pinned (OpenSpec.ofChange fnExactNodeIndexSpec)

/-- ITS FALSE NEIGHBOUR: 'it returns false'. Refute it at one input. -/
def fnExactNodeIndexWrong : ChangeSpec := { name := "fnExactNodeIndex", fn := fun _ => fun
  | [d1, d2] => { results := [.lit (.bool false)], args := [d1, d2] }
  | _ => none }
def FnExactNodeIndexWrongFalsely : Prop := fnExactNodeIndexRow.holds Try.pinned (OpenSpec.ofChange fnExactNodeIndexWrong)

/-- 'laws.FnExactSubtreeSize': WHATEVER THE INPUT: true; the input reads as it did. -/
def fnExactSubtreeSizeSpec : ChangeSpec := { name := "fnExactSubtreeSize", fn := fun _ => fun
  | [d1, d2] => { results := [.lit (.bool true)], args := [d1, d2] }
  | _ => none }
def fnExactSubtreeSizeRow : OpenClaim := { program := "ytpnkabohkmabmaa", sum := "9ffc6ec920bc5824ed7749774b8b66f2431b29ce839972caf27ab6ea2a6eb5d3", func := "loop.example/g00512/laws.FnExactSubtreeSize", spec := "fnExactSubtreeSize", apart := false }
def FnExactSubtreeSizeSaid : Prop := fnExactSubtreeSizeRow.holds Try.pinned (OpenSpec.ofChange fnExactSubtreeSizeSpec)

/-- ITS FALSE NEIGHBOUR: 'it returns false'. Refute it at one input. -/
def fnExactSubtreeSizeWrong : ChangeSpec := { name := "fnExactSubtreeSize", fn := fun _ => fun
  | [d1, d2] => { results := [.lit (.bool false)], args := [d1, d2] }
  | _ => none }
def FnExactSubtreeSizeWrongFalsely : Prop := fnExactSubtreeSizeRow.holds Try.pinned (OpenSpec.ofChange fnExactSubtreeSizeWrong)

/-- 'laws.FnExactTreeHeight': WHATEVER THE INPUT: true; the input reads as it did. -/
def fnExactTreeHeightSpec : ChangeSpec := { name := "fnExactTreeHeight", fn := fun _ => fun
  | [d1, d2] => { results := [.lit (.bool true)], args := [d1, d2] }
  | _ => none }
def fnExactTreeHeightRow : OpenClaim := { program := "ytpnkabohkmabmaa", sum := "9ffc6ec920bc5824ed7749774b8b66f2431b29ce839972caf27ab6ea2a6eb5d3", func := "loop.example/g00512/laws.FnExactTreeHeight", spec := "fnExactTreeHeight", apart := false }
def FnExactTreeHeightSaid : Prop := fnExactTreeHeightRow.holds Try.pinned (OpenSpec.ofChange fnExactTreeHeightSpec)

/-- ITS FALSE NEIGHBOUR: 'it returns false'. Refute it at one input. -/
def fnExactTreeHeightWrong : ChangeSpec := { name := "fnExactTreeHeight", fn := fun _ => fun
  | [d1, d2] => { results := [.lit (.bool false)], args := [d1, d2] }
  | _ => none }
def FnExactTreeHeightWrongFalsely : Prop := fnExactTreeHeightRow.holds Try.pinned (OpenSpec.ofChange fnExactTreeHeightWrong)

/-- 'laws.FnExactEqualTree': WHATEVER THE INPUT: true; the input reads as it did. -/
def fnExactEqualTreeSpec : ChangeSpec := { name := "fnExactEqualTree", fn := fun _ => fun
  | [d1, d2] => { results := [.lit (.bool true)], args := [d1, d2] }
  | _ => none }
def fnExactEqualTreeRow : OpenClaim := { program := "ytpnkabohkmabmaa", sum := "9ffc6ec920bc5824ed7749774b8b66f2431b29ce839972caf27ab6ea2a6eb5d3", func := "loop.example/g00512/laws.FnExactEqualTree", spec := "fnExactEqualTree", unfollowed := true, recurses := true, apart := false }
def FnExactEqualTreeSaid : Prop := fnExactEqualTreeRow.holds Try.pinned (OpenSpec.ofChange fnExactEqualTreeSpec)

/-- ITS FALSE NEIGHBOUR: 'it returns false'. Refute it at one input. -/
def fnExactEqualTreeWrong : ChangeSpec := { name := "fnExactEqualTree", fn := fun _ => fun
  | [d1, d2] => { results := [.lit (.bool false)], args := [d1, d2] }
  | _ => none }
def FnExactEqualTreeWrongFalsely : Prop := fnExactEqualTreeRow.holds Try.pinned (OpenSpec.ofChange fnExactEqualTreeWrong)

/-- 'laws.FnExactSameShape': WHATEVER THE INPUT: true; the input reads as it did. -/
def fnExactSameShapeSpec : ChangeSpec := { name := "fnExactSameShape", fn := fun _ => fun
  | [d1, d2] => { results := [.lit (.bool true)], args := [d1, d2] }
  | _ => none }
def fnExactSameShapeRow : OpenClaim := { program := "ytpnkabohkmabmaa", sum := "9ffc6ec920bc5824ed7749774b8b66f2431b29ce839972caf27ab6ea2a6eb5d3", func := "loop.example/g00512/laws.FnExactSameShape", spec := "fnExactSameShape", unfollowed := true, recurses := true, apart := false }
def FnExactSameShapeSaid : Prop := fnExactSameShapeRow.holds Try.pinned (OpenSpec.ofChange fnExactSameShapeSpec)

/-- ITS FALSE NEIGHBOUR: 'it returns false'. Refute it at one input. -/
def fnExactSameShapeWrong : ChangeSpec := { name := "fnExactSameShape", fn := fun _ => fun
  | [d1, d2] => { results := [.lit (.bool false)], args := [d1, d2] }
  | _ => none }
def FnExactSameShapeWrongFalsely : Prop := fnExactSameShapeRow.holds Try.pinned (OpenSpec.ofChange fnExactSameShapeWrong)

/-- 'laws.FnExactNodeIds': WHATEVER THE INPUT: true; the input reads as it did. -/
def fnExactNodeIdsSpec : ChangeSpec := { name := "fnExactNodeIds", fn := fun _ => fun
  | [d1, d2] => { results := [.lit (.bool true)], args := [d1, d2] }
  | _ => none }
def fnExactNodeIdsRow : OpenClaim := { program := "ytpnkabohkmabmaa", sum := "9ffc6ec920bc5824ed7749774b8b66f2431b29ce839972caf27ab6ea2a6eb5d3", func := "loop.example/g00512/laws.FnExactNodeIds", spec := "fnExactNodeIds", apart := false }
def FnExactNodeIdsSaid : Prop := fnExactNodeIdsRow.holds Try.pinned (OpenSpec.ofChange fnExactNodeIdsSpec)

/-- ITS FALSE NEIGHBOUR: 'it returns false'. Refute it at one input. -/
def fnExactNodeIdsWrong : ChangeSpec := { name := "fnExactNodeIds", fn := fun _ => fun
  | [d1, d2] => { results := [.lit (.bool false)], args := [d1, d2] }
  | _ => none }
def FnExactNodeIdsWrongFalsely : Prop := fnExactNodeIdsRow.holds Try.pinned (OpenSpec.ofChange fnExactNodeIdsWrong)

/-- 'laws.FnExactSubtree': WHATEVER THE INPUT: true; the input reads as it did. -/
def fnExactSubtreeSpec : ChangeSpec := { name := "fnExactSubtree", fn := fun _ => fun
  | [d1, d2] => { results := [.lit (.bool true)], args := [d1, d2] }
  | _ => none }
def fnExactSubtreeRow : OpenClaim := { program := "ytpnkabohkmabmaa", sum := "9ffc6ec920bc5824ed7749774b8b66f2431b29ce839972caf27ab6ea2a6eb5d3", func := "loop.example/g00512/laws.FnExactSubtree", spec := "fnExactSubtree", apart := false }
def FnExactSubtreeSaid : Prop := fnExactSubtreeRow.holds Try.pinned (OpenSpec.ofChange fnExactSubtreeSpec)

/-- ITS FALSE NEIGHBOUR: 'it returns false'. Refute it at one input. -/
def fnExactSubtreeWrong : ChangeSpec := { name := "fnExactSubtree", fn := fun _ => fun
  | [d1, d2] => { results := [.lit (.bool false)], args := [d1, d2] }
  | _ => none }
def FnExactSubtreeWrongFalsely : Prop := fnExactSubtreeRow.holds Try.pinned (OpenSpec.ofChange fnExactSubtreeWrong)

/-- 'laws.FnExactReplaceSubtree': WHATEVER THE INPUT: true; the input reads as it did. -/
def fnExactReplaceSubtreeSpec : ChangeSpec := { name := "fnExactReplaceSubtree", fn := fun _ => fun
  | [d1, d2, d3] => { results := [.lit (.bool true)], args := [d1, d2, d3] }
  | _ => none }
def fnExactReplaceSubtreeRow : OpenClaim := { program := "ytpnkabohkmabmaa", sum := "9ffc6ec920bc5824ed7749774b8b66f2431b29ce839972caf27ab6ea2a6eb5d3", func := "loop.example/g00512/laws.FnExactReplaceSubtree", spec := "fnExactReplaceSubtree", unfollowed := true, recurses := true, apart := false }
def FnExactReplaceSubtreeSaid : Prop := fnExactReplaceSubtreeRow.holds Try.pinned (OpenSpec.ofChange fnExactReplaceSubtreeSpec)

/-- ITS FALSE NEIGHBOUR: 'it returns false'. Refute it at one input. -/
def fnExactReplaceSubtreeWrong : ChangeSpec := { name := "fnExactReplaceSubtree", fn := fun _ => fun
  | [d1, d2, d3] => { results := [.lit (.bool false)], args := [d1, d2, d3] }
  | _ => none }
def FnExactReplaceSubtreeWrongFalsely : Prop := fnExactReplaceSubtreeRow.holds Try.pinned (OpenSpec.ofChange fnExactReplaceSubtreeWrong)

/-- 'laws.FnExactConstantValue': WHATEVER THE INPUT: true; the input reads as it did. -/
def fnExactConstantValueSpec : ChangeSpec := { name := "fnExactConstantValue", fn := fun _ => fun
  | [d] => { results := [.lit (.bool true)], args := [d] }
  | _ => none }
def fnExactConstantValueRow : OpenClaim := { program := "ytpnkabohkmabmaa", sum := "9ffc6ec920bc5824ed7749774b8b66f2431b29ce839972caf27ab6ea2a6eb5d3", func := "loop.example/g00512/laws.FnExactConstantValue", spec := "fnExactConstantValue", unfollowed := true, recurses := true, loops := true, apart := false }
def FnExactConstantValueSaid : Prop := fnExactConstantValueRow.holds Try.pinned (OpenSpec.ofChange fnExactConstantValueSpec)

/-- ITS FALSE NEIGHBOUR: 'it returns false'. Refute it at one input. -/
def fnExactConstantValueWrong : ChangeSpec := { name := "fnExactConstantValue", fn := fun _ => fun
  | [d] => { results := [.lit (.bool false)], args := [d] }
  | _ => none }
def FnExactConstantValueWrongFalsely : Prop := fnExactConstantValueRow.holds Try.pinned (OpenSpec.ofChange fnExactConstantValueWrong)

/-- 'laws.FnExactEvalLocal': WHATEVER THE INPUT: true; the input reads as it did. -/
def fnExactEvalLocalSpec : ChangeSpec := { name := "fnExactEvalLocal", fn := fun _ => fun
  | [d1, d2, d3, d4] => { results := [.lit (.bool true)], args := [d1, d2, d3, d4] }
  | _ => none }
def fnExactEvalLocalRow : OpenClaim := { program := "ytpnkabohkmabmaa", sum := "9ffc6ec920bc5824ed7749774b8b66f2431b29ce839972caf27ab6ea2a6eb5d3", func := "loop.example/g00512/laws.FnExactEvalLocal", spec := "fnExactEvalLocal", unfollowed := true, recurses := true, loops := true, apart := false }
def FnExactEvalLocalSaid : Prop := fnExactEvalLocalRow.holds Try.pinned (OpenSpec.ofChange fnExactEvalLocalSpec)

/-- ITS FALSE NEIGHBOUR: 'it returns false'. Refute it at one input. -/
def fnExactEvalLocalWrong : ChangeSpec := { name := "fnExactEvalLocal", fn := fun _ => fun
  | [d1, d2, d3, d4] => { results := [.lit (.bool false)], args := [d1, d2, d3, d4] }
  | _ => none }
def FnExactEvalLocalWrongFalsely : Prop := fnExactEvalLocalRow.holds Try.pinned (OpenSpec.ofChange fnExactEvalLocalWrong)

/- THE SECOND FORM. 'bulk': how many values and letters a reading holds, each counted each time it is reached (what is shared counts as often as it is met; a slice's spare places count too). A statement '..UptoSaid' is the law's where the arguments, and the package variables that the reading takes, are together of bulk at most 1048576: NARROWER than '..Said'. Prove '..Said' where nothing that the law and all that it calls make is longer than what came in: it says more and counts as full. Else prove '..UptoSaid'. A law counts once. -/
mutual
def uptoBulk {H : Type} : DataW H → Nat
  | .lit (.string bytes) => bytes.length + 1
  | .lit _ => 1
  | .nil => 1
  | .ptr d => uptoBulk d + 1
  | .slice elems spare => uptoBulkAll elems + uptoBulkAll spare + 1
  | .agg parts => uptoBulkAll parts + 1
  | .iface _ d => uptoBulk d + 1
  | .map entries => uptoBulkEntries entries + 1
  | .held _ => 1
def uptoBulkAll {H : Type} : List (DataW H) → Nat
  | [] => 0
  | d :: r => uptoBulk d + uptoBulkAll r
def uptoBulkEntries {H : Type} : List (Lit × DataW H) → Nat
  | [] => 0
  | x :: r => uptoBulkEntry x + uptoBulkEntries r
def uptoBulkEntry {H : Type} : Lit × DataW H → Nat
  | (.string bytes, d) => bytes.length + uptoBulk d + 1
  | (_, d) => uptoBulk d + 1
 end
def uptoSmall : (H : Type) → List (DataW H) → Bool := fun _ ds => decide (uptoBulkAll ds ≤ 1048576)
def OpenSpec.upto (s : _root_.Go.ChangeSpec) : _root_.Go.OpenSpec := { _root_.Go.OpenSpec.ofChange s with cond := some uptoSmall }

/-- 'laws.FnExactSlotValue', WHERE WHAT IT READS IS OF BULK AT MOST 1048576: true; the input reads as it did. -/
def fnExactSlotValueUptoRow : OpenClaim := { program := "ytpnkabohkmabmaa", sum := "9ffc6ec920bc5824ed7749774b8b66f2431b29ce839972caf27ab6ea2a6eb5d3", func := "loop.example/g00512/laws.FnExactSlotValue", spec := "fnExactSlotValue", apart := false, narrowed := true }
def FnExactSlotValueUptoSaid : Prop := fnExactSlotValueUptoRow.holds Try.pinned (OpenSpec.upto fnExactSlotValueSpec)

/-- 'laws.FnExactNodeIndex', WHERE WHAT IT READS IS OF BULK AT MOST 1048576: true; the input reads as it did. -/
def fnExactNodeIndexUptoRow : OpenClaim := { program := "ytpnkabohkmabmaa", sum := "9ffc6ec920bc5824ed7749774b8b66f2431b29ce839972caf27ab6ea2a6eb5d3", func := "loop.example/g00512/laws.FnExactNodeIndex", spec := "fnExactNodeIndex", unfollowed := true, recurses := true, apart := false, narrowed := true }
def FnExactNodeIndexUptoSaid : Prop := fnExactNodeIndexUptoRow.holds Try.pinned (OpenSpec.upto fnExactNodeIndexSpec)

/-- 'laws.FnExactSubtreeSize', WHERE WHAT IT READS IS OF BULK AT MOST 1048576: true; the input reads as it did. -/
def fnExactSubtreeSizeUptoRow : OpenClaim := { program := "ytpnkabohkmabmaa", sum := "9ffc6ec920bc5824ed7749774b8b66f2431b29ce839972caf27ab6ea2a6eb5d3", func := "loop.example/g00512/laws.FnExactSubtreeSize", spec := "fnExactSubtreeSize", apart := false, narrowed := true }
def FnExactSubtreeSizeUptoSaid : Prop := fnExactSubtreeSizeUptoRow.holds Try.pinned (OpenSpec.upto fnExactSubtreeSizeSpec)

/-- 'laws.FnExactTreeHeight', WHERE WHAT IT READS IS OF BULK AT MOST 1048576: true; the input reads as it did. -/
def fnExactTreeHeightUptoRow : OpenClaim := { program := "ytpnkabohkmabmaa", sum := "9ffc6ec920bc5824ed7749774b8b66f2431b29ce839972caf27ab6ea2a6eb5d3", func := "loop.example/g00512/laws.FnExactTreeHeight", spec := "fnExactTreeHeight", apart := false, narrowed := true }
def FnExactTreeHeightUptoSaid : Prop := fnExactTreeHeightUptoRow.holds Try.pinned (OpenSpec.upto fnExactTreeHeightSpec)

/-- 'laws.FnExactEqualTree', WHERE WHAT IT READS IS OF BULK AT MOST 1048576: true; the input reads as it did. -/
def fnExactEqualTreeUptoRow : OpenClaim := { program := "ytpnkabohkmabmaa", sum := "9ffc6ec920bc5824ed7749774b8b66f2431b29ce839972caf27ab6ea2a6eb5d3", func := "loop.example/g00512/laws.FnExactEqualTree", spec := "fnExactEqualTree", unfollowed := true, recurses := true, apart := false, narrowed := true }
def FnExactEqualTreeUptoSaid : Prop := fnExactEqualTreeUptoRow.holds Try.pinned (OpenSpec.upto fnExactEqualTreeSpec)

/-- 'laws.FnExactSameShape', WHERE WHAT IT READS IS OF BULK AT MOST 1048576: true; the input reads as it did. -/
def fnExactSameShapeUptoRow : OpenClaim := { program := "ytpnkabohkmabmaa", sum := "9ffc6ec920bc5824ed7749774b8b66f2431b29ce839972caf27ab6ea2a6eb5d3", func := "loop.example/g00512/laws.FnExactSameShape", spec := "fnExactSameShape", unfollowed := true, recurses := true, apart := false, narrowed := true }
def FnExactSameShapeUptoSaid : Prop := fnExactSameShapeUptoRow.holds Try.pinned (OpenSpec.upto fnExactSameShapeSpec)

/-- 'laws.FnExactNodeIds', WHERE WHAT IT READS IS OF BULK AT MOST 1048576: true; the input reads as it did. -/
def fnExactNodeIdsUptoRow : OpenClaim := { program := "ytpnkabohkmabmaa", sum := "9ffc6ec920bc5824ed7749774b8b66f2431b29ce839972caf27ab6ea2a6eb5d3", func := "loop.example/g00512/laws.FnExactNodeIds", spec := "fnExactNodeIds", apart := false, narrowed := true }
def FnExactNodeIdsUptoSaid : Prop := fnExactNodeIdsUptoRow.holds Try.pinned (OpenSpec.upto fnExactNodeIdsSpec)

/-- 'laws.FnExactSubtree', WHERE WHAT IT READS IS OF BULK AT MOST 1048576: true; the input reads as it did. -/
def fnExactSubtreeUptoRow : OpenClaim := { program := "ytpnkabohkmabmaa", sum := "9ffc6ec920bc5824ed7749774b8b66f2431b29ce839972caf27ab6ea2a6eb5d3", func := "loop.example/g00512/laws.FnExactSubtree", spec := "fnExactSubtree", apart := false, narrowed := true }
def FnExactSubtreeUptoSaid : Prop := fnExactSubtreeUptoRow.holds Try.pinned (OpenSpec.upto fnExactSubtreeSpec)

/-- 'laws.FnExactReplaceSubtree', WHERE WHAT IT READS IS OF BULK AT MOST 1048576: true; the input reads as it did. -/
def fnExactReplaceSubtreeUptoRow : OpenClaim := { program := "ytpnkabohkmabmaa", sum := "9ffc6ec920bc5824ed7749774b8b66f2431b29ce839972caf27ab6ea2a6eb5d3", func := "loop.example/g00512/laws.FnExactReplaceSubtree", spec := "fnExactReplaceSubtree", unfollowed := true, recurses := true, apart := false, narrowed := true }
def FnExactReplaceSubtreeUptoSaid : Prop := fnExactReplaceSubtreeUptoRow.holds Try.pinned (OpenSpec.upto fnExactReplaceSubtreeSpec)

/-- 'laws.FnExactConstantValue', WHERE WHAT IT READS IS OF BULK AT MOST 1048576: true; the input reads as it did. -/
def fnExactConstantValueUptoRow : OpenClaim := { program := "ytpnkabohkmabmaa", sum := "9ffc6ec920bc5824ed7749774b8b66f2431b29ce839972caf27ab6ea2a6eb5d3", func := "loop.example/g00512/laws.FnExactConstantValue", spec := "fnExactConstantValue", unfollowed := true, recurses := true, loops := true, apart := false, narrowed := true }
def FnExactConstantValueUptoSaid : Prop := fnExactConstantValueUptoRow.holds Try.pinned (OpenSpec.upto fnExactConstantValueSpec)

/-- 'laws.FnExactEvalLocal', WHERE WHAT IT READS IS OF BULK AT MOST 1048576: true; the input reads as it did. -/
def fnExactEvalLocalUptoRow : OpenClaim := { program := "ytpnkabohkmabmaa", sum := "9ffc6ec920bc5824ed7749774b8b66f2431b29ce839972caf27ab6ea2a6eb5d3", func := "loop.example/g00512/laws.FnExactEvalLocal", spec := "fnExactEvalLocal", unfollowed := true, recurses := true, loops := true, apart := false, narrowed := true }
def FnExactEvalLocalUptoSaid : Prop := fnExactEvalLocalUptoRow.holds Try.pinned (OpenSpec.upto fnExactEvalLocalSpec)

end Rows
end Go.Proofs.Ytpnkabohkmabmaa
