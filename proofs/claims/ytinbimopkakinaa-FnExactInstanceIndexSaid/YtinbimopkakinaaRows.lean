/-
  No cell of these rows narrows 'for every input' (looked for: loops, veiled, ifaces, maps, wideKeys, modest, calm, conditions, laid).
  DERIVED. THE GIVEN ROWS OF THIS SEAT. 7 by the template 'for every input the law returns true; each argument reads behind the call as it read before'; 0 by the template 'total and deterministic' (their statements: YtinbimopkakinaaTotals.lean).
  GIVEN WITH THE SEED: the statements are not yours to turn. If you find one false, say at which input.
  Laid BY PROGRAM, IN A SANDBOX (cutbox-rows.mjs): the forced cells as the released guide's own fill.sh prints them over the translation beeb483d00336aa2… (all of the seat's roots in one cut). By AI agents, Wed Nov 11 2026. No macro, syntax, notation, axiom, sorry.
-/
import Derived.Test.YtinbimopkakinaaChecked
import GoSem.Claim
import GoSem.ClaimJoined
import GoSem.ClaimMapViews
import Derived.JoinedTies
import Derived.KernelRfl
namespace Go.Proofs.Ytinbimopkakinaa
/- THE CELL 'sum', in the pinned program and in every row, IS THE sha256 OF THE DUMP (.gsa) THAT YtinbimopkakinaaProg.lean LOADS. Nothing in Lean hashes anything: it is a label: what it is worth is what the hold of that sum in a sandbox is worth. -/
noncomputable def Try.pinned : Pinned := { name := "ytinbimopkakinaa", sum := "beeb483d00336aa241b03108acf12e0212fbc204b92c2c6e9bf21fe551fc33cd", checked := Try.checked }
namespace Rows
def none {H : Type} : Left H := { results := [], args := [] }

/-- 'laws.FnExactEmptyRelation': WHATEVER THE INPUT: true; the input reads as it did. -/
def fnExactEmptyRelationSpec : ChangeSpec := { name := "fnExactEmptyRelation", fn := fun _ => fun
  | [d] => { results := [.lit (.bool true)], args := [d] }
  | _ => none }
def fnExactEmptyRelationRow : OpenClaim := { program := "ytinbimopkakinaa", sum := "beeb483d00336aa241b03108acf12e0212fbc204b92c2c6e9bf21fe551fc33cd", func := "loop.example/g00512/laws.FnExactEmptyRelation", spec := "fnExactEmptyRelation", apart := false }
def FnExactEmptyRelationSaid : Prop := fnExactEmptyRelationRow.holds Try.pinned (OpenSpec.ofChange fnExactEmptyRelationSpec)

/-- ITS FALSE NEIGHBOUR: 'it returns false'. Refute it at one input. -/
def fnExactEmptyRelationWrong : ChangeSpec := { name := "fnExactEmptyRelation", fn := fun _ => fun
  | [d] => { results := [.lit (.bool false)], args := [d] }
  | _ => none }
def FnExactEmptyRelationWrongFalsely : Prop := fnExactEmptyRelationRow.holds Try.pinned (OpenSpec.ofChange fnExactEmptyRelationWrong)

/-- 'laws.FnExactInstanceIndex': WHATEVER THE INPUT: true; the input reads as it did. -/
def fnExactInstanceIndexSpec : ChangeSpec := { name := "fnExactInstanceIndex", fn := fun _ => fun
  | [d1, d2] => { results := [.lit (.bool true)], args := [d1, d2] }
  | _ => none }
def fnExactInstanceIndexRow : OpenClaim := { program := "ytinbimopkakinaa", sum := "beeb483d00336aa241b03108acf12e0212fbc204b92c2c6e9bf21fe551fc33cd", func := "loop.example/g00512/laws.FnExactInstanceIndex", spec := "fnExactInstanceIndex", apart := false }
def FnExactInstanceIndexSaid : Prop := fnExactInstanceIndexRow.holds Try.pinned (OpenSpec.ofChange fnExactInstanceIndexSpec)

/-- ITS FALSE NEIGHBOUR: 'it returns false'. Refute it at one input. -/
def fnExactInstanceIndexWrong : ChangeSpec := { name := "fnExactInstanceIndex", fn := fun _ => fun
  | [d1, d2] => { results := [.lit (.bool false)], args := [d1, d2] }
  | _ => none }
def FnExactInstanceIndexWrongFalsely : Prop := fnExactInstanceIndexRow.holds Try.pinned (OpenSpec.ofChange fnExactInstanceIndexWrong)

/-- 'laws.FnExactEqualRelation': WHATEVER THE INPUT: true; the input reads as it did. -/
def fnExactEqualRelationSpec : ChangeSpec := { name := "fnExactEqualRelation", fn := fun _ => fun
  | [d1, d2] => { results := [.lit (.bool true)], args := [d1, d2] }
  | _ => none }
def fnExactEqualRelationRow : OpenClaim := { program := "ytinbimopkakinaa", sum := "beeb483d00336aa241b03108acf12e0212fbc204b92c2c6e9bf21fe551fc33cd", func := "loop.example/g00512/laws.FnExactEqualRelation", spec := "fnExactEqualRelation", apart := false }
def FnExactEqualRelationSaid : Prop := fnExactEqualRelationRow.holds Try.pinned (OpenSpec.ofChange fnExactEqualRelationSpec)

/-- ITS FALSE NEIGHBOUR: 'it returns false'. Refute it at one input. -/
def fnExactEqualRelationWrong : ChangeSpec := { name := "fnExactEqualRelation", fn := fun _ => fun
  | [d1, d2] => { results := [.lit (.bool false)], args := [d1, d2] }
  | _ => none }
def FnExactEqualRelationWrongFalsely : Prop := fnExactEqualRelationRow.holds Try.pinned (OpenSpec.ofChange fnExactEqualRelationWrong)

/-- 'laws.FnExactSlotValue': WHATEVER THE INPUT: true; the input reads as it did. -/
def fnExactSlotValueSpec : ChangeSpec := { name := "fnExactSlotValue", fn := fun _ => fun
  | [d1, d2] => { results := [.lit (.bool true)], args := [d1, d2] }
  | _ => none }
def fnExactSlotValueRow : OpenClaim := { program := "ytinbimopkakinaa", sum := "beeb483d00336aa241b03108acf12e0212fbc204b92c2c6e9bf21fe551fc33cd", func := "loop.example/g00512/laws.FnExactSlotValue", spec := "fnExactSlotValue", apart := false }
def FnExactSlotValueSaid : Prop := fnExactSlotValueRow.holds Try.pinned (OpenSpec.ofChange fnExactSlotValueSpec)

/-- ITS FALSE NEIGHBOUR: 'it returns false'. Refute it at one input. -/
def fnExactSlotValueWrong : ChangeSpec := { name := "fnExactSlotValue", fn := fun _ => fun
  | [d1, d2] => { results := [.lit (.bool false)], args := [d1, d2] }
  | _ => none }
def FnExactSlotValueWrongFalsely : Prop := fnExactSlotValueRow.holds Try.pinned (OpenSpec.ofChange fnExactSlotValueWrong)

/-- 'laws.FnExactNodeIndex': WHATEVER THE INPUT: true; the input reads as it did. -/
def fnExactNodeIndexSpec : ChangeSpec := { name := "fnExactNodeIndex", fn := fun _ => fun
  | [d1, d2] => { results := [.lit (.bool true)], args := [d1, d2] }
  | _ => none }
def fnExactNodeIndexRow : OpenClaim := { program := "ytinbimopkakinaa", sum := "beeb483d00336aa241b03108acf12e0212fbc204b92c2c6e9bf21fe551fc33cd", func := "loop.example/g00512/laws.FnExactNodeIndex", spec := "fnExactNodeIndex", unfollowed := true, recurses := true, apart := false }
def FnExactNodeIndexSaid : Prop := fnExactNodeIndexRow.holds Try.pinned (OpenSpec.ofChange fnExactNodeIndexSpec)

/-- ITS FALSE NEIGHBOUR: 'it returns false'. Refute it at one input. -/
def fnExactNodeIndexWrong : ChangeSpec := { name := "fnExactNodeIndex", fn := fun _ => fun
  | [d1, d2] => { results := [.lit (.bool false)], args := [d1, d2] }
  | _ => none }
def FnExactNodeIndexWrongFalsely : Prop := fnExactNodeIndexRow.holds Try.pinned (OpenSpec.ofChange fnExactNodeIndexWrong)

/-- 'laws.FnExactSubtreeSize': WHATEVER THE INPUT: true; the input reads as it did. -/
def fnExactSubtreeSizeSpec : ChangeSpec := { name := "fnExactSubtreeSize", fn := fun _ => fun
  | [d1, d2] => { results := [.lit (.bool true)], args := [d1, d2] }
  | _ => none }
def fnExactSubtreeSizeRow : OpenClaim := { program := "ytinbimopkakinaa", sum := "beeb483d00336aa241b03108acf12e0212fbc204b92c2c6e9bf21fe551fc33cd", func := "loop.example/g00512/laws.FnExactSubtreeSize", spec := "fnExactSubtreeSize", apart := false }
def FnExactSubtreeSizeSaid : Prop := fnExactSubtreeSizeRow.holds Try.pinned (OpenSpec.ofChange fnExactSubtreeSizeSpec)

/-- ITS FALSE NEIGHBOUR: 'it returns false'. Refute it at one input. -/
def fnExactSubtreeSizeWrong : ChangeSpec := { name := "fnExactSubtreeSize", fn := fun _ => fun
  | [d1, d2] => { results := [.lit (.bool false)], args := [d1, d2] }
  | _ => none }
def FnExactSubtreeSizeWrongFalsely : Prop := fnExactSubtreeSizeRow.holds Try.pinned (OpenSpec.ofChange fnExactSubtreeSizeWrong)

/-- 'laws.FnExactTreeHeight': WHATEVER THE INPUT: true; the input reads as it did. -/
def fnExactTreeHeightSpec : ChangeSpec := { name := "fnExactTreeHeight", fn := fun _ => fun
  | [d1, d2] => { results := [.lit (.bool true)], args := [d1, d2] }
  | _ => none }
def fnExactTreeHeightRow : OpenClaim := { program := "ytinbimopkakinaa", sum := "beeb483d00336aa241b03108acf12e0212fbc204b92c2c6e9bf21fe551fc33cd", func := "loop.example/g00512/laws.FnExactTreeHeight", spec := "fnExactTreeHeight", apart := false }
def FnExactTreeHeightSaid : Prop := fnExactTreeHeightRow.holds Try.pinned (OpenSpec.ofChange fnExactTreeHeightSpec)

/-- ITS FALSE NEIGHBOUR: 'it returns false'. Refute it at one input. -/
def fnExactTreeHeightWrong : ChangeSpec := { name := "fnExactTreeHeight", fn := fun _ => fun
  | [d1, d2] => { results := [.lit (.bool false)], args := [d1, d2] }
  | _ => none }
def FnExactTreeHeightWrongFalsely : Prop := fnExactTreeHeightRow.holds Try.pinned (OpenSpec.ofChange fnExactTreeHeightWrong)

/- THE SECOND FORM. 'bulk': how many values and letters a reading holds, each counted each time it is reached (what is shared counts as often as it is met; a slice's spare places count too). A statement '..UptoSaid' is the law's where the arguments, and the package variables that the reading takes, are together of bulk at most 1048576: NARROWER than '..Said'. Prove '..Said' where nothing that the law and all that it calls make is longer than what came in: it says more and counts as full. Else prove '..UptoSaid'. A law counts once. -/
mutual
def uptoBulk {H : Type} : DataW H → Nat
  | .lit (.string bytes) => bytes.length + 1
  | .lit _ => 1
  | .nil => 1
  | .ptr d => uptoBulk d + 1
  | .slice elems spare => uptoBulkAll elems + uptoBulkAll spare + 1
  | .agg parts => uptoBulkAll parts + 1
  | .iface _ d => uptoBulk d + 1
  | .map entries => uptoBulkEntries entries + 1
  | .held _ => 1
def uptoBulkAll {H : Type} : List (DataW H) → Nat
  | [] => 0
  | d :: r => uptoBulk d + uptoBulkAll r
def uptoBulkEntries {H : Type} : List (Lit × DataW H) → Nat
  | [] => 0
  | x :: r => uptoBulkEntry x + uptoBulkEntries r
def uptoBulkEntry {H : Type} : Lit × DataW H → Nat
  | (.string bytes, d) => bytes.length + uptoBulk d + 1
  | (_, d) => uptoBulk d + 1
 end
def uptoSmall : (H : Type) → List (DataW H) → Bool := fun _ ds => decide (uptoBulkAll ds ≤ 1048576)
def OpenSpec.upto (s : _root_.Go.ChangeSpec) : _root_.Go.OpenSpec := { _root_.Go.OpenSpec.ofChange s with cond := some uptoSmall }

/-- 'laws.FnExactEmptyRelation', WHERE WHAT IT READS IS OF BULK AT MOST 1048576: true; the input reads as it did. -/
def fnExactEmptyRelationUptoRow : OpenClaim := { program := "ytinbimopkakinaa", sum := "beeb483d00336aa241b03108acf12e0212fbc204b92c2c6e9bf21fe551fc33cd", func := "loop.example/g00512/laws.FnExactEmptyRelation", spec := "fnExactEmptyRelation", apart := false, narrowed := true }
def FnExactEmptyRelationUptoSaid : Prop := fnExactEmptyRelationUptoRow.holds Try.pinned (OpenSpec.upto fnExactEmptyRelationSpec)

/-- 'laws.FnExactInstanceIndex', WHERE WHAT IT READS IS OF BULK AT MOST 1048576: true; the input reads as it did. -/
def fnExactInstanceIndexUptoRow : OpenClaim := { program := "ytinbimopkakinaa", sum := "beeb483d00336aa241b03108acf12e0212fbc204b92c2c6e9bf21fe551fc33cd", func := "loop.example/g00512/laws.FnExactInstanceIndex", spec := "fnExactInstanceIndex", apart := false, narrowed := true }
def FnExactInstanceIndexUptoSaid : Prop := fnExactInstanceIndexUptoRow.holds Try.pinned (OpenSpec.upto fnExactInstanceIndexSpec)

/-- 'laws.FnExactEqualRelation', WHERE WHAT IT READS IS OF BULK AT MOST 1048576: true; the input reads as it did. -/
def fnExactEqualRelationUptoRow : OpenClaim := { program := "ytinbimopkakinaa", sum := "beeb483d00336aa241b03108acf12e0212fbc204b92c2c6e9bf21fe551fc33cd", func := "loop.example/g00512/laws.FnExactEqualRelation", spec := "fnExactEqualRelation", apart := false, narrowed := true }
def FnExactEqualRelationUptoSaid : Prop := fnExactEqualRelationUptoRow.holds Try.pinned (OpenSpec.upto fnExactEqualRelationSpec)

/-- 'laws.FnExactSlotValue', WHERE WHAT IT READS IS OF BULK AT MOST 1048576: true; the input reads as it did. -/
def fnExactSlotValueUptoRow : OpenClaim := { program := "ytinbimopkakinaa", sum := "beeb483d00336aa241b03108acf12e0212fbc204b92c2c6e9bf21fe551fc33cd", func := "loop.example/g00512/laws.FnExactSlotValue", spec := "fnExactSlotValue", apart := false, narrowed := true }
def FnExactSlotValueUptoSaid : Prop := fnExactSlotValueUptoRow.holds Try.pinned (OpenSpec.upto fnExactSlotValueSpec)

/-- 'laws.FnExactNodeIndex', WHERE WHAT IT READS IS OF BULK AT MOST 1048576: true; the input reads as it did. -/
def fnExactNodeIndexUptoRow : OpenClaim := { program := "ytinbimopkakinaa", sum := "beeb483d00336aa241b03108acf12e0212fbc204b92c2c6e9bf21fe551fc33cd", func := "loop.example/g00512/laws.FnExactNodeIndex", spec := "fnExactNodeIndex", unfollowed := true, recurses := true, apart := false, narrowed := true }
def FnExactNodeIndexUptoSaid : Prop := fnExactNodeIndexUptoRow.holds Try.pinned (OpenSpec.upto fnExactNodeIndexSpec)

/-- 'laws.FnExactSubtreeSize', WHERE WHAT IT READS IS OF BULK AT MOST 1048576: true; the input reads as it did. -/
def fnExactSubtreeSizeUptoRow : OpenClaim := { program := "ytinbimopkakinaa", sum := "beeb483d00336aa241b03108acf12e0212fbc204b92c2c6e9bf21fe551fc33cd", func := "loop.example/g00512/laws.FnExactSubtreeSize", spec := "fnExactSubtreeSize", apart := false, narrowed := true }
def FnExactSubtreeSizeUptoSaid : Prop := fnExactSubtreeSizeUptoRow.holds Try.pinned (OpenSpec.upto fnExactSubtreeSizeSpec)

/-- 'laws.FnExactTreeHeight', WHERE WHAT IT READS IS OF BULK AT MOST 1048576: true; the input reads as it did. -/
def fnExactTreeHeightUptoRow : OpenClaim := { program := "ytinbimopkakinaa", sum := "beeb483d00336aa241b03108acf12e0212fbc204b92c2c6e9bf21fe551fc33cd", func := "loop.example/g00512/laws.FnExactTreeHeight", spec := "fnExactTreeHeight", apart := false, narrowed := true }
def FnExactTreeHeightUptoSaid : Prop := fnExactTreeHeightUptoRow.holds Try.pinned (OpenSpec.upto fnExactTreeHeightSpec)

end Rows
end Go.Proofs.Ytinbimopkakinaa
