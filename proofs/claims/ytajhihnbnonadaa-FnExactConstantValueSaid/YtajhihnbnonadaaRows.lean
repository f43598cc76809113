/-
  NARROWER THAN 'FOR EVERY INPUT', by the rows' own cells (each row's printed sentence says how): FnExactConstantValue: loops · FnExactEvalLocal: loops · FnExactInstanceAt: loops · FnExactSymbolOfNode: loops · FnExactTypeOfExpr: loops · FnExactAttributeOf: loops · FnExactIsTreeOf: loops · FnExactIsValidTree: loops.
  DERIVED. THE GIVEN ROWS OF THIS SEAT. 10 by the template 'for every input the law returns true; each argument reads behind the call as it read before'; 0 by the template 'total and deterministic' (their statements: YtajhihnbnonadaaTotals.lean).
  GIVEN WITH THE SEED: the statements are not yours to turn. If you find one false, say at which input.
  Laid BY PROGRAM, IN A SANDBOX (cutbox-rows.mjs): the forced cells as the released guide's own fill.sh prints them over the translation eabd34f8e861d3a1… (all of the seat's roots in one cut). By AI agents, Wed Nov 11 2026. No macro, syntax, notation, axiom, sorry.
-/
import Derived.Test.YtajhihnbnonadaaChecked
import GoSem.Claim
import GoSem.ClaimJoined
import GoSem.ClaimMapViews
import Derived.JoinedTies
import Derived.KernelRfl
namespace Go.Proofs.Ytajhihnbnonadaa
/- THE CELL 'sum', in the pinned program and in every row, IS THE sha256 OF THE DUMP (.gsa) THAT YtajhihnbnonadaaProg.lean LOADS. Nothing in Lean hashes anything: it is a label: what it is worth is what the hold of that sum in a sandbox is worth. -/
noncomputable def Try.pinned : Pinned := { name := "ytajhihnbnonadaa", sum := "eabd34f8e861d3a1544bf746c178cf285f0885aebe2c6012925a0dacce128fe1", checked := Try.checked }
namespace Rows
def none {H : Type} : Left H := { results := [], args := [] }

/-- 'laws.FnExactSubtree': WHATEVER THE INPUT: true; the input reads as it did. -/
def fnExactSubtreeSpec : ChangeSpec := { name := "fnExactSubtree", fn := fun _ => fun
  | [d1, d2] => { results := [.lit (.bool true)], args := [d1, d2] }
  | _ => none }
def fnExactSubtreeRow : OpenClaim := { program := "ytajhihnbnonadaa", sum := "eabd34f8e861d3a1544bf746c178cf285f0885aebe2c6012925a0dacce128fe1", func := "loop.example/g00512/laws.FnExactSubtree", spec := "fnExactSubtree", apart := false }
def FnExactSubtreeSaid : Prop := fnExactSubtreeRow.holds Try.pinned (OpenSpec.ofChange fnExactSubtreeSpec)

/-- ITS FALSE NEIGHBOUR: 'it returns false'. Refute it at one input. -/
def fnExactSubtreeWrong : ChangeSpec := { name := "fnExactSubtree", fn := fun _ => fun
  | [d1, d2] => { results := [.lit (.bool false)], args := [d1, d2] }
  | _ => none }
def FnExactSubtreeWrongFalsely : Prop := fnExactSubtreeRow.holds Try.pinned (OpenSpec.ofChange fnExactSubtreeWrong)

/-- 'laws.FnExactReplaceSubtree': WHATEVER THE INPUT: true; the input reads as it did. -/
def fnExactReplaceSubtreeSpec : ChangeSpec := { name := "fnExactReplaceSubtree", fn := fun _ => fun
  | [d1, d2, d3] => { results := [.lit (.bool true)], args := [d1, d2, d3] }
  | _ => none }
def fnExactReplaceSubtreeRow : OpenClaim := { program := "ytajhihnbnonadaa", sum := "eabd34f8e861d3a1544bf746c178cf285f0885aebe2c6012925a0dacce128fe1", func := "loop.example/g00512/laws.FnExactReplaceSubtree", spec := "fnExactReplaceSubtree", unfollowed := true, recurses := true, apart := false }
def FnExactReplaceSubtreeSaid : Prop := fnExactReplaceSubtreeRow.holds Try.pinned (OpenSpec.ofChange fnExactReplaceSubtreeSpec)

/-- ITS FALSE NEIGHBOUR: 'it returns false'. Refute it at one input. -/
def fnExactReplaceSubtreeWrong : ChangeSpec := { name := "fnExactReplaceSubtree", fn := fun _ => fun
  | [d1, d2, d3] => { results := [.lit (.bool false)], args := [d1, d2, d3] }
  | _ => none }
def FnExactReplaceSubtreeWrongFalsely : Prop := fnExactReplaceSubtreeRow.holds Try.pinned (OpenSpec.ofChange fnExactReplaceSubtreeWrong)

/-- 'laws.FnExactConstantValue': WHATEVER THE INPUT: true; the input reads as it did. -/
def fnExactConstantValueSpec : ChangeSpec := { name := "fnExactConstantValue", fn := fun _ => fun
  | [d] => { results := [.lit (.bool true)], args := [d] }
  | _ => none }
def fnExactConstantValueRow : OpenClaim := { program := "ytajhihnbnonadaa", sum := "eabd34f8e861d3a1544bf746c178cf285f0885aebe2c6012925a0dacce128fe1", func := "loop.example/g00512/laws.FnExactConstantValue", spec := "fnExactConstantValue", unfollowed := true, recurses := true, loops := true, apart := false }
def FnExactConstantValueSaid : Prop := fnExactConstantValueRow.holds Try.pinned (OpenSpec.ofChange fnExactConstantValueSpec)

/-- ITS FALSE NEIGHBOUR: 'it returns false'. Refute it at one input. -/
def fnExactConstantValueWrong : ChangeSpec := { name := "fnExactConstantValue", fn := fun _ => fun
  | [d] => { results := [.lit (.bool false)], args := [d] }
  | _ => none }
def FnExactConstantValueWrongFalsely : Prop := fnExactConstantValueRow.holds Try.pinned (OpenSpec.ofChange fnExactConstantValueWrong)

/-- 'laws.FnExactEvalLocal': WHATEVER THE INPUT: true; the input reads as it did. -/
def fnExactEvalLocalSpec : ChangeSpec := { name := "fnExactEvalLocal", fn := fun _ => fun
  | [d1, d2, d3, d4] => { results := [.lit (.bool true)], args := [d1, d2, d3, d4] }
  | _ => none }
def fnExactEvalLocalRow : OpenClaim := { program := "ytajhihnbnonadaa", sum := "eabd34f8e861d3a1544bf746c178cf285f0885aebe2c6012925a0dacce128fe1", func := "loop.example/g00512/laws.FnExactEvalLocal", spec := "fnExactEvalLocal", unfollowed := true, recurses := true, loops := true, apart := false }
def FnExactEvalLocalSaid : Prop := fnExactEvalLocalRow.holds Try.pinned (OpenSpec.ofChange fnExactEvalLocalSpec)

/-- ITS FALSE NEIGHBOUR: 'it returns false'. Refute it at one input. -/
def fnExactEvalLocalWrong : ChangeSpec := { name := "fnExactEvalLocal", fn := fun _ => fun
  | [d1, d2, d3, d4] => { results := [.lit (.bool false)], args := [d1, d2, d3, d4] }
  | _ => none }
def FnExactEvalLocalWrongFalsely : Prop := fnExactEvalLocalRow.holds Try.pinned (OpenSpec.ofChange fnExactEvalLocalWrong)

/-- 'laws.FnExactInstanceAt': WHATEVER THE INPUT: true; the input reads as it did. -/
def fnExactInstanceAtSpec : ChangeSpec := { name := "fnExactInstanceAt", fn := fun _ => fun
  | [d1, d2, d3, d4] => { results := [.lit (.bool true)], args := [d1, d2, d3, d4] }
  | _ => none }
def fnExactInstanceAtRow : OpenClaim := { program := "ytajhihnbnonadaa", sum := "eabd34f8e861d3a1544bf746c178cf285f0885aebe2c6012925a0dacce128fe1", func := "loop.example/g00512/laws.FnExactInstanceAt", spec := "fnExactInstanceAt", recurses := true, loops := true, apart := false }
def FnExactInstanceAtSaid : Prop := fnExactInstanceAtRow.holds Try.pinned (OpenSpec.ofChange fnExactInstanceAtSpec)

/-- ITS FALSE NEIGHBOUR: 'it returns false'. Refute it at one input. -/
def fnExactInstanceAtWrong : ChangeSpec := { name := "fnExactInstanceAt", fn := fun _ => fun
  | [d1, d2, d3, d4] => { results := [.lit (.bool false)], args := [d1, d2, d3, d4] }
  | _ => none }
def FnExactInstanceAtWrongFalsely : Prop := fnExactInstanceAtRow.holds Try.pinned (OpenSpec.ofChange fnExactInstanceAtWrong)

/-- 'laws.FnExactSymbolOfNode': WHATEVER THE INPUT: true; the input reads as it did. -/
def fnExactSymbolOfNodeSpec : ChangeSpec := { name := "fnExactSymbolOfNode", fn := fun _ => fun
  | [d1, d2, d3] => { results := [.lit (.bool true)], args := [d1, d2, d3] }
  | _ => none }
def fnExactSymbolOfNodeRow : OpenClaim := { program := "ytajhihnbnonadaa", sum := "eabd34f8e861d3a1544bf746c178cf285f0885aebe2c6012925a0dacce128fe1", func := "loop.example/g00512/laws.FnExactSymbolOfNode", spec := "fnExactSymbolOfNode", recurses := true, loops := true, apart := false }
def FnExactSymbolOfNodeSaid : Prop := fnExactSymbolOfNodeRow.holds Try.pinned (OpenSpec.ofChange fnExactSymbolOfNodeSpec)

/-- ITS FALSE NEIGHBOUR: 'it returns false'. Refute it at one input. -/
def fnExactSymbolOfNodeWrong : ChangeSpec := { name := "fnExactSymbolOfNode", fn := fun _ => fun
  | [d1, d2, d3] => { results := [.lit (.bool false)], args := [d1, d2, d3] }
  | _ => none }
def FnExactSymbolOfNodeWrongFalsely : Prop := fnExactSymbolOfNodeRow.holds Try.pinned (OpenSpec.ofChange fnExactSymbolOfNodeWrong)

/-- 'laws.FnExactTypeOfExpr': WHATEVER THE INPUT: true; the input reads as it did. -/
def fnExactTypeOfExprSpec : ChangeSpec := { name := "fnExactTypeOfExpr", fn := fun _ => fun
  | [d1, d2, d3] => { results := [.lit (.bool true)], args := [d1, d2, d3] }
  | _ => none }
def fnExactTypeOfExprRow : OpenClaim := { program := "ytajhihnbnonadaa", sum := "eabd34f8e861d3a1544bf746c178cf285f0885aebe2c6012925a0dacce128fe1", func := "loop.example/g00512/laws.FnExactTypeOfExpr", spec := "fnExactTypeOfExpr", recurses := true, loops := true, apart := false }
def FnExactTypeOfExprSaid : Prop := fnExactTypeOfExprRow.holds Try.pinned (OpenSpec.ofChange fnExactTypeOfExprSpec)

/-- ITS FALSE NEIGHBOUR: 'it returns false'. Refute it at one input. -/
def fnExactTypeOfExprWrong : ChangeSpec := { name := "fnExactTypeOfExpr", fn := fun _ => fun
  | [d1, d2, d3] => { results := [.lit (.bool false)], args := [d1, d2, d3] }
  | _ => none }
def FnExactTypeOfExprWrongFalsely : Prop := fnExactTypeOfExprRow.holds Try.pinned (OpenSpec.ofChange fnExactTypeOfExprWrong)

/-- 'laws.FnExactAttributeOf': WHATEVER THE INPUT: true; the input reads as it did. -/
def fnExactAttributeOfSpec : ChangeSpec := { name := "fnExactAttributeOf", fn := fun _ => fun
  | [d1, d2, d3] => { results := [.lit (.bool true)], args := [d1, d2, d3] }
  | _ => none }
def fnExactAttributeOfRow : OpenClaim := { program := "ytajhihnbnonadaa", sum := "eabd34f8e861d3a1544bf746c178cf285f0885aebe2c6012925a0dacce128fe1", func := "loop.example/g00512/laws.FnExactAttributeOf", spec := "fnExactAttributeOf", unfollowed := true, recurses := true, loops := true, apart := false }
def FnExactAttributeOfSaid : Prop := fnExactAttributeOfRow.holds Try.pinned (OpenSpec.ofChange fnExactAttributeOfSpec)

/-- ITS FALSE NEIGHBOUR: 'it returns false'. Refute it at one input. -/
def fnExactAttributeOfWrong : ChangeSpec := { name := "fnExactAttributeOf", fn := fun _ => fun
  | [d1, d2, d3] => { results := [.lit (.bool false)], args := [d1, d2, d3] }
  | _ => none }
def FnExactAttributeOfWrongFalsely : Prop := fnExactAttributeOfRow.holds Try.pinned (OpenSpec.ofChange fnExactAttributeOfWrong)

/-- 'laws.FnExactIsTreeOf': WHATEVER THE INPUT: true; the input reads as it did. -/
def fnExactIsTreeOfSpec : ChangeSpec := { name := "fnExactIsTreeOf", fn := fun _ => fun
  | [d1, d2, d3] => { results := [.lit (.bool true)], args := [d1, d2, d3] }
  | _ => none }
def fnExactIsTreeOfRow : OpenClaim := { program := "ytajhihnbnonadaa", sum := "eabd34f8e861d3a1544bf746c178cf285f0885aebe2c6012925a0dacce128fe1", func := "loop.example/g00512/laws.FnExactIsTreeOf", spec := "fnExactIsTreeOf", unfollowed := true, recurses := true, loops := true, apart := false }
def FnExactIsTreeOfSaid : Prop := fnExactIsTreeOfRow.holds Try.pinned (OpenSpec.ofChange fnExactIsTreeOfSpec)

/-- ITS FALSE NEIGHBOUR: 'it returns false'. Refute it at one input. -/
def fnExactIsTreeOfWrong : ChangeSpec := { name := "fnExactIsTreeOf", fn := fun _ => fun
  | [d1, d2, d3] => { results := [.lit (.bool false)], args := [d1, d2, d3] }
  | _ => none }
def FnExactIsTreeOfWrongFalsely : Prop := fnExactIsTreeOfRow.holds Try.pinned (OpenSpec.ofChange fnExactIsTreeOfWrong)

/-- 'laws.FnExactIsValidTree': WHATEVER THE INPUT: true; the input reads as it did. -/
def fnExactIsValidTreeSpec : ChangeSpec := { name := "fnExactIsValidTree", fn := fun _ => fun
  | [d1, d2] => { results := [.lit (.bool true)], args := [d1, d2] }
  | _ => none }
def fnExactIsValidTreeRow : OpenClaim := { program := "ytajhihnbnonadaa", sum := "eabd34f8e861d3a1544bf746c178cf285f0885aebe2c6012925a0dacce128fe1", func := "loop.example/g00512/laws.FnExactIsValidTree", spec := "fnExactIsValidTree", unfollowed := true, recurses := true, loops := true, apart := false }
def FnExactIsValidTreeSaid : Prop := fnExactIsValidTreeRow.holds Try.pinned (OpenSpec.ofChange fnExactIsValidTreeSpec)

/-- ITS FALSE NEIGHBOUR: 'it returns false'. Refute it at one input. -/
def fnExactIsValidTreeWrong : ChangeSpec := { name := "fnExactIsValidTree", fn := fun _ => fun
  | [d1, d2] => { results := [.lit (.bool false)], args := [d1, d2] }
  | _ => none }
def FnExactIsValidTreeWrongFalsely : Prop := fnExactIsValidTreeRow.holds Try.pinned (OpenSpec.ofChange fnExactIsValidTreeWrong)

/- THE SECOND FORM. 'bulk': how many values and letters a reading holds, each counted each time it is reached (what is shared counts as often as it is met; a slice's spare places count too). A statement '..UptoSaid' is the law's where the arguments, and the package variables that the reading takes, are together of bulk at most 1048576: NARROWER than '..Said'. Prove '..Said' where nothing that the law and all that it calls make is longer than what came in: it says more and counts as full. Else prove '..UptoSaid'. A law counts once. -/
mutual
def uptoBulk {H : Type} : DataW H → Nat
  | .lit (.string bytes) => bytes.length + 1
  | .lit _ => 1
  | .nil => 1
  | .ptr d => uptoBulk d + 1
  | .slice elems spare => uptoBulkAll elems + uptoBulkAll spare + 1
  | .agg parts => uptoBulkAll parts + 1
  | .iface _ d => uptoBulk d + 1
  | .map entries => uptoBulkEntries entries + 1
  | .held _ => 1
def uptoBulkAll {H : Type} : List (DataW H) → Nat
  | [] => 0
  | d :: r => uptoBulk d + uptoBulkAll r
def uptoBulkEntries {H : Type} : List (Lit × DataW H) → Nat
  | [] => 0
  | x :: r => uptoBulkEntry x + uptoBulkEntries r
def uptoBulkEntry {H : Type} : Lit × DataW H → Nat
  | (.string bytes, d) => bytes.length + uptoBulk d + 1
  | (_, d) => uptoBulk d + 1
 end
def uptoSmall : (H : Type) → List (DataW H) → Bool := fun _ ds => decide (uptoBulkAll ds ≤ 1048576)
def OpenSpec.upto (s : _root_.Go.ChangeSpec) : _root_.Go.OpenSpec := { _root_.Go.OpenSpec.ofChange s with cond := some uptoSmall }

/-- 'laws.FnExactSubtree', WHERE WHAT IT READS IS OF BULK AT MOST 1048576: true; the input reads as it did. -/
def fnExactSubtreeUptoRow : OpenClaim := { program := "ytajhihnbnonadaa", sum := "eabd34f8e861d3a1544bf746c178cf285f0885aebe2c6012925a0dacce128fe1", func := "loop.example/g00512/laws.FnExactSubtree", spec := "fnExactSubtree", apart := false, narrowed := true }
def FnExactSubtreeUptoSaid : Prop := fnExactSubtreeUptoRow.holds Try.pinned (OpenSpec.upto fnExactSubtreeSpec)

/-- 'laws.FnExactReplaceSubtree', WHERE WHAT IT READS IS OF BULK AT MOST 1048576: true; the input reads as it did. -/
def fnExactReplaceSubtreeUptoRow : OpenClaim := { program := "ytajhihnbnonadaa", sum := "eabd34f8e861d3a1544bf746c178cf285f0885aebe2c6012925a0dacce128fe1", func := "loop.example/g00512/laws.FnExactReplaceSubtree", spec := "fnExactReplaceSubtree", unfollowed := true, recurses := true, apart := false, narrowed := true }
def FnExactReplaceSubtreeUptoSaid : Prop := fnExactReplaceSubtreeUptoRow.holds Try.pinned (OpenSpec.upto fnExactReplaceSubtreeSpec)

/-- 'laws.FnExactConstantValue', WHERE WHAT IT READS IS OF BULK AT MOST 1048576: true; the input reads as it did. -/
def fnExactConstantValueUptoRow : OpenClaim := { program := "ytajhihnbnonadaa", sum := "eabd34f8e861d3a1544bf746c178cf285f0885aebe2c6012925a0dacce128fe1", func := "loop.example/g00512/laws.FnExactConstantValue", spec := "fnExactConstantValue", unfollowed := true, recurses := true, loops := true, apart := false, narrowed := true }
def FnExactConstantValueUptoSaid : Prop := fnExactConstantValueUptoRow.holds Try.pinned (OpenSpec.upto fnExactConstantValueSpec)

/-- 'laws.FnExactEvalLocal', WHERE WHAT IT READS IS OF BULK AT MOST 1048576: true; the input reads as it did. -/
def fnExactEvalLocalUptoRow : OpenClaim := { program := "ytajhihnbnonadaa", sum := "eabd34f8e861d3a1544bf746c178cf285f0885aebe2c6012925a0dacce128fe1", func := "loop.example/g00512/laws.FnExactEvalLocal", spec := "fnExactEvalLocal", unfollowed := true, recurses := true, loops := true, apart := false, narrowed := true }
def FnExactEvalLocalUptoSaid : Prop := fnExactEvalLocalUptoRow.holds Try.pinned (OpenSpec.upto fnExactEvalLocalSpec)

/-- 'laws.FnExactInstanceAt', WHERE WHAT IT READS IS OF BULK AT MOST 1048576: true; the input reads as it did. -/
def fnExactInstanceAtUptoRow : OpenClaim := { program := "ytajhihnbnonadaa", sum := "eabd34f8e861d3a1544bf746c178cf285f0885aebe2c6012925a0dacce128fe1", func := "loop.example/g00512/laws.FnExactInstanceAt", spec := "fnExactInstanceAt", recurses := true, loops := true, apart := false, narrowed := true }
def FnExactInstanceAtUptoSaid : Prop := fnExactInstanceAtUptoRow.holds Try.pinned (OpenSpec.upto fnExactInstanceAtSpec)

/-- 'laws.FnExactSymbolOfNode', WHERE WHAT IT READS IS OF BULK AT MOST 1048576: true; the input reads as it did. -/
def fnExactSymbolOfNodeUptoRow : OpenClaim := { program := "ytajhihnbnonadaa", sum := "eabd34f8e861d3a1544bf746c178cf285f0885aebe2c6012925a0dacce128fe1", func := "loop.example/g00512/laws.FnExactSymbolOfNode", spec := "fnExactSymbolOfNode", recurses := true, loops := true, apart := false, narrowed := true }
def FnExactSymbolOfNodeUptoSaid : Prop := fnExactSymbolOfNodeUptoRow.holds Try.pinned (OpenSpec.upto fnExactSymbolOfNodeSpec)

/-- 'laws.FnExactTypeOfExpr', WHERE WHAT IT READS IS OF BULK AT MOST 1048576: true; the input reads as it did. -/
def fnExactTypeOfExprUptoRow : OpenClaim := { program := "ytajhihnbnonadaa", sum := "eabd34f8e861d3a1544bf746c178cf285f0885aebe2c6012925a0dacce128fe1", func := "loop.example/g00512/laws.FnExactTypeOfExpr", spec := "fnExactTypeOfExpr", recurses := true, loops := true, apart := false, narrowed := true }
def FnExactTypeOfExprUptoSaid : Prop := fnExactTypeOfExprUptoRow.holds Try.pinned (OpenSpec.upto fnExactTypeOfExprSpec)

/-- 'laws.FnExactAttributeOf', WHERE WHAT IT READS IS OF BULK AT MOST 1048576: true; the input reads as it did. -/
def fnExactAttributeOfUptoRow : OpenClaim := { program := "ytajhihnbnonadaa", sum := "eabd34f8e861d3a1544bf746c178cf285f0885aebe2c6012925a0dacce128fe1", func := "loop.example/g00512/laws.FnExactAttributeOf", spec := "fnExactAttributeOf", unfollowed := true, recurses := true, loops := true, apart := false, narrowed := true }
def FnExactAttributeOfUptoSaid : Prop := fnExactAttributeOfUptoRow.holds Try.pinned (OpenSpec.upto fnExactAttributeOfSpec)

/-- 'laws.FnExactIsTreeOf', WHERE WHAT IT READS IS OF BULK AT MOST 1048576: true; the input reads as it did. -/
def fnExactIsTreeOfUptoRow : OpenClaim := { program := "ytajhihnbnonadaa", sum := "eabd34f8e861d3a1544bf746c178cf285f0885aebe2c6012925a0dacce128fe1", func := "loop.example/g00512/laws.FnExactIsTreeOf", spec := "fnExactIsTreeOf", unfollowed := true, recurses := true, loops := true, apart := false, narrowed := true }
def FnExactIsTreeOfUptoSaid : Prop := fnExactIsTreeOfUptoRow.holds Try.pinned (OpenSpec.upto fnExactIsTreeOfSpec)

/-- 'laws.FnExactIsValidTree', WHERE WHAT IT READS IS OF BULK AT MOST 1048576: true; the input reads as it did. -/
def fnExactIsValidTreeUptoRow : OpenClaim := { program := "ytajhihnbnonadaa", sum := "eabd34f8e861d3a1544bf746c178cf285f0885aebe2c6012925a0dacce128fe1", func := "loop.example/g00512/laws.FnExactIsValidTree", spec := "fnExactIsValidTree", unfollowed := true, recurses := true, loops := true, apart := false, narrowed := true }
def FnExactIsValidTreeUptoSaid : Prop := fnExactIsValidTreeUptoRow.holds Try.pinned (OpenSpec.upto fnExactIsValidTreeSpec)

end Rows
end Go.Proofs.Ytajhihnbnonadaa
