/-
  No cell of these rows narrows 'for every input' (looked for: loops, veiled, ifaces, maps, wideKeys, modest, calm, conditions, laid).
  DERIVED. THE GIVEN ROWS OF THIS SEAT. 3 by the template 'for every input the law returns true; each argument reads behind the call as it read before'; 0 by the template 'total and deterministic' (their statements: YtofcbmnplanmkaaGreatTotals.lean).
  GIVEN WITH THE SEED: the statements are not yours to turn. If you find one false, say at which input.
  Laid BY PROGRAM, IN A SANDBOX (cutbox-rows.mjs): the forced cells as the released guide's own fill.sh prints them over the translation 4dc43f18432464dd… (all of the seat's roots in one cut). By AI agents, Wed Nov 11 2026. No macro, syntax, notation, axiom, sorry.
-/
import Derived.Test.YtofcbmnplanmkaaGreatChecked
import GoSem.Claim
import GoSem.ClaimJoined
import GoSem.ClaimMapViews
import Derived.JoinedTies
import Derived.KernelRfl
namespace Go.Proofs.YtofcbmnplanmkaaGreat
/- THE CELL 'sum', in the pinned program and in every row, IS THE sha256 OF THE DUMP (.gsa) THAT YtofcbmnplanmkaaGreatProg.lean LOADS. Nothing in Lean hashes anything: it is a label: what it is worth is what the hold of that sum in a sandbox is worth. -/
noncomputable def Tryz.pinned : Pinned := { name := "ytofcbmnplanmkaagreat", sum := "4dc43f18432464dd7cbdf84d7781c0e4fd0138c72290dbfcd1c8e79363cd478d", checked := Tryz.checked }
namespace Rows
def none {H : Type} : Left H := { results := [], args := [] }

/-- 'laws.FnTreeOrder': WHATEVER THE INPUT: true; the input reads as it did. -/
def fnTreeOrderSpec : ChangeSpec := { name := "fnTreeOrder", fn := fun _ => fun
  | [d] => { results := [.lit (.bool true)], args := [d] }
  | _ => none }
def fnTreeOrderRow : OpenClaim := { program := "ytofcbmnplanmkaagreat", sum := "4dc43f18432464dd7cbdf84d7781c0e4fd0138c72290dbfcd1c8e79363cd478d", func := "loop.example/g00512/laws.FnTreeOrder", spec := "fnTreeOrder", unfollowed := true, recurses := true, apart := false }
def FnTreeOrderSaid : Prop := fnTreeOrderRow.holds Tryz.pinned (OpenSpec.ofChange fnTreeOrderSpec)

/-- ITS FALSE NEIGHBOUR: 'it returns false'. Refute it at one input. -/
def fnTreeOrderWrong : ChangeSpec := { name := "fnTreeOrder", fn := fun _ => fun
  | [d] => { results := [.lit (.bool false)], args := [d] }
  | _ => none }
def FnTreeOrderWrongFalsely : Prop := fnTreeOrderRow.holds Tryz.pinned (OpenSpec.ofChange fnTreeOrderWrong)

/-- 'laws.FnTreeCycle': WHATEVER THE INPUT: true; the input reads as it did. -/
def fnTreeCycleSpec : ChangeSpec := { name := "fnTreeCycle", fn := fun _ => fun
  | [d] => { results := [.lit (.bool true)], args := [d] }
  | _ => none }
def fnTreeCycleRow : OpenClaim := { program := "ytofcbmnplanmkaagreat", sum := "4dc43f18432464dd7cbdf84d7781c0e4fd0138c72290dbfcd1c8e79363cd478d", func := "loop.example/g00512/laws.FnTreeCycle", spec := "fnTreeCycle", unfollowed := true, recurses := true, apart := false }
def FnTreeCycleSaid : Prop := fnTreeCycleRow.holds Tryz.pinned (OpenSpec.ofChange fnTreeCycleSpec)

/-- ITS FALSE NEIGHBOUR: 'it returns false'. Refute it at one input. -/
def fnTreeCycleWrong : ChangeSpec := { name := "fnTreeCycle", fn := fun _ => fun
  | [d] => { results := [.lit (.bool false)], args := [d] }
  | _ => none }
def FnTreeCycleWrongFalsely : Prop := fnTreeCycleRow.holds Tryz.pinned (OpenSpec.ofChange fnTreeCycleWrong)

/-- 'laws.FnDefined': WHATEVER THE INPUT: true; the input reads as it did. -/
def fnDefinedSpec : ChangeSpec := { name := "fnDefined", fn := fun _ => fun
  | [d] => { results := [.lit (.bool true)], args := [d] }
  | _ => none }
def fnDefinedRow : OpenClaim := { program := "ytofcbmnplanmkaagreat", sum := "4dc43f18432464dd7cbdf84d7781c0e4fd0138c72290dbfcd1c8e79363cd478d", func := "loop.example/g00512/laws.FnDefined", spec := "fnDefined", unfollowed := true, recurses := true, apart := false }
def FnDefinedSaid : Prop := fnDefinedRow.holds Tryz.pinned (OpenSpec.ofChange fnDefinedSpec)

/-- ITS FALSE NEIGHBOUR: 'it returns false'. Refute it at one input. -/
def fnDefinedWrong : ChangeSpec := { name := "fnDefined", fn := fun _ => fun
  | [d] => { results := [.lit (.bool false)], args := [d] }
  | _ => none }
def FnDefinedWrongFalsely : Prop := fnDefinedRow.holds Tryz.pinned (OpenSpec.ofChange fnDefinedWrong)

/- THE SECOND FORM. 'bulk': how many values and letters a reading holds, each counted each time it is reached (what is shared counts as often as it is met; a slice's spare places count too). A statement '..UptoSaid' is the law's where the arguments, and the package variables that the reading takes, are together of bulk at most 1048576: NARROWER than '..Said'. Prove '..Said' where nothing that the law and all that it calls make is longer than what came in: it says more and counts as full. Else prove '..UptoSaid'. A law counts once. -/
mutual
def uptoBulk {H : Type} : DataW H → Nat
  | .lit (.string bytes) => bytes.length + 1
  | .lit _ => 1
  | .nil => 1
  | .ptr d => uptoBulk d + 1
  | .slice elems spare => uptoBulkAll elems + uptoBulkAll spare + 1
  | .agg parts => uptoBulkAll parts + 1
  | .iface _ d => uptoBulk d + 1
  | .map entries => uptoBulkEntries entries + 1
  | .held _ => 1
def uptoBulkAll {H : Type} : List (DataW H) → Nat
  | [] => 0
  | d :: r => uptoBulk d + uptoBulkAll r
def uptoBulkEntries {H : Type} : List (Lit × DataW H) → Nat
  | [] => 0
  | x :: r => uptoBulkEntry x + uptoBulkEntries r
def uptoBulkEntry {H : Type} : Lit × DataW H → Nat
  | (.string bytes, d) => bytes.length + uptoBulk d + 1
  | (_, d) => uptoBulk d + 1
 end
def uptoSmall : (H : Type) → List (DataW H) → Bool := fun _ ds => decide (uptoBulkAll ds ≤ 1048576)
def OpenSpec.upto (s : _root_.Go.ChangeSpec) : _root_.Go.OpenSpec := { _root_.Go.OpenSpec.ofChange s with cond := some uptoSmall }

/-- 'laws.FnTreeOrder', WHERE WHAT IT READS IS OF BULK AT MOST 1048576: true; the input reads as it did. -/
def fnTreeOrderUptoRow : OpenClaim := { program := "ytofcbmnplanmkaagreat", sum := "4dc43f18432464dd7cbdf84d7781c0e4fd0138c72290dbfcd1c8e79363cd478d", func := "loop.example/g00512/laws.FnTreeOrder", spec := "fnTreeOrder", unfollowed := true, recurses := true, apart := false, narrowed := true }
def FnTreeOrderUptoSaid : Prop := fnTreeOrderUptoRow.holds Tryz.pinned (OpenSpec.upto fnTreeOrderSpec)

/-- 'laws.FnTreeCycle', WHERE WHAT IT READS IS OF BULK AT MOST 1048576: true; the input reads as it did. -/
def fnTreeCycleUptoRow : OpenClaim := { program := "ytofcbmnplanmkaagreat", sum := "4dc43f18432464dd7cbdf84d7781c0e4fd0138c72290dbfcd1c8e79363cd478d", func := "loop.example/g00512/laws.FnTreeCycle", spec := "fnTreeCycle", unfollowed := true, recurses := true, apart := false, narrowed := true }
def FnTreeCycleUptoSaid : Prop := fnTreeCycleUptoRow.holds Tryz.pinned (OpenSpec.upto fnTreeCycleSpec)

/-- 'laws.FnDefined', WHERE WHAT IT READS IS OF BULK AT MOST 1048576: true; the input reads as it did. -/
def fnDefinedUptoRow : OpenClaim := { program := "ytofcbmnplanmkaagreat", sum := "4dc43f18432464dd7cbdf84d7781c0e4fd0138c72290dbfcd1c8e79363cd478d", func := "loop.example/g00512/laws.FnDefined", spec := "fnDefined", unfollowed := true, recurses := true, apart := false, narrowed := true }
def FnDefinedUptoSaid : Prop := fnDefinedUptoRow.holds Tryz.pinned (OpenSpec.upto fnDefinedSpec)

end Rows
end Go.Proofs.YtofcbmnplanmkaaGreat
