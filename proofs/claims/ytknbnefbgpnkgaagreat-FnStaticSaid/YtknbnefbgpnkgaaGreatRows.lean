/-
  No cell of these rows narrows 'for every input' (looked for: loops, veiled, ifaces, maps, wideKeys, modest, calm, conditions, laid).
  DERIVED. THE GIVEN ROWS OF THIS SEAT. 5 by the template 'for every input the law returns true; each argument reads behind the call as it read before'; 0 by the template 'total and deterministic' (their statements: YtknbnefbgpnkgaaGreatTotals.lean).
  GIVEN WITH THE SEED: the statements are not yours to turn. If you find one false, say at which input.
  Laid BY PROGRAM, IN A SANDBOX (cutbox-rows.mjs): the forced cells as the released guide's own fill.sh prints them over the translation 4785c1022b9d33f7… (all of the seat's roots in one cut). By AI agents, Wed Nov 11 2026. No macro, syntax, notation, axiom, sorry.
-/
import Derived.Test.YtknbnefbgpnkgaaGreatChecked
import GoSem.Claim
import GoSem.ClaimJoined
import GoSem.ClaimMapViews
import Derived.JoinedTies
import Derived.KernelRfl
namespace Go.Proofs.YtknbnefbgpnkgaaGreat
/- THE CELL 'sum', in the pinned program and in every row, IS THE sha256 OF THE DUMP (.gsa) THAT YtknbnefbgpnkgaaGreatProg.lean LOADS. Nothing in Lean hashes anything: it is a label: what it is worth is what the hold of that sum in a sandbox is worth. -/
noncomputable def Tryz.pinned : Pinned := { name := "ytknbnefbgpnkgaagreat", sum := "4785c1022b9d33f7c756279fad5be47aff429c8ca459edecd571b0de562be2c1", checked := Tryz.checked }
namespace Rows
def none {H : Type} : Left H := { results := [], args := [] }

/-- 'laws.FnStatic': WHATEVER THE INPUT: true; the input reads as it did. -/
def fnStaticSpec : ChangeSpec := { name := "fnStatic", fn := fun _ => fun
  | [d] => { results := [.lit (.bool true)], args := [d] }
  | _ => none }
def fnStaticRow : OpenClaim := { program := "ytknbnefbgpnkgaagreat", sum := "4785c1022b9d33f7c756279fad5be47aff429c8ca459edecd571b0de562be2c1", func := "loop.example/g00512/laws.FnStatic", spec := "fnStatic", unfollowed := true, recurses := true, apart := false }
def FnStaticSaid : Prop := fnStaticRow.holds Tryz.pinned (OpenSpec.ofChange fnStaticSpec)

/-- ITS FALSE NEIGHBOUR: 'it returns false'. Refute it at one input. -/
def fnStaticWrong : ChangeSpec := { name := "fnStatic", fn := fun _ => fun
  | [d] => { results := [.lit (.bool false)], args := [d] }
  | _ => none }
def FnStaticWrongFalsely : Prop := fnStaticRow.holds Tryz.pinned (OpenSpec.ofChange fnStaticWrong)

/-- 'laws.FnEdited': WHATEVER THE INPUT: true; the input reads as it did. -/
def fnEditedSpec : ChangeSpec := { name := "fnEdited", fn := fun _ => fun
  | [d] => { results := [.lit (.bool true)], args := [d] }
  | _ => none }
def fnEditedRow : OpenClaim := { program := "ytknbnefbgpnkgaagreat", sum := "4785c1022b9d33f7c756279fad5be47aff429c8ca459edecd571b0de562be2c1", func := "loop.example/g00512/laws.FnEdited", spec := "fnEdited", unfollowed := true, recurses := true, apart := false }
def FnEditedSaid : Prop := fnEditedRow.holds Tryz.pinned (OpenSpec.ofChange fnEditedSpec)

/-- ITS FALSE NEIGHBOUR: 'it returns false'. Refute it at one input. -/
def fnEditedWrong : ChangeSpec := { name := "fnEdited", fn := fun _ => fun
  | [d] => { results := [.lit (.bool false)], args := [d] }
  | _ => none }
def FnEditedWrongFalsely : Prop := fnEditedRow.holds Tryz.pinned (OpenSpec.ofChange fnEditedWrong)

/-- 'laws.FnSwapped': WHATEVER THE INPUT: true; the input reads as it did. -/
def fnSwappedSpec : ChangeSpec := { name := "fnSwapped", fn := fun _ => fun
  | [d] => { results := [.lit (.bool true)], args := [d] }
  | _ => none }
def fnSwappedRow : OpenClaim := { program := "ytknbnefbgpnkgaagreat", sum := "4785c1022b9d33f7c756279fad5be47aff429c8ca459edecd571b0de562be2c1", func := "loop.example/g00512/laws.FnSwapped", spec := "fnSwapped", unfollowed := true, recurses := true, apart := false }
def FnSwappedSaid : Prop := fnSwappedRow.holds Tryz.pinned (OpenSpec.ofChange fnSwappedSpec)

/-- ITS FALSE NEIGHBOUR: 'it returns false'. Refute it at one input. -/
def fnSwappedWrong : ChangeSpec := { name := "fnSwapped", fn := fun _ => fun
  | [d] => { results := [.lit (.bool false)], args := [d] }
  | _ => none }
def FnSwappedWrongFalsely : Prop := fnSwappedRow.holds Tryz.pinned (OpenSpec.ofChange fnSwappedWrong)

/-- 'laws.FnEdits': WHATEVER THE INPUT: true; the input reads as it did. -/
def fnEditsSpec : ChangeSpec := { name := "fnEdits", fn := fun _ => fun
  | [d] => { results := [.lit (.bool true)], args := [d] }
  | _ => none }
def fnEditsRow : OpenClaim := { program := "ytknbnefbgpnkgaagreat", sum := "4785c1022b9d33f7c756279fad5be47aff429c8ca459edecd571b0de562be2c1", func := "loop.example/g00512/laws.FnEdits", spec := "fnEdits", unfollowed := true, recurses := true, apart := false }
def FnEditsSaid : Prop := fnEditsRow.holds Tryz.pinned (OpenSpec.ofChange fnEditsSpec)

/-- ITS FALSE NEIGHBOUR: 'it returns false'. Refute it at one input. -/
def fnEditsWrong : ChangeSpec := { name := "fnEdits", fn := fun _ => fun
  | [d] => { results := [.lit (.bool false)], args := [d] }
  | _ => none }
def FnEditsWrongFalsely : Prop := fnEditsRow.holds Tryz.pinned (OpenSpec.ofChange fnEditsWrong)

/-- 'laws.FnStaticTypes': WHATEVER THE INPUT: true; the input reads as it did. -/
def fnStaticTypesSpec : ChangeSpec := { name := "fnStaticTypes", fn := fun _ => fun
  | [d] => { results := [.lit (.bool true)], args := [d] }
  | _ => none }
def fnStaticTypesRow : OpenClaim := { program := "ytknbnefbgpnkgaagreat", sum := "4785c1022b9d33f7c756279fad5be47aff429c8ca459edecd571b0de562be2c1", func := "loop.example/g00512/laws.FnStaticTypes", spec := "fnStaticTypes", unfollowed := true, recurses := true, apart := false }
def FnStaticTypesSaid : Prop := fnStaticTypesRow.holds Tryz.pinned (OpenSpec.ofChange fnStaticTypesSpec)

/-- ITS FALSE NEIGHBOUR: 'it returns false'. Refute it at one input. -/
def fnStaticTypesWrong : ChangeSpec := { name := "fnStaticTypes", fn := fun _ => fun
  | [d] => { results := [.lit (.bool false)], args := [d] }
  | _ => none }
def FnStaticTypesWrongFalsely : Prop := fnStaticTypesRow.holds Tryz.pinned (OpenSpec.ofChange fnStaticTypesWrong)

/- THE SECOND FORM. 'bulk': how many values and letters a reading holds, each counted each time it is reached (what is shared counts as often as it is met; a slice's spare places count too). A statement '..UptoSaid' is the law's where the arguments, and the package variables that the reading takes, are together of bulk at most 1048576: NARROWER than '..Said'. Prove '..Said' where nothing that the law and all that it calls make is longer than what came in: it says more and counts as full. Else prove '..UptoSaid'. A law counts once. -/
mutual
def uptoBulk {H : Type} : DataW H → Nat
  | .lit (.string bytes) => bytes.length + 1
  | .lit _ => 1
  | .nil => 1
  | .ptr d => uptoBulk d + 1
  | .slice elems spare => uptoBulkAll elems + uptoBulkAll spare + 1
  | .agg parts => uptoBulkAll parts + 1
  | .iface _ d => uptoBulk d + 1
  | .map entries => uptoBulkEntries entries + 1
  | .held _ => 1
def uptoBulkAll {H : Type} : List (DataW H) → Nat
  | [] => 0
  | d :: r => uptoBulk d + uptoBulkAll r
def uptoBulkEntries {H : Type} : List (Lit × DataW H) → Nat
  | [] => 0
  | x :: r => uptoBulkEntry x + uptoBulkEntries r
def uptoBulkEntry {H : Type} : Lit × DataW H → Nat
  | (.string bytes, d) => bytes.length + uptoBulk d + 1
  | (_, d) => uptoBulk d + 1
 end
def uptoSmall : (H : Type) → List (DataW H) → Bool := fun _ ds => decide (uptoBulkAll ds ≤ 1048576)
def OpenSpec.upto (s : _root_.Go.ChangeSpec) : _root_.Go.OpenSpec := { _root_.Go.OpenSpec.ofChange s with cond := some uptoSmall }

/-- 'laws.FnStatic', WHERE WHAT IT READS IS OF BULK AT MOST 1048576: true; the input reads as it did. -/
def fnStaticUptoRow : OpenClaim := { program := "ytknbnefbgpnkgaagreat", sum := "4785c1022b9d33f7c756279fad5be47aff429c8ca459edecd571b0de562be2c1", func := "loop.example/g00512/laws.FnStatic", spec := "fnStatic", unfollowed := true, recurses := true, apart := false, narrowed := true }
def FnStaticUptoSaid : Prop := fnStaticUptoRow.holds Tryz.pinned (OpenSpec.upto fnStaticSpec)

/-- 'laws.FnEdited', WHERE WHAT IT READS IS OF BULK AT MOST 1048576: true; the input reads as it did. -/
def fnEditedUptoRow : OpenClaim := { program := "ytknbnefbgpnkgaagreat", sum := "4785c1022b9d33f7c756279fad5be47aff429c8ca459edecd571b0de562be2c1", func := "loop.example/g00512/laws.FnEdited", spec := "fnEdited", unfollowed := true, recurses := true, apart := false, narrowed := true }
def FnEditedUptoSaid : Prop := fnEditedUptoRow.holds Tryz.pinned (OpenSpec.upto fnEditedSpec)

/-- 'laws.FnSwapped', WHERE WHAT IT READS IS OF BULK AT MOST 1048576: true; the input reads as it did. -/
def fnSwappedUptoRow : OpenClaim := { program := "ytknbnefbgpnkgaagreat", sum := "4785c1022b9d33f7c756279fad5be47aff429c8ca459edecd571b0de562be2c1", func := "loop.example/g00512/laws.FnSwapped", spec := "fnSwapped", unfollowed := true, recurses := true, apart := false, narrowed := true }
def FnSwappedUptoSaid : Prop := fnSwappedUptoRow.holds Tryz.pinned (OpenSpec.upto fnSwappedSpec)

/-- 'laws.FnEdits', WHERE WHAT IT READS IS OF BULK AT MOST 1048576: true; the input reads as it did. -/
def fnEditsUptoRow : OpenClaim := { program := "ytknbnefbgpnkgaagreat", sum := "4785c1022b9d33f7c756279fad5be47aff429c8ca459edecd571b0de562be2c1", func := "loop.example/g00512/laws.FnEdits", spec := "fnEdits", unfollowed := true, recurses := true, apart := false, narrowed := true }
def FnEditsUptoSaid : Prop := fnEditsUptoRow.holds Tryz.pinned (OpenSpec.upto fnEditsSpec)

/-- 'laws.FnStaticTypes', WHERE WHAT IT READS IS OF BULK AT MOST 1048576: true; the input reads as it did. -/
def fnStaticTypesUptoRow : OpenClaim := { program := "ytknbnefbgpnkgaagreat", sum := "4785c1022b9d33f7c756279fad5be47aff429c8ca459edecd571b0de562be2c1", func := "loop.example/g00512/laws.FnStaticTypes", spec := "fnStaticTypes", unfollowed := true, recurses := true, apart := false, narrowed := true }
def FnStaticTypesUptoSaid : Prop := fnStaticTypesUptoRow.holds Tryz.pinned (OpenSpec.upto fnStaticTypesSpec)

end Rows
end Go.Proofs.YtknbnefbgpnkgaaGreat
