/-
  No cell of these rows narrows 'for every input' (looked for: loops, veiled, ifaces, maps, wideKeys, modest, calm, conditions, laid).
  DERIVED. THE GIVEN ROWS OF THIS SEAT. 3 by the template 'for every input the law returns true; each argument reads behind the call as it read before'; 0 by the template 'total and deterministic' (their statements: YtkmedfejmndmjaaGreatTotals.lean).
  GIVEN WITH THE SEED: the statements are not yours to turn. If you find one false, say at which input.
  Laid BY PROGRAM, IN A SANDBOX (cutbox-rows.mjs): the forced cells as the released guide's own fill.sh prints them over the translation 1376c9e283e28084… (all of the seat's roots in one cut). By AI agents, Wed Nov 11 2026. No macro, syntax, notation, axiom, sorry.
-/
import Derived.Test.YtkmedfejmndmjaaGreatChecked
import GoSem.Claim
import GoSem.ClaimJoined
import GoSem.ClaimMapViews
import Derived.JoinedTies
import Derived.KernelRfl
namespace Go.Proofs.YtkmedfejmndmjaaGreat
/- THE CELL 'sum', in the pinned program and in every row, IS THE sha256 OF THE DUMP (.gsa) THAT YtkmedfejmndmjaaGreatProg.lean LOADS. Nothing in Lean hashes anything: it is a label: what it is worth is what the hold of that sum in a sandbox is worth. -/
noncomputable def Tryz.pinned : Pinned := { name := "ytkmedfejmndmjaagreat", sum := "1376c9e283e2808497061b897581336c8a91026b31c8c0906b48bfa5655dbce2", checked := Tryz.checked }
namespace Rows
def none {H : Type} : Left H := { results := [], args := [] }

/-- 'laws.FnTypes': WHATEVER THE INPUT: true; the input reads as it did. -/
def fnTypesSpec : ChangeSpec := { name := "fnTypes", fn := fun _ => fun
  | [d] => { results := [.lit (.bool true)], args := [d] }
  | _ => none }
def fnTypesRow : OpenClaim := { program := "ytkmedfejmndmjaagreat", sum := "1376c9e283e2808497061b897581336c8a91026b31c8c0906b48bfa5655dbce2", func := "loop.example/g00512/laws.FnTypes", spec := "fnTypes", unfollowed := true, recurses := true, apart := false }
def FnTypesSaid : Prop := fnTypesRow.holds Tryz.pinned (OpenSpec.ofChange fnTypesSpec)

/-- ITS FALSE NEIGHBOUR: 'it returns false'. Refute it at one input. -/
def fnTypesWrong : ChangeSpec := { name := "fnTypes", fn := fun _ => fun
  | [d] => { results := [.lit (.bool false)], args := [d] }
  | _ => none }
def FnTypesWrongFalsely : Prop := fnTypesRow.holds Tryz.pinned (OpenSpec.ofChange fnTypesWrong)

/-- 'laws.FnStaticGrammar': WHATEVER THE INPUT: true; the input reads as it did. -/
def fnStaticGrammarSpec : ChangeSpec := { name := "fnStaticGrammar", fn := fun _ => fun
  | [d] => { results := [.lit (.bool true)], args := [d] }
  | _ => none }
def fnStaticGrammarRow : OpenClaim := { program := "ytkmedfejmndmjaagreat", sum := "1376c9e283e2808497061b897581336c8a91026b31c8c0906b48bfa5655dbce2", func := "loop.example/g00512/laws.FnStaticGrammar", spec := "fnStaticGrammar", unfollowed := true, recurses := true, apart := false }
def FnStaticGrammarSaid : Prop := fnStaticGrammarRow.holds Tryz.pinned (OpenSpec.ofChange fnStaticGrammarSpec)

/-- ITS FALSE NEIGHBOUR: 'it returns false'. Refute it at one input. -/
def fnStaticGrammarWrong : ChangeSpec := { name := "fnStaticGrammar", fn := fun _ => fun
  | [d] => { results := [.lit (.bool false)], args := [d] }
  | _ => none }
def FnStaticGrammarWrongFalsely : Prop := fnStaticGrammarRow.holds Tryz.pinned (OpenSpec.ofChange fnStaticGrammarWrong)

/-- 'laws.FnStaticTypes': WHATEVER THE INPUT: true; the input reads as it did. -/
def fnStaticTypesSpec : ChangeSpec := { name := "fnStaticTypes", fn := fun _ => fun
  | [d] => { results := [.lit (.bool true)], args := [d] }
  | _ => none }
def fnStaticTypesRow : OpenClaim := { program := "ytkmedfejmndmjaagreat", sum := "1376c9e283e2808497061b897581336c8a91026b31c8c0906b48bfa5655dbce2", func := "loop.example/g00512/laws.FnStaticTypes", spec := "fnStaticTypes", unfollowed := true, recurses := true, apart := false }
def FnStaticTypesSaid : Prop := fnStaticTypesRow.holds Tryz.pinned (OpenSpec.ofChange fnStaticTypesSpec)

/-- ITS FALSE NEIGHBOUR: 'it returns false'. Refute it at one input. -/
def fnStaticTypesWrong : ChangeSpec := { name := "fnStaticTypes", fn := fun _ => fun
  | [d] => { results := [.lit (.bool false)], args := [d] }
  | _ => none }
def FnStaticTypesWrongFalsely : Prop := fnStaticTypesRow.holds Tryz.pinned (OpenSpec.ofChange fnStaticTypesWrong)

/- THE SECOND FORM. 'bulk': how many values and letters a reading holds, each counted each time it is reached (what is shared counts as often as it is met; a slice's spare places count too). A statement '..UptoSaid' is the law's where the arguments, and the package variables that the reading takes, are together of bulk at most 1048576: NARROWER than '..Said'. Prove '..Said' where nothing that the law and all that it calls make is longer than what came in: it says more and counts as full. Else prove '..UptoSaid'. A law counts once. -/
mutual
def uptoBulk {H : Type} : DataW H → Nat
  | .lit (.string bytes) => bytes.length + 1
  | .lit _ => 1
  | .nil => 1
  | .ptr d => uptoBulk d + 1
  | .slice elems spare => uptoBulkAll elems + uptoBulkAll spare + 1
  | .agg parts => uptoBulkAll parts + 1
  | .iface _ d => uptoBulk d + 1
  | .map entries => uptoBulkEntries entries + 1
  | .held _ => 1
def uptoBulkAll {H : Type} : List (DataW H) → Nat
  | [] => 0
  | d :: r => uptoBulk d + uptoBulkAll r
def uptoBulkEntries {H : Type} : List (Lit × DataW H) → Nat
  | [] => 0
  | x :: r => uptoBulkEntry x + uptoBulkEntries r
def uptoBulkEntry {H : Type} : Lit × DataW H → Nat
  | (.string bytes, d) => bytes.length + uptoBulk d + 1
  | (_, d) => uptoBulk d + 1
 end
def uptoSmall : (H : Type) → List (DataW H) → Bool := fun _ ds => decide (uptoBulkAll ds ≤ 1048576)
def OpenSpec.upto (s : _root_.Go.ChangeSpec) : _root_.Go.OpenSpec := { _root_.Go.OpenSpec.ofChange s with cond := some uptoSmall }

/-- 'laws.FnTypes', WHERE WHAT IT READS IS OF BULK AT MOST 1048576: true; the input reads as it did. -/
def fnTypesUptoRow : OpenClaim := { program := "ytkmedfejmndmjaagreat", sum := "1376c9e283e2808497061b897581336c8a91026b31c8c0906b48bfa5655dbce2", func := "loop.example/g00512/laws.FnTypes", spec := "fnTypes", unfollowed := true, recurses := true, apart := false, narrowed := true }
def FnTypesUptoSaid : Prop := fnTypesUptoRow.holds Tryz.pinned (OpenSpec.upto fnTypesSpec)

/-- 'laws.FnStaticGrammar', WHERE WHAT IT READS IS OF BULK AT MOST 1048576: true; the input reads as it did. -/
def fnStaticGrammarUptoRow : OpenClaim := { program := "ytkmedfejmndmjaagreat", sum := "1376c9e283e2808497061b897581336c8a91026b31c8c0906b48bfa5655dbce2", func := "loop.example/g00512/laws.FnStaticGrammar", spec := "fnStaticGrammar", unfollowed := true, recurses := true, apart := false, narrowed := true }
def FnStaticGrammarUptoSaid : Prop := fnStaticGrammarUptoRow.holds Tryz.pinned (OpenSpec.upto fnStaticGrammarSpec)

/-- 'laws.FnStaticTypes', WHERE WHAT IT READS IS OF BULK AT MOST 1048576: true; the input reads as it did. -/
def fnStaticTypesUptoRow : OpenClaim := { program := "ytkmedfejmndmjaagreat", sum := "1376c9e283e2808497061b897581336c8a91026b31c8c0906b48bfa5655dbce2", func := "loop.example/g00512/laws.FnStaticTypes", spec := "fnStaticTypes", unfollowed := true, recurses := true, apart := false, narrowed := true }
def FnStaticTypesUptoSaid : Prop := fnStaticTypesUptoRow.holds Tryz.pinned (OpenSpec.upto fnStaticTypesSpec)

end Rows
end Go.Proofs.YtkmedfejmndmjaaGreat
