/-
  NARROWER THAN 'FOR EVERY INPUT', by the rows' own cells (each row's printed sentence says how): FnExactTreeCycle: loops · FnExactCheckGrammar: loops · FnExactIsStatic: loops · FnExactIsSolution: loops.
  DERIVED. THE GIVEN ROWS OF THIS SEAT. 4 by the template 'for every input the law returns true; each argument reads behind the call as it read before'; 0 by the template 'total and deterministic' (their statements: YtbdmpkidcpblaaaGreatTotals.lean).
  GIVEN WITH THE SEED: the statements are not yours to turn. If you find one false, say at which input.
  Laid BY PROGRAM, IN A SANDBOX (cutbox-rows.mjs): the forced cells as the released guide's own fill.sh prints them over the translation b45567de0604293a… (all of the seat's roots in one cut). By AI agents, Wed Nov 11 2026. No macro, syntax, notation, axiom, sorry.
-/
import Derived.Test.YtbdmpkidcpblaaaGreatChecked
import GoSem.Claim
import GoSem.ClaimJoined
import GoSem.ClaimMapViews
import Derived.JoinedTies
import Derived.KernelRfl
namespace Go.Proofs.YtbdmpkidcpblaaaGreat
/- THE CELL 'sum', in the pinned program and in every row, IS THE sha256 OF THE DUMP (.gsa) THAT YtbdmpkidcpblaaaGreatProg.lean LOADS. Nothing in Lean hashes anything: it is a label: what it is worth is what the hold of that sum in a sandbox is worth. -/
noncomputable def Tryz.pinned : Pinned := { name := "ytbdmpkidcpblaaagreat", sum := "b45567de0604293a9b43d336af78450bb851fe9c0fea8d3e7303bc9dc6f3a63e", checked := Tryz.checked }
namespace Rows
def none {H : Type} : Left H := { results := [], args := [] }

/-- 'laws.FnExactTreeCycle': WHATEVER THE INPUT: true; the input reads as it did. -/
def fnExactTreeCycleSpec : ChangeSpec := { name := "fnExactTreeCycle", fn := fun _ => fun
  | [d1, d2] => { results := [.lit (.bool true)], args := [d1, d2] }
  | _ => none }
def fnExactTreeCycleRow : OpenClaim := { program := "ytbdmpkidcpblaaagreat", sum := "b45567de0604293a9b43d336af78450bb851fe9c0fea8d3e7303bc9dc6f3a63e", func := "loop.example/g00512/laws.FnExactTreeCycle", spec := "fnExactTreeCycle", unfollowed := true, recurses := true, loops := true, apart := false }
def FnExactTreeCycleSaid : Prop := fnExactTreeCycleRow.holds Tryz.pinned (OpenSpec.ofChange fnExactTreeCycleSpec)

/-- ITS FALSE NEIGHBOUR: 'it returns false'. Refute it at one input. -/
def fnExactTreeCycleWrong : ChangeSpec := { name := "fnExactTreeCycle", fn := fun _ => fun
  | [d1, d2] => { results := [.lit (.bool false)], args := [d1, d2] }
  | _ => none }
def FnExactTreeCycleWrongFalsely : Prop := fnExactTreeCycleRow.holds Tryz.pinned (OpenSpec.ofChange fnExactTreeCycleWrong)

/-- 'laws.FnExactCheckGrammar': WHATEVER THE INPUT: true; the input reads as it did. -/
def fnExactCheckGrammarSpec : ChangeSpec := { name := "fnExactCheckGrammar", fn := fun _ => fun
  | [d] => { results := [.lit (.bool true)], args := [d] }
  | _ => none }
def fnExactCheckGrammarRow : OpenClaim := { program := "ytbdmpkidcpblaaagreat", sum := "b45567de0604293a9b43d336af78450bb851fe9c0fea8d3e7303bc9dc6f3a63e", func := "loop.example/g00512/laws.FnExactCheckGrammar", spec := "fnExactCheckGrammar", unfollowed := true, recurses := true, loops := true, apart := false }
def FnExactCheckGrammarSaid : Prop := fnExactCheckGrammarRow.holds Tryz.pinned (OpenSpec.ofChange fnExactCheckGrammarSpec)

/-- ITS FALSE NEIGHBOUR: 'it returns false'. Refute it at one input. -/
def fnExactCheckGrammarWrong : ChangeSpec := { name := "fnExactCheckGrammar", fn := fun _ => fun
  | [d] => { results := [.lit (.bool false)], args := [d] }
  | _ => none }
def FnExactCheckGrammarWrongFalsely : Prop := fnExactCheckGrammarRow.holds Tryz.pinned (OpenSpec.ofChange fnExactCheckGrammarWrong)

/-- 'laws.FnExactIsStatic': WHATEVER THE INPUT: true; the input reads as it did. -/
def fnExactIsStaticSpec : ChangeSpec := { name := "fnExactIsStatic", fn := fun _ => fun
  | [d] => { results := [.lit (.bool true)], args := [d] }
  | _ => none }
def fnExactIsStaticRow : OpenClaim := { program := "ytbdmpkidcpblaaagreat", sum := "b45567de0604293a9b43d336af78450bb851fe9c0fea8d3e7303bc9dc6f3a63e", func := "loop.example/g00512/laws.FnExactIsStatic", spec := "fnExactIsStatic", unfollowed := true, recurses := true, loops := true, apart := false }
def FnExactIsStaticSaid : Prop := fnExactIsStaticRow.holds Tryz.pinned (OpenSpec.ofChange fnExactIsStaticSpec)

/-- ITS FALSE NEIGHBOUR: 'it returns false'. Refute it at one input. -/
def fnExactIsStaticWrong : ChangeSpec := { name := "fnExactIsStatic", fn := fun _ => fun
  | [d] => { results := [.lit (.bool false)], args := [d] }
  | _ => none }
def FnExactIsStaticWrongFalsely : Prop := fnExactIsStaticRow.holds Tryz.pinned (OpenSpec.ofChange fnExactIsStaticWrong)

/-- 'laws.FnExactIsSolution': WHATEVER THE INPUT: true; the input reads as it did. -/
def fnExactIsSolutionSpec : ChangeSpec := { name := "fnExactIsSolution", fn := fun _ => fun
  | [d1, d2, d3] => { results := [.lit (.bool true)], args := [d1, d2, d3] }
  | _ => none }
def fnExactIsSolutionRow : OpenClaim := { program := "ytbdmpkidcpblaaagreat", sum := "b45567de0604293a9b43d336af78450bb851fe9c0fea8d3e7303bc9dc6f3a63e", func := "loop.example/g00512/laws.FnExactIsSolution", spec := "fnExactIsSolution", unfollowed := true, recurses := true, loops := true, apart := false }
def FnExactIsSolutionSaid : Prop := fnExactIsSolutionRow.holds Tryz.pinned (OpenSpec.ofChange fnExactIsSolutionSpec)

/-- ITS FALSE NEIGHBOUR: 'it returns false'. Refute it at one input. -/
def fnExactIsSolutionWrong : ChangeSpec := { name := "fnExactIsSolution", fn := fun _ => fun
  | [d1, d2, d3] => { results := [.lit (.bool false)], args := [d1, d2, d3] }
  | _ => none }
def FnExactIsSolutionWrongFalsely : Prop := fnExactIsSolutionRow.holds Tryz.pinned (OpenSpec.ofChange fnExactIsSolutionWrong)

/- THE SECOND FORM. 'bulk': how many values and letters a reading holds, each counted each time it is reached (what is shared counts as often as it is met; a slice's spare places count too). A statement '..UptoSaid' is the law's where the arguments, and the package variables that the reading takes, are together of bulk at most 1048576: NARROWER than '..Said'. Prove '..Said' where nothing that the law and all that it calls make is longer than what came in: it says more and counts as full. Else prove '..UptoSaid'. A law counts once. -/
mutual
def uptoBulk {H : Type} : DataW H → Nat
  | .lit (.string bytes) => bytes.length + 1
  | .lit _ => 1
  | .nil => 1
  | .ptr d => uptoBulk d + 1
  | .slice elems spare => uptoBulkAll elems + uptoBulkAll spare + 1
  | .agg parts => uptoBulkAll parts + 1
  | .iface _ d => uptoBulk d + 1
  | .map entries => uptoBulkEntries entries + 1
  | .held _ => 1
def uptoBulkAll {H : Type} : List (DataW H) → Nat
  | [] => 0
  | d :: r => uptoBulk d + uptoBulkAll r
def uptoBulkEntries {H : Type} : List (Lit × DataW H) → Nat
  | [] => 0
  | x :: r => uptoBulkEntry x + uptoBulkEntries r
def uptoBulkEntry {H : Type} : Lit × DataW H → Nat
  | (.string bytes, d) => bytes.length + uptoBulk d + 1
  | (_, d) => uptoBulk d + 1
 end
def uptoSmall : (H : Type) → List (DataW H) → Bool := fun _ ds => decide (uptoBulkAll ds ≤ 1048576)
def OpenSpec.upto (s : _root_.Go.ChangeSpec) : _root_.Go.OpenSpec := { _root_.Go.OpenSpec.ofChange s with cond := some uptoSmall }

/-- 'laws.FnExactTreeCycle', WHERE WHAT IT READS IS OF BULK AT MOST 1048576: true; the input reads as it did. -/
def fnExactTreeCycleUptoRow : OpenClaim := { program := "ytbdmpkidcpblaaagreat", sum := "b45567de0604293a9b43d336af78450bb851fe9c0fea8d3e7303bc9dc6f3a63e", func := "loop.example/g00512/laws.FnExactTreeCycle", spec := "fnExactTreeCycle", unfollowed := true, recurses := true, loops := true, apart := false, narrowed := true }
def FnExactTreeCycleUptoSaid : Prop := fnExactTreeCycleUptoRow.holds Tryz.pinned (OpenSpec.upto fnExactTreeCycleSpec)

/-- 'laws.FnExactCheckGrammar', WHERE WHAT IT READS IS OF BULK AT MOST 1048576: true; the input reads as it did. -/
def fnExactCheckGrammarUptoRow : OpenClaim := { program := "ytbdmpkidcpblaaagreat", sum := "b45567de0604293a9b43d336af78450bb851fe9c0fea8d3e7303bc9dc6f3a63e", func := "loop.example/g00512/laws.FnExactCheckGrammar", spec := "fnExactCheckGrammar", unfollowed := true, recurses := true, loops := true, apart := false, narrowed := true }
def FnExactCheckGrammarUptoSaid : Prop := fnExactCheckGrammarUptoRow.holds Tryz.pinned (OpenSpec.upto fnExactCheckGrammarSpec)

/-- 'laws.FnExactIsStatic', WHERE WHAT IT READS IS OF BULK AT MOST 1048576: true; the input reads as it did. -/
def fnExactIsStaticUptoRow : OpenClaim := { program := "ytbdmpkidcpblaaagreat", sum := "b45567de0604293a9b43d336af78450bb851fe9c0fea8d3e7303bc9dc6f3a63e", func := "loop.example/g00512/laws.FnExactIsStatic", spec := "fnExactIsStatic", unfollowed := true, recurses := true, loops := true, apart := false, narrowed := true }
def FnExactIsStaticUptoSaid : Prop := fnExactIsStaticUptoRow.holds Tryz.pinned (OpenSpec.upto fnExactIsStaticSpec)

/-- 'laws.FnExactIsSolution', WHERE WHAT IT READS IS OF BULK AT MOST 1048576: true; the input reads as it did. -/
def fnExactIsSolutionUptoRow : OpenClaim := { program := "ytbdmpkidcpblaaagreat", sum := "b45567de0604293a9b43d336af78450bb851fe9c0fea8d3e7303bc9dc6f3a63e", func := "loop.example/g00512/laws.FnExactIsSolution", spec := "fnExactIsSolution", unfollowed := true, recurses := true, loops := true, apart := false, narrowed := true }
def FnExactIsSolutionUptoSaid : Prop := fnExactIsSolutionUptoRow.holds Tryz.pinned (OpenSpec.upto fnExactIsSolutionSpec)

end Rows
end Go.Proofs.YtbdmpkidcpblaaaGreat
