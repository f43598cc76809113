/-
  DERIVED. GIVEN WITH THE SEED: THE CARDS: each row of YtcegkonjphbfaaaGreatDoorRows.lean that lists a variable, with what it lists TIED to the program's text (the seventh form; the later family's looks); each row that meets fmt, with fmt's text TOLD by the authors' own Lean function (tested against real Go, not proved from fmt's source: count such statements apart). THE CARD IS WHAT COUNTS. Prove the row's statement (the work); the ties are given (YtcegkonjphbfaaaGreatDoorTie.lean); close each card by the builder's one call (the guide's Derived/Test/ToyasCard.lean, 'card_holds'). Laid BY PROGRAM, IN A SANDBOX (cutbox-door.mjs). By AI agents, Wed Nov 11 2026. No macro, syntax, notation, axiom, sorry.
-/
import Derived.Test.YtcegkonjphbfaaaGreatDoorRows
import GoSem.ClaimSeven
namespace Go.Proofs.YtcegkonjphbfaaaGreatDoor
namespace Rows

/-- THE TIED CARD OF 'laws.FnRules'. -/
def fnRulesCard : Claim7 := { stood := { row := fnRulesRow, standIns := [], harness := (true, "bc8e9a3875b5c151c39d3e0d44995010b132a4f0b13d8956d7e3e670d95eb376"), looks := true }, kinds := [], alts := [], laidByText := true, laidKinds := [.data, .data, .data, .data, .sentinel, .sentinel, .pinned], laidTests := true, laidLooks := .later }
def FnRulesCardSaid : Prop := Claim7.holds Tryz.pinned (.plain (OpenSpec.ofChange fnRulesSpec)) fnRulesCard

/-- THE TIED CARD OF 'laws.FnExactParseRule'. -/
def fnExactParseRuleCard : Claim7 := { stood := { row := fnExactParseRuleRow, standIns := [], harness := (true, "bc8e9a3875b5c151c39d3e0d44995010b132a4f0b13d8956d7e3e670d95eb376"), looks := true }, kinds := [], alts := [], laidByText := true, laidKinds := [.data, .data, .data, .data, .sentinel, .sentinel, .pinned], laidTests := true, laidLooks := .later }
def FnExactParseRuleCardSaid : Prop := Claim7.holds Tryz.pinned (.plain (OpenSpec.ofChange fnExactParseRuleSpec)) fnExactParseRuleCard

/-- THE SECOND FORM's CARD OF 'laws.FnRules'. -/
def fnRulesUptoCard : Claim7 := { stood := { row := fnRulesUptoRow, standIns := [], harness := (true, "bc8e9a3875b5c151c39d3e0d44995010b132a4f0b13d8956d7e3e670d95eb376"), looks := true }, kinds := [], alts := [], laidByText := true, laidKinds := [.data, .data, .data, .data, .sentinel, .sentinel, .pinned], laidTests := true, laidLooks := .later }
def FnRulesUptoCardSaid : Prop := Claim7.holds Tryz.pinned (.plain (OpenSpec.upto fnRulesSpec)) fnRulesUptoCard

/-- THE SECOND FORM's CARD OF 'laws.FnExactParseRule'. -/
def fnExactParseRuleUptoCard : Claim7 := { stood := { row := fnExactParseRuleUptoRow, standIns := [], harness := (true, "bc8e9a3875b5c151c39d3e0d44995010b132a4f0b13d8956d7e3e670d95eb376"), looks := true }, kinds := [], alts := [], laidByText := true, laidKinds := [.data, .data, .data, .data, .sentinel, .sentinel, .pinned], laidTests := true, laidLooks := .later }
def FnExactParseRuleUptoCardSaid : Prop := Claim7.holds Tryz.pinned (.plain (OpenSpec.upto fnExactParseRuleSpec)) fnExactParseRuleUptoCard
end Rows
end Go.Proofs.YtcegkonjphbfaaaGreatDoor
