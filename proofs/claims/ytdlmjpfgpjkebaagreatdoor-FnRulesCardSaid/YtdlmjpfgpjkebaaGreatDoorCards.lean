/-
  DERIVED. GIVEN WITH THE SEED: THE CARDS: each row of YtdlmjpfgpjkebaaGreatDoorRows.lean that lists a variable, with what it lists TIED to the program's text (the seventh form; the later family's looks); each row that meets fmt, with fmt's text TOLD by the authors' own Lean function (tested against real Go, not proved from fmt's source: count such statements apart). THE CARD IS WHAT COUNTS. Prove the row's statement (the work); the ties are given (YtdlmjpfgpjkebaaGreatDoorTie.lean); close each card by the builder's one call (the guide's Derived/Test/ToyasCard.lean, 'card_holds'). Laid BY PROGRAM, IN A SANDBOX (cutbox-door.mjs). By AI agents, Wed Nov 11 2026. No macro, syntax, notation, axiom, sorry.
-/
import Derived.Test.YtdlmjpfgpjkebaaGreatDoorRows
import GoSem.ClaimSeven
namespace Go.Proofs.YtdlmjpfgpjkebaaGreatDoor
namespace Rows

/-- THE TIED CARD OF 'laws.FnTreeText'. -/
def fnTreeTextCard : Claim7 := { stood := { row := fnTreeTextRow, standIns := [], harness := (true, "6f26caedd0119418a670373fb0e5f5ab1b1c7d6ac86d1a47ea2f02890c2d3b96"), looks := true }, kinds := [], alts := [], laidByText := true, laidKinds := [.data, .data, .data, .sentinel, .sentinel], laidTests := true, laidLooks := .later }
def FnTreeTextCardSaid : Prop := Claim7.holds Tryz.pinned (.plain (OpenSpec.ofChange fnTreeTextSpec)) fnTreeTextCard

/-- THE TIED CARD OF 'laws.FnRules'. -/
def fnRulesCard : Claim7 := { stood := { row := fnRulesRow, standIns := [], harness := (true, "6f26caedd0119418a670373fb0e5f5ab1b1c7d6ac86d1a47ea2f02890c2d3b96"), looks := true }, kinds := [], alts := [], laidByText := true, laidKinds := [.data, .data, .data, .data, .sentinel, .sentinel, .pinned], laidTests := true, laidLooks := .later }
def FnRulesCardSaid : Prop := Claim7.holds Tryz.pinned (.plain (OpenSpec.ofChange fnRulesSpec)) fnRulesCard

/-- THE TIED CARD OF 'laws.FnExactParseRule'. -/
def fnExactParseRuleCard : Claim7 := { stood := { row := fnExactParseRuleRow, standIns := [], harness := (true, "6f26caedd0119418a670373fb0e5f5ab1b1c7d6ac86d1a47ea2f02890c2d3b96"), looks := true }, kinds := [], alts := [], laidByText := true, laidKinds := [.data, .data, .data, .data, .sentinel, .sentinel, .pinned], laidTests := true, laidLooks := .later }
def FnExactParseRuleCardSaid : Prop := Claim7.holds Tryz.pinned (.plain (OpenSpec.ofChange fnExactParseRuleSpec)) fnExactParseRuleCard

/-- THE TIED CARD OF 'laws.FnGrammars'. -/
def fnGrammarsCard : Claim7 := { stood := { row := fnGrammarsRow, standIns := [], harness := (true, "6f26caedd0119418a670373fb0e5f5ab1b1c7d6ac86d1a47ea2f02890c2d3b96"), looks := true }, kinds := [], alts := [], laidByText := true, laidKinds := [.data, .data, .data, .data, .sentinel, .sentinel, .widerDeep, .widerDeep, .pinned], laidTests := true, laidLooks := .later }
def FnGrammarsCardSaid : Prop := Claim7.holds Tryz.pinned (.plain (OpenSpec.ofChange fnGrammarsSpec)) fnGrammarsCard

/-- THE TIED CARD OF 'laws.FnExactParseGrammar'. -/
def fnExactParseGrammarCard : Claim7 := { stood := { row := fnExactParseGrammarRow, standIns := [], harness := (true, "6f26caedd0119418a670373fb0e5f5ab1b1c7d6ac86d1a47ea2f02890c2d3b96"), looks := true }, kinds := [], alts := [], laidByText := true, laidKinds := [.data, .data, .data, .data, .sentinel, .sentinel, .widerDeep, .widerDeep, .pinned], laidTests := true, laidLooks := .later }
def FnExactParseGrammarCardSaid : Prop := Claim7.holds Tryz.pinned (.plain (OpenSpec.ofChange fnExactParseGrammarSpec)) fnExactParseGrammarCard

/-- THE SECOND FORM's CARD OF 'laws.FnTreeText'. -/
def fnTreeTextUptoCard : Claim7 := { stood := { row := fnTreeTextUptoRow, standIns := [], harness := (true, "6f26caedd0119418a670373fb0e5f5ab1b1c7d6ac86d1a47ea2f02890c2d3b96"), looks := true }, kinds := [], alts := [], laidByText := true, laidKinds := [.data, .data, .data, .sentinel, .sentinel], laidTests := true, laidLooks := .later }
def FnTreeTextUptoCardSaid : Prop := Claim7.holds Tryz.pinned (.plain (OpenSpec.upto fnTreeTextSpec)) fnTreeTextUptoCard

/-- THE SECOND FORM's CARD OF 'laws.FnRules'. -/
def fnRulesUptoCard : Claim7 := { stood := { row := fnRulesUptoRow, standIns := [], harness := (true, "6f26caedd0119418a670373fb0e5f5ab1b1c7d6ac86d1a47ea2f02890c2d3b96"), looks := true }, kinds := [], alts := [], laidByText := true, laidKinds := [.data, .data, .data, .data, .sentinel, .sentinel, .pinned], laidTests := true, laidLooks := .later }
def FnRulesUptoCardSaid : Prop := Claim7.holds Tryz.pinned (.plain (OpenSpec.upto fnRulesSpec)) fnRulesUptoCard

/-- THE SECOND FORM's CARD OF 'laws.FnExactParseRule'. -/
def fnExactParseRuleUptoCard : Claim7 := { stood := { row := fnExactParseRuleUptoRow, standIns := [], harness := (true, "6f26caedd0119418a670373fb0e5f5ab1b1c7d6ac86d1a47ea2f02890c2d3b96"), looks := true }, kinds := [], alts := [], laidByText := true, laidKinds := [.data, .data, .data, .data, .sentinel, .sentinel, .pinned], laidTests := true, laidLooks := .later }
def FnExactParseRuleUptoCardSaid : Prop := Claim7.holds Tryz.pinned (.plain (OpenSpec.upto fnExactParseRuleSpec)) fnExactParseRuleUptoCard

/-- THE SECOND FORM's CARD OF 'laws.FnGrammars'. -/
def fnGrammarsUptoCard : Claim7 := { stood := { row := fnGrammarsUptoRow, standIns := [], harness := (true, "6f26caedd0119418a670373fb0e5f5ab1b1c7d6ac86d1a47ea2f02890c2d3b96"), looks := true }, kinds := [], alts := [], laidByText := true, laidKinds := [.data, .data, .data, .data, .sentinel, .sentinel, .widerDeep, .widerDeep, .pinned], laidTests := true, laidLooks := .later }
def FnGrammarsUptoCardSaid : Prop := Claim7.holds Tryz.pinned (.plain (OpenSpec.upto fnGrammarsSpec)) fnGrammarsUptoCard

/-- THE SECOND FORM's CARD OF 'laws.FnExactParseGrammar'. -/
def fnExactParseGrammarUptoCard : Claim7 := { stood := { row := fnExactParseGrammarUptoRow, standIns := [], harness := (true, "6f26caedd0119418a670373fb0e5f5ab1b1c7d6ac86d1a47ea2f02890c2d3b96"), looks := true }, kinds := [], alts := [], laidByText := true, laidKinds := [.data, .data, .data, .data, .sentinel, .sentinel, .widerDeep, .widerDeep, .pinned], laidTests := true, laidLooks := .later }
def FnExactParseGrammarUptoCardSaid : Prop := Claim7.holds Tryz.pinned (.plain (OpenSpec.upto fnExactParseGrammarSpec)) fnExactParseGrammarUptoCard
end Rows
end Go.Proofs.YtdlmjpfgpjkebaaGreatDoor
