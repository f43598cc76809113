/-
  DERIVED. GIVEN WITH THE SEED: THE CARDS: each row of YtmdfoigdflaliabGreatDoorRows.lean that lists a variable, with what it lists TIED to the program's text (the seventh form; the later family's looks); each row that meets fmt, with fmt's text TOLD by the authors' own Lean function (tested against real Go, not proved from fmt's source: count such statements apart). THE CARD IS WHAT COUNTS. Prove the row's statement (the work); the ties are given (YtmdfoigdflaliabGreatDoorTie.lean); close each card by the builder's one call (the guide's Derived/Test/ToyasCard.lean, 'card_holds'). Laid BY PROGRAM, IN A SANDBOX (cutbox-door.mjs). By AI agents, Wed Nov 11 2026. No macro, syntax, notation, axiom, sorry.
-/
import Derived.Test.YtmdfoigdflaliabGreatDoorRows
import GoSem.ClaimSeven
namespace Go.Proofs.YtmdfoigdflaliabGreatDoor
namespace Rows

/-- THE TIED CARD OF 'laws.FnExactParseGrammar'. -/
def fnExactParseGrammarCard : Claim7 := { stood := { row := fnExactParseGrammarRow, standIns := [], harness := (true, "97fa5116862618522e86c79ce13c5defcd13479b58f54257f202a695f4636929"), looks := true }, kinds := [], alts := [], laidByText := true, laidKinds := [.data, .data, .data, .data, .sentinel, .sentinel, .widerDeep, .widerDeep, .pinned], laidTests := true, laidLooks := .later }
def FnExactParseGrammarCardSaid : Prop := Claim7.holds Tryz.pinned (.plain (OpenSpec.ofChange fnExactParseGrammarSpec)) fnExactParseGrammarCard

/-- THE SECOND FORM's CARD OF 'laws.FnExactParseGrammar'. -/
def fnExactParseGrammarUptoCard : Claim7 := { stood := { row := fnExactParseGrammarUptoRow, standIns := [], harness := (true, "97fa5116862618522e86c79ce13c5defcd13479b58f54257f202a695f4636929"), looks := true }, kinds := [], alts := [], laidByText := true, laidKinds := [.data, .data, .data, .data, .sentinel, .sentinel, .widerDeep, .widerDeep, .pinned], laidTests := true, laidLooks := .later }
def FnExactParseGrammarUptoCardSaid : Prop := Claim7.holds Tryz.pinned (.plain (OpenSpec.upto fnExactParseGrammarSpec)) fnExactParseGrammarUptoCard
end Rows
end Go.Proofs.YtmdfoigdflaliabGreatDoor
