/-
  DERIVED. GIVEN WITH THE SEED: THE CARDS: each row of YtbdmpkidcpblaaaDoorRows.lean that lists a variable, with what it lists TIED to the program's text (the seventh form; the later family's looks); each row that meets fmt, with fmt's text TOLD by the authors' own Lean function (tested against real Go, not proved from fmt's source: count such statements apart). THE CARD IS WHAT COUNTS. Prove the row's statement (the work); the ties are given (YtbdmpkidcpblaaaDoorTie.lean); close each card by the builder's one call (the guide's Derived/Test/ToyasCard.lean, 'card_holds'). Laid BY PROGRAM, IN A SANDBOX (cutbox-door.mjs). By AI agents, Wed Nov 11 2026. No macro, syntax, notation, axiom, sorry.
-/
import Derived.Test.YtbdmpkidcpblaaaDoorRows
import GoSem.ClaimSeven
namespace Go.Proofs.YtbdmpkidcpblaaaDoor
namespace Rows

/-- THE TIED CARD OF 'laws.FnExactFormatInstance'. -/
def fnExactFormatInstanceCard : Claim7 := { stood := { row := fnExactFormatInstanceRow, standIns := [], harness := (true, "ff0b82cfbddd927d6efe3a5b7a7d869abeab3092ee1b6ab0547b8f26809bb6a0"), looks := false }, kinds := [], alts := [], laidByText := true, laidKinds := [.data, .data, .data], laidTests := true, laidLooks := .later }
def FnExactFormatInstanceCardSaid : Prop := Claim7.holds Tryd.pinned (.plain (OpenSpec.ofChange fnExactFormatInstanceSpec)) fnExactFormatInstanceCard

/-- THE SECOND FORM's CARD OF 'laws.FnExactFormatInstance'. -/
def fnExactFormatInstanceUptoCard : Claim7 := { stood := { row := fnExactFormatInstanceUptoRow, standIns := [], harness := (true, "ff0b82cfbddd927d6efe3a5b7a7d869abeab3092ee1b6ab0547b8f26809bb6a0"), looks := false }, kinds := [], alts := [], laidByText := true, laidKinds := [.data, .data, .data], laidTests := true, laidLooks := .later }
def FnExactFormatInstanceUptoCardSaid : Prop := Claim7.holds Tryd.pinned (.plain (OpenSpec.upto fnExactFormatInstanceSpec)) fnExactFormatInstanceUptoCard
end Rows
end Go.Proofs.YtbdmpkidcpblaaaDoor
