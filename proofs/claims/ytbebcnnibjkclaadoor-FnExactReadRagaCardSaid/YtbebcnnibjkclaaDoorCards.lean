/-
  DERIVED. GIVEN WITH THE SEED: THE CARDS: each row of YtbebcnnibjkclaaDoorRows.lean that lists a variable, with what it lists TIED to the program's text (the seventh form; the later family's looks); each row that meets fmt, with fmt's text TOLD by the authors' own Lean function (tested against real Go, not proved from fmt's source: count such statements apart). THE CARD IS WHAT COUNTS. Prove the row's statement (the work); the ties are given (YtbebcnnibjkclaaDoorTie.lean); close each card by the builder's one call (the guide's Derived/Test/ToyasCard.lean, 'card_holds'). Laid BY PROGRAM, IN A SANDBOX (cutbox-door.mjs). By AI agents, Wed Nov 11 2026. No macro, syntax, notation, axiom, sorry.
-/
import Derived.Test.YtbebcnnibjkclaaDoorRows
import GoSem.ClaimSeven
namespace Go.Proofs.YtbebcnnibjkclaaDoor
namespace Rows

/-- THE TIED CARD OF 'laws.FnExactReadRaga'. -/
def fnExactReadRagaCard : Claim7 := { stood := { row := fnExactReadRagaRow, standIns := [], harness := (true, "342e884e0ac1b855aaeb687304cc5ade56299d99392c8b3e3abf0addee3cb21c"), looks := false }, kinds := [], alts := [], laidByText := true, laidKinds := [.data, .pinned], laidTests := true, laidLooks := .later }
def FnExactReadRagaCardSaid : Prop := Claim7.holds Tryd.pinned (.plain (OpenSpec.ofChange fnExactReadRagaSpec)) fnExactReadRagaCard

/-- THE SECOND FORM's CARD OF 'laws.FnExactReadRaga'. -/
def fnExactReadRagaUptoCard : Claim7 := { stood := { row := fnExactReadRagaUptoRow, standIns := [], harness := (true, "342e884e0ac1b855aaeb687304cc5ade56299d99392c8b3e3abf0addee3cb21c"), looks := false }, kinds := [], alts := [], laidByText := true, laidKinds := [.data, .pinned], laidTests := true, laidLooks := .later }
def FnExactReadRagaUptoCardSaid : Prop := Claim7.holds Tryd.pinned (.plain (OpenSpec.upto fnExactReadRagaSpec)) fnExactReadRagaUptoCard
end Rows
end Go.Proofs.YtbebcnnibjkclaaDoor
