/-
  DERIVED. GIVEN WITH THE SEED: THE CARDS: each row of YteljnbhbpidjpaaDoorRows.lean that lists a variable, with what it lists TIED to the program's text (the seventh form; the later family's looks); each row that meets fmt, with fmt's text TOLD by the authors' own Lean function (tested against real Go, not proved from fmt's source: count such statements apart). THE CARD IS WHAT COUNTS. Prove the row's statement (the work); the ties are given (YteljnbhbpidjpaaDoorTie.lean); close each card by the builder's one call (the guide's Derived/Test/ToyasCard.lean, 'card_holds'). Laid BY PROGRAM, IN A SANDBOX (cutbox-door.mjs). By AI agents, Wed Nov 11 2026. No macro, syntax, notation, axiom, sorry.
-/
import Derived.Test.YteljnbhbpidjpaaDoorRows
import GoSem.ClaimSeven
namespace Go.Proofs.YteljnbhbpidjpaaDoor
namespace Rows

/-- THE TIED CARD OF 'laws.FnExactCoveredBy'. -/
def fnExactCoveredByCard : Claim7 := { stood := { row := fnExactCoveredByRow, standIns := [], harness := (true, "f785f35d2f188ba9c4111f64d3c305c34e93a0119a523e9b1ad72e6cd439601f"), looks := false }, kinds := [], alts := [], laidByText := true, laidKinds := [.data], laidTests := true, laidLooks := .later }
def FnExactCoveredByCardSaid : Prop := Claim7.holds Tryd.pinned (.plain (OpenSpec.ofChange fnExactCoveredBySpec)) fnExactCoveredByCard

/-- THE SECOND FORM's CARD OF 'laws.FnExactCoveredBy'. -/
def fnExactCoveredByUptoCard : Claim7 := { stood := { row := fnExactCoveredByUptoRow, standIns := [], harness := (true, "f785f35d2f188ba9c4111f64d3c305c34e93a0119a523e9b1ad72e6cd439601f"), looks := false }, kinds := [], alts := [], laidByText := true, laidKinds := [.data], laidTests := true, laidLooks := .later }
def FnExactCoveredByUptoCardSaid : Prop := Claim7.holds Tryd.pinned (.plain (OpenSpec.upto fnExactCoveredBySpec)) fnExactCoveredByUptoCard
end Rows
end Go.Proofs.YteljnbhbpidjpaaDoor
