/-
  DERIVED. GIVEN WITH THE SEED: THE CARDS: each row of YtlmeijlandogaaaGreatDoorRows.lean that lists a variable, with what it lists TIED to the program's text (the seventh form; the later family's looks); each row that meets fmt, with fmt's text TOLD by the authors' own Lean function (tested against real Go, not proved from fmt's source: count such statements apart). THE CARD IS WHAT COUNTS. Prove the row's statement (the work); the ties are given (YtlmeijlandogaaaGreatDoorTie.lean); close each card by the builder's one call (the guide's Derived/Test/ToyasCard.lean, 'card_holds'). Laid BY PROGRAM, IN A SANDBOX (cutbox-door.mjs). By AI agents, Wed Nov 11 2026. No macro, syntax, notation, axiom, sorry.
-/
import Derived.Test.YtlmeijlandogaaaGreatDoorRows
import GoSem.ClaimSeven
namespace Go.Proofs.YtlmeijlandogaaaGreatDoor
namespace Rows

/-- THE TIED CARD OF 'laws.FnExactReadMelody'. -/
def fnExactReadMelodyCard : Claim7 := { stood := { row := fnExactReadMelodyRow, standIns := [], harness := (true, "e8c436ce4682159012a467198a20d384ea395fb02f09ad0d339cf14551ad64e3"), looks := true }, kinds := [], alts := [], laidByText := true, laidKinds := [.data, .data, .data, .data, .sentinel, .sentinel, .pinned], laidTests := true, laidLooks := .later }
def FnExactReadMelodyCardSaid : Prop := Claim7.holds Tryz.pinned (.plain (OpenSpec.ofChange fnExactReadMelodySpec)) fnExactReadMelodyCard

/-- THE SECOND FORM's CARD OF 'laws.FnExactReadMelody'. -/
def fnExactReadMelodyUptoCard : Claim7 := { stood := { row := fnExactReadMelodyUptoRow, standIns := [], harness := (true, "e8c436ce4682159012a467198a20d384ea395fb02f09ad0d339cf14551ad64e3"), looks := true }, kinds := [], alts := [], laidByText := true, laidKinds := [.data, .data, .data, .data, .sentinel, .sentinel, .pinned], laidTests := true, laidLooks := .later }
def FnExactReadMelodyUptoCardSaid : Prop := Claim7.holds Tryz.pinned (.plain (OpenSpec.upto fnExactReadMelodySpec)) fnExactReadMelodyUptoCard
end Rows
end Go.Proofs.YtlmeijlandogaaaGreatDoor
