/-
  DERIVED. GIVEN WITH THE SEED: THE CARDS: each row of YtlmeijlandogaaaDoorRows.lean that lists a variable, with what it lists TIED to the program's text (the seventh form; the later family's looks); each row that meets fmt, with fmt's text TOLD by the authors' own Lean function (tested against real Go, not proved from fmt's source: count such statements apart). THE CARD IS WHAT COUNTS. Prove the row's statement (the work); the ties are given (YtlmeijlandogaaaDoorTie.lean); close each card by the builder's one call (the guide's Derived/Test/ToyasCard.lean, 'card_holds'). Laid BY PROGRAM, IN A SANDBOX (cutbox-door.mjs). By AI agents, Wed Nov 11 2026. No macro, syntax, notation, axiom, sorry.
-/
import Derived.Test.YtlmeijlandogaaaDoorRows
import GoSem.ClaimSeven
namespace Go.Proofs.YtlmeijlandogaaaDoor
namespace Rows

/-- THE TIED CARD OF 'laws.FnExactReadPhrases'. -/
def fnExactReadPhrasesCard : Claim7 := { stood := { row := fnExactReadPhrasesRow, standIns := [], harness := (true, "1cabd1c76d35726f39e68fc6fc19b71eb8aa1845285ddc25a04705d654519920"), looks := true }, kinds := [], alts := [], laidByText := true, laidKinds := [.data, .data, .data, .data, .sentinel, .sentinel, .pinned], laidTests := true, laidLooks := .later }
def FnExactReadPhrasesCardSaid : Prop := Claim7.holds Tryd.pinned (.plain (OpenSpec.ofChange fnExactReadPhrasesSpec)) fnExactReadPhrasesCard

/-- THE TIED CARD OF 'laws.FnExactReadGrammar'. -/
def fnExactReadGrammarCard : Claim7 := { stood := { row := fnExactReadGrammarRow, standIns := [], harness := (true, "1cabd1c76d35726f39e68fc6fc19b71eb8aa1845285ddc25a04705d654519920"), looks := true }, kinds := [], alts := [], laidByText := true, laidKinds := [.data, .data, .data, .data, .sentinel, .sentinel, .pinned], laidTests := true, laidLooks := .later }
def FnExactReadGrammarCardSaid : Prop := Claim7.holds Tryd.pinned (.plain (OpenSpec.ofChange fnExactReadGrammarSpec)) fnExactReadGrammarCard

/-- THE TIED CARD OF 'laws.FnExactGrammarText'. -/
def fnExactGrammarTextCard : Claim7 := { stood := { row := fnExactGrammarTextRow, standIns := [], harness := (true, "1cabd1c76d35726f39e68fc6fc19b71eb8aa1845285ddc25a04705d654519920"), looks := true }, kinds := [], alts := [], laidByText := true, laidKinds := [.data, .data, .data], laidTests := true, laidLooks := .later }
def FnExactGrammarTextCardSaid : Prop := Claim7.holds Tryd.pinned (.plain (OpenSpec.ofChange fnExactGrammarTextSpec)) fnExactGrammarTextCard

/-- THE TIED CARD OF 'laws.FnExactReadRaga'. -/
def fnExactReadRagaCard : Claim7 := { stood := { row := fnExactReadRagaRow, standIns := [], harness := (true, "1cabd1c76d35726f39e68fc6fc19b71eb8aa1845285ddc25a04705d654519920"), looks := true }, kinds := [], alts := [], laidByText := true, laidKinds := [.data, .pinned], laidTests := true, laidLooks := .later }
def FnExactReadRagaCardSaid : Prop := Claim7.holds Tryd.pinned (.plain (OpenSpec.ofChange fnExactReadRagaSpec)) fnExactReadRagaCard

/-- THE TIED CARD OF 'laws.FnExactReadItem'. -/
def fnExactReadItemCard : Claim7 := { stood := { row := fnExactReadItemRow, standIns := [], harness := (true, "1cabd1c76d35726f39e68fc6fc19b71eb8aa1845285ddc25a04705d654519920"), looks := true }, kinds := [], alts := [], laidByText := true, laidKinds := [.data, .data, .data, .data, .sentinel, .sentinel, .pinned], laidTests := true, laidLooks := .later }
def FnExactReadItemCardSaid : Prop := Claim7.holds Tryd.pinned (.plain (OpenSpec.ofChange fnExactReadItemSpec)) fnExactReadItemCard

/-- THE SECOND FORM's CARD OF 'laws.FnExactReadPhrases'. -/
def fnExactReadPhrasesUptoCard : Claim7 := { stood := { row := fnExactReadPhrasesUptoRow, standIns := [], harness := (true, "1cabd1c76d35726f39e68fc6fc19b71eb8aa1845285ddc25a04705d654519920"), looks := true }, kinds := [], alts := [], laidByText := true, laidKinds := [.data, .data, .data, .data, .sentinel, .sentinel, .pinned], laidTests := true, laidLooks := .later }
def FnExactReadPhrasesUptoCardSaid : Prop := Claim7.holds Tryd.pinned (.plain (OpenSpec.upto fnExactReadPhrasesSpec)) fnExactReadPhrasesUptoCard

/-- THE SECOND FORM's CARD OF 'laws.FnExactReadGrammar'. -/
def fnExactReadGrammarUptoCard : Claim7 := { stood := { row := fnExactReadGrammarUptoRow, standIns := [], harness := (true, "1cabd1c76d35726f39e68fc6fc19b71eb8aa1845285ddc25a04705d654519920"), looks := true }, kinds := [], alts := [], laidByText := true, laidKinds := [.data, .data, .data, .data, .sentinel, .sentinel, .pinned], laidTests := true, laidLooks := .later }
def FnExactReadGrammarUptoCardSaid : Prop := Claim7.holds Tryd.pinned (.plain (OpenSpec.upto fnExactReadGrammarSpec)) fnExactReadGrammarUptoCard

/-- THE SECOND FORM's CARD OF 'laws.FnExactGrammarText'. -/
def fnExactGrammarTextUptoCard : Claim7 := { stood := { row := fnExactGrammarTextUptoRow, standIns := [], harness := (true, "1cabd1c76d35726f39e68fc6fc19b71eb8aa1845285ddc25a04705d654519920"), looks := true }, kinds := [], alts := [], laidByText := true, laidKinds := [.data, .data, .data], laidTests := true, laidLooks := .later }
def FnExactGrammarTextUptoCardSaid : Prop := Claim7.holds Tryd.pinned (.plain (OpenSpec.upto fnExactGrammarTextSpec)) fnExactGrammarTextUptoCard

/-- THE SECOND FORM's CARD OF 'laws.FnExactReadRaga'. -/
def fnExactReadRagaUptoCard : Claim7 := { stood := { row := fnExactReadRagaUptoRow, standIns := [], harness := (true, "1cabd1c76d35726f39e68fc6fc19b71eb8aa1845285ddc25a04705d654519920"), looks := true }, kinds := [], alts := [], laidByText := true, laidKinds := [.data, .pinned], laidTests := true, laidLooks := .later }
def FnExactReadRagaUptoCardSaid : Prop := Claim7.holds Tryd.pinned (.plain (OpenSpec.upto fnExactReadRagaSpec)) fnExactReadRagaUptoCard

/-- THE SECOND FORM's CARD OF 'laws.FnExactReadItem'. -/
def fnExactReadItemUptoCard : Claim7 := { stood := { row := fnExactReadItemUptoRow, standIns := [], harness := (true, "1cabd1c76d35726f39e68fc6fc19b71eb8aa1845285ddc25a04705d654519920"), looks := true }, kinds := [], alts := [], laidByText := true, laidKinds := [.data, .data, .data, .data, .sentinel, .sentinel, .pinned], laidTests := true, laidLooks := .later }
def FnExactReadItemUptoCardSaid : Prop := Claim7.holds Tryd.pinned (.plain (OpenSpec.upto fnExactReadItemSpec)) fnExactReadItemUptoCard
end Rows
end Go.Proofs.YtlmeijlandogaaaDoor
