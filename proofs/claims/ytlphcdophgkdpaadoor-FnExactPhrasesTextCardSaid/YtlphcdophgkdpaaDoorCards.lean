/-
  DERIVED. GIVEN WITH THE SEED: THE CARDS: each row of YtlphcdophgkdpaaDoorRows.lean that lists a variable, with what it lists TIED to the program's text (the seventh form; the later family's looks); each row that meets fmt, with fmt's text TOLD by the authors' own Lean function (tested against real Go, not proved from fmt's source: count such statements apart). THE CARD IS WHAT COUNTS. Prove the row's statement (the work); the ties are given (YtlphcdophgkdpaaDoorTie.lean); close each card by the builder's one call (the guide's Derived/Test/ToyasCard.lean, 'card_holds'). Laid BY PROGRAM, IN A SANDBOX (cutbox-door.mjs). By AI agents, Wed Nov 11 2026. No macro, syntax, notation, axiom, sorry.
-/
import Derived.Test.YtlphcdophgkdpaaDoorRows
import GoSem.ClaimSeven
namespace Go.Proofs.YtlphcdophgkdpaaDoor
namespace Rows

/-- THE TIED CARD OF 'laws.FnExactReadPhrases'. -/
def fnExactReadPhrasesCard : Claim7 := { stood := { row := fnExactReadPhrasesRow, standIns := [], harness := (true, "58c47cde79e33828c0a3ffd88adfcd1327a7bc7257da180bd0ef3a8a56f095cb"), looks := true }, kinds := [], alts := [], laidByText := true, laidKinds := [.data, .data, .data, .data, .sentinel, .sentinel, .pinned], laidTests := true, laidLooks := .later }
def FnExactReadPhrasesCardSaid : Prop := Claim7.holds Tryd.pinned (.plain (OpenSpec.ofChange fnExactReadPhrasesSpec)) fnExactReadPhrasesCard

/-- THE TIED CARD OF 'laws.FnExactReadGrammar'. -/
def fnExactReadGrammarCard : Claim7 := { stood := { row := fnExactReadGrammarRow, standIns := [], harness := (true, "58c47cde79e33828c0a3ffd88adfcd1327a7bc7257da180bd0ef3a8a56f095cb"), looks := true }, kinds := [], alts := [], laidByText := true, laidKinds := [.data, .data, .data, .data, .sentinel, .sentinel, .pinned], laidTests := true, laidLooks := .later }
def FnExactReadGrammarCardSaid : Prop := Claim7.holds Tryd.pinned (.plain (OpenSpec.ofChange fnExactReadGrammarSpec)) fnExactReadGrammarCard

/-- THE TIED CARD OF 'laws.FnExactOrnamentText'. -/
def fnExactOrnamentTextCard : Claim7 := { stood := { row := fnExactOrnamentTextRow, standIns := [], harness := (true, "58c47cde79e33828c0a3ffd88adfcd1327a7bc7257da180bd0ef3a8a56f095cb"), looks := true }, kinds := [], alts := [], laidByText := true, laidKinds := [.data, .data, .data], laidTests := true, laidLooks := .later }
def FnExactOrnamentTextCardSaid : Prop := Claim7.holds Tryd.pinned (.plain (OpenSpec.ofChange fnExactOrnamentTextSpec)) fnExactOrnamentTextCard

/-- THE TIED CARD OF 'laws.FnExactItemText'. -/
def fnExactItemTextCard : Claim7 := { stood := { row := fnExactItemTextRow, standIns := [], harness := (true, "58c47cde79e33828c0a3ffd88adfcd1327a7bc7257da180bd0ef3a8a56f095cb"), looks := true }, kinds := [], alts := [], laidByText := true, laidKinds := [.data, .data, .data], laidTests := true, laidLooks := .later }
def FnExactItemTextCardSaid : Prop := Claim7.holds Tryd.pinned (.plain (OpenSpec.ofChange fnExactItemTextSpec)) fnExactItemTextCard

/-- THE TIED CARD OF 'laws.FnExactMelodyText'. -/
def fnExactMelodyTextCard : Claim7 := { stood := { row := fnExactMelodyTextRow, standIns := [], harness := (true, "58c47cde79e33828c0a3ffd88adfcd1327a7bc7257da180bd0ef3a8a56f095cb"), looks := true }, kinds := [], alts := [], laidByText := true, laidKinds := [.data, .data, .data], laidTests := true, laidLooks := .later }
def FnExactMelodyTextCardSaid : Prop := Claim7.holds Tryd.pinned (.plain (OpenSpec.ofChange fnExactMelodyTextSpec)) fnExactMelodyTextCard

/-- THE TIED CARD OF 'laws.FnExactPhrasesText'. -/
def fnExactPhrasesTextCard : Claim7 := { stood := { row := fnExactPhrasesTextRow, standIns := [], harness := (true, "58c47cde79e33828c0a3ffd88adfcd1327a7bc7257da180bd0ef3a8a56f095cb"), looks := true }, kinds := [], alts := [], laidByText := true, laidKinds := [.data, .data, .data], laidTests := true, laidLooks := .later }
def FnExactPhrasesTextCardSaid : Prop := Claim7.holds Tryd.pinned (.plain (OpenSpec.ofChange fnExactPhrasesTextSpec)) fnExactPhrasesTextCard

/-- THE TIED CARD OF 'laws.FnExactGrammarText'. -/
def fnExactGrammarTextCard : Claim7 := { stood := { row := fnExactGrammarTextRow, standIns := [], harness := (true, "58c47cde79e33828c0a3ffd88adfcd1327a7bc7257da180bd0ef3a8a56f095cb"), looks := true }, kinds := [], alts := [], laidByText := true, laidKinds := [.data, .data, .data], laidTests := true, laidLooks := .later }
def FnExactGrammarTextCardSaid : Prop := Claim7.holds Tryd.pinned (.plain (OpenSpec.ofChange fnExactGrammarTextSpec)) fnExactGrammarTextCard

/-- THE TIED CARD OF 'laws.FnExactReadRaga'. -/
def fnExactReadRagaCard : Claim7 := { stood := { row := fnExactReadRagaRow, standIns := [], harness := (true, "58c47cde79e33828c0a3ffd88adfcd1327a7bc7257da180bd0ef3a8a56f095cb"), looks := true }, kinds := [], alts := [], laidByText := true, laidKinds := [.data, .pinned], laidTests := true, laidLooks := .later }
def FnExactReadRagaCardSaid : Prop := Claim7.holds Tryd.pinned (.plain (OpenSpec.ofChange fnExactReadRagaSpec)) fnExactReadRagaCard

/-- THE TIED CARD OF 'laws.FnExactReadItem'. -/
def fnExactReadItemCard : Claim7 := { stood := { row := fnExactReadItemRow, standIns := [], harness := (true, "58c47cde79e33828c0a3ffd88adfcd1327a7bc7257da180bd0ef3a8a56f095cb"), looks := true }, kinds := [], alts := [], laidByText := true, laidKinds := [.data, .data, .data, .data, .sentinel, .sentinel, .pinned], laidTests := true, laidLooks := .later }
def FnExactReadItemCardSaid : Prop := Claim7.holds Tryd.pinned (.plain (OpenSpec.ofChange fnExactReadItemSpec)) fnExactReadItemCard

/-- THE SECOND FORM's CARD OF 'laws.FnExactReadPhrases'. -/
def fnExactReadPhrasesUptoCard : Claim7 := { stood := { row := fnExactReadPhrasesUptoRow, standIns := [], harness := (true, "58c47cde79e33828c0a3ffd88adfcd1327a7bc7257da180bd0ef3a8a56f095cb"), looks := true }, kinds := [], alts := [], laidByText := true, laidKinds := [.data, .data, .data, .data, .sentinel, .sentinel, .pinned], laidTests := true, laidLooks := .later }
def FnExactReadPhrasesUptoCardSaid : Prop := Claim7.holds Tryd.pinned (.plain (OpenSpec.upto fnExactReadPhrasesSpec)) fnExactReadPhrasesUptoCard

/-- THE SECOND FORM's CARD OF 'laws.FnExactReadGrammar'. -/
def fnExactReadGrammarUptoCard : Claim7 := { stood := { row := fnExactReadGrammarUptoRow, standIns := [], harness := (true, "58c47cde79e33828c0a3ffd88adfcd1327a7bc7257da180bd0ef3a8a56f095cb"), looks := true }, kinds := [], alts := [], laidByText := true, laidKinds := [.data, .data, .data, .data, .sentinel, .sentinel, .pinned], laidTests := true, laidLooks := .later }
def FnExactReadGrammarUptoCardSaid : Prop := Claim7.holds Tryd.pinned (.plain (OpenSpec.upto fnExactReadGrammarSpec)) fnExactReadGrammarUptoCard

/-- THE SECOND FORM's CARD OF 'laws.FnExactOrnamentText'. -/
def fnExactOrnamentTextUptoCard : Claim7 := { stood := { row := fnExactOrnamentTextUptoRow, standIns := [], harness := (true, "58c47cde79e33828c0a3ffd88adfcd1327a7bc7257da180bd0ef3a8a56f095cb"), looks := true }, kinds := [], alts := [], laidByText := true, laidKinds := [.data, .data, .data], laidTests := true, laidLooks := .later }
def FnExactOrnamentTextUptoCardSaid : Prop := Claim7.holds Tryd.pinned (.plain (OpenSpec.upto fnExactOrnamentTextSpec)) fnExactOrnamentTextUptoCard

/-- THE SECOND FORM's CARD OF 'laws.FnExactItemText'. -/
def fnExactItemTextUptoCard : Claim7 := { stood := { row := fnExactItemTextUptoRow, standIns := [], harness := (true, "58c47cde79e33828c0a3ffd88adfcd1327a7bc7257da180bd0ef3a8a56f095cb"), looks := true }, kinds := [], alts := [], laidByText := true, laidKinds := [.data, .data, .data], laidTests := true, laidLooks := .later }
def FnExactItemTextUptoCardSaid : Prop := Claim7.holds Tryd.pinned (.plain (OpenSpec.upto fnExactItemTextSpec)) fnExactItemTextUptoCard

/-- THE SECOND FORM's CARD OF 'laws.FnExactMelodyText'. -/
def fnExactMelodyTextUptoCard : Claim7 := { stood := { row := fnExactMelodyTextUptoRow, standIns := [], harness := (true, "58c47cde79e33828c0a3ffd88adfcd1327a7bc7257da180bd0ef3a8a56f095cb"), looks := true }, kinds := [], alts := [], laidByText := true, laidKinds := [.data, .data, .data], laidTests := true, laidLooks := .later }
def FnExactMelodyTextUptoCardSaid : Prop := Claim7.holds Tryd.pinned (.plain (OpenSpec.upto fnExactMelodyTextSpec)) fnExactMelodyTextUptoCard

/-- THE SECOND FORM's CARD OF 'laws.FnExactPhrasesText'. -/
def fnExactPhrasesTextUptoCard : Claim7 := { stood := { row := fnExactPhrasesTextUptoRow, standIns := [], harness := (true, "58c47cde79e33828c0a3ffd88adfcd1327a7bc7257da180bd0ef3a8a56f095cb"), looks := true }, kinds := [], alts := [], laidByText := true, laidKinds := [.data, .data, .data], laidTests := true, laidLooks := .later }
def FnExactPhrasesTextUptoCardSaid : Prop := Claim7.holds Tryd.pinned (.plain (OpenSpec.upto fnExactPhrasesTextSpec)) fnExactPhrasesTextUptoCard

/-- THE SECOND FORM's CARD OF 'laws.FnExactGrammarText'. -/
def fnExactGrammarTextUptoCard : Claim7 := { stood := { row := fnExactGrammarTextUptoRow, standIns := [], harness := (true, "58c47cde79e33828c0a3ffd88adfcd1327a7bc7257da180bd0ef3a8a56f095cb"), looks := true }, kinds := [], alts := [], laidByText := true, laidKinds := [.data, .data, .data], laidTests := true, laidLooks := .later }
def FnExactGrammarTextUptoCardSaid : Prop := Claim7.holds Tryd.pinned (.plain (OpenSpec.upto fnExactGrammarTextSpec)) fnExactGrammarTextUptoCard

/-- THE SECOND FORM's CARD OF 'laws.FnExactReadRaga'. -/
def fnExactReadRagaUptoCard : Claim7 := { stood := { row := fnExactReadRagaUptoRow, standIns := [], harness := (true, "58c47cde79e33828c0a3ffd88adfcd1327a7bc7257da180bd0ef3a8a56f095cb"), looks := true }, kinds := [], alts := [], laidByText := true, laidKinds := [.data, .pinned], laidTests := true, laidLooks := .later }
def FnExactReadRagaUptoCardSaid : Prop := Claim7.holds Tryd.pinned (.plain (OpenSpec.upto fnExactReadRagaSpec)) fnExactReadRagaUptoCard

/-- THE SECOND FORM's CARD OF 'laws.FnExactReadItem'. -/
def fnExactReadItemUptoCard : Claim7 := { stood := { row := fnExactReadItemUptoRow, standIns := [], harness := (true, "58c47cde79e33828c0a3ffd88adfcd1327a7bc7257da180bd0ef3a8a56f095cb"), looks := true }, kinds := [], alts := [], laidByText := true, laidKinds := [.data, .data, .data, .data, .sentinel, .sentinel, .pinned], laidTests := true, laidLooks := .later }
def FnExactReadItemUptoCardSaid : Prop := Claim7.holds Tryd.pinned (.plain (OpenSpec.upto fnExactReadItemSpec)) fnExactReadItemUptoCard
end Rows
end Go.Proofs.YtlphcdophgkdpaaDoor
