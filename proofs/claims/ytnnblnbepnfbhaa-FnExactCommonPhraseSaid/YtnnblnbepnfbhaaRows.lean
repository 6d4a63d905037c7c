/-
  No cell of these rows narrows 'for every input' (looked for: loops, veiled, ifaces, maps, wideKeys, modest, calm, conditions, laid).
  DERIVED. THE GIVEN ROWS OF THIS SEAT. 15 by the template 'for every input the law returns true; each argument reads behind the call as it read before'; 0 by the template 'total and deterministic' (their statements: YtnnblnbepnfbhaaTotals.lean).
  GIVEN WITH THE SEED: the statements are not yours to turn. If you find one false, say at which input.
  Laid BY PROGRAM, IN A SANDBOX (cutbox-rows.mjs): the forced cells as the released guide's own fill.sh prints them over the translation ab1dd89f4169b756… (all of the seat's roots in one cut). By AI agents, Wed Nov 11 2026. No macro, syntax, notation, axiom, sorry.
-/
import Derived.Test.YtnnblnbepnfbhaaChecked
import GoSem.Claim
import GoSem.ClaimJoined
import GoSem.ClaimMapViews
import Derived.JoinedTies
import Derived.KernelRfl
namespace Go.Proofs.Ytnnblnbepnfbhaa
/- THE CELL 'sum', in the pinned program and in every row, IS THE sha256 OF THE DUMP (.gsa) THAT YtnnblnbepnfbhaaProg.lean LOADS. Nothing in Lean hashes anything: it is a label: what it is worth is what the hold of that sum in a sandbox is worth. -/
noncomputable def Try.pinned : Pinned := { name := "ytnnblnbepnfbhaa", sum := "ab1dd89f4169b7563f993cb1c512c9806199446cb447f15d3a05fffac7a05fc6", checked := Try.checked }
namespace Rows
def none {H : Type} : Left H := { results := [], args := [] }

/-- 'laws.FnExactValidItem': WHATEVER THE INPUT: true; the input reads as it did. -/
def fnExactValidItemSpec : ChangeSpec := { name := "fnExactValidItem", fn := fun _ => fun
  | [d] => { results := [.lit (.bool true)], args := [d] }
  | _ => none }
def fnExactValidItemRow : OpenClaim := { program := "ytnnblnbepnfbhaa", sum := "ab1dd89f4169b7563f993cb1c512c9806199446cb447f15d3a05fffac7a05fc6", func := "loop.example/g01033/laws.FnExactValidItem", spec := "fnExactValidItem", apart := false }
def FnExactValidItemSaid : Prop := fnExactValidItemRow.holds Try.pinned (OpenSpec.ofChange fnExactValidItemSpec)

/-- ITS FALSE NEIGHBOUR: 'it returns false'. Refute it at one input. -/
def fnExactValidItemWrong : ChangeSpec := { name := "fnExactValidItem", fn := fun _ => fun
  | [d] => { results := [.lit (.bool false)], args := [d] }
  | _ => none }
def FnExactValidItemWrongFalsely : Prop := fnExactValidItemRow.holds Try.pinned (OpenSpec.ofChange fnExactValidItemWrong)

/-- 'laws.FnExactFitsTime': WHATEVER THE INPUT: true; the input reads as it did. -/
def fnExactFitsTimeSpec : ChangeSpec := { name := "fnExactFitsTime", fn := fun _ => fun
  | [d1, d2, d3] => { results := [.lit (.bool true)], args := [d1, d2, d3] }
  | _ => none }
def fnExactFitsTimeRow : OpenClaim := { program := "ytnnblnbepnfbhaa", sum := "ab1dd89f4169b7563f993cb1c512c9806199446cb447f15d3a05fffac7a05fc6", func := "loop.example/g01033/laws.FnExactFitsTime", spec := "fnExactFitsTime", apart := false }
def FnExactFitsTimeSaid : Prop := fnExactFitsTimeRow.holds Try.pinned (OpenSpec.ofChange fnExactFitsTimeSpec)

/-- ITS FALSE NEIGHBOUR: 'it returns false'. Refute it at one input. -/
def fnExactFitsTimeWrong : ChangeSpec := { name := "fnExactFitsTime", fn := fun _ => fun
  | [d1, d2, d3] => { results := [.lit (.bool false)], args := [d1, d2, d3] }
  | _ => none }
def FnExactFitsTimeWrongFalsely : Prop := fnExactFitsTimeRow.holds Try.pinned (OpenSpec.ofChange fnExactFitsTimeWrong)

/-- 'laws.FnExactBorderOf': WHATEVER THE INPUT: true; the input reads as it did. -/
def fnExactBorderOfSpec : ChangeSpec := { name := "fnExactBorderOf", fn := fun _ => fun
  | [d] => { results := [.lit (.bool true)], args := [d] }
  | _ => none }
def fnExactBorderOfRow : OpenClaim := { program := "ytnnblnbepnfbhaa", sum := "ab1dd89f4169b7563f993cb1c512c9806199446cb447f15d3a05fffac7a05fc6", func := "loop.example/g01033/laws.FnExactBorderOf", spec := "fnExactBorderOf", unfollowed := true, recurses := true, apart := false }
def FnExactBorderOfSaid : Prop := fnExactBorderOfRow.holds Try.pinned (OpenSpec.ofChange fnExactBorderOfSpec)

/-- ITS FALSE NEIGHBOUR: 'it returns false'. Refute it at one input. -/
def fnExactBorderOfWrong : ChangeSpec := { name := "fnExactBorderOf", fn := fun _ => fun
  | [d] => { results := [.lit (.bool false)], args := [d] }
  | _ => none }
def FnExactBorderOfWrongFalsely : Prop := fnExactBorderOfRow.holds Try.pinned (OpenSpec.ofChange fnExactBorderOfWrong)

/-- 'laws.FnExactMovePhrase': WHATEVER THE INPUT: true; the input reads as it did. -/
def fnExactMovePhraseSpec : ChangeSpec := { name := "fnExactMovePhrase", fn := fun _ => fun
  | [d1, d2] => { results := [.lit (.bool true)], args := [d1, d2] }
  | _ => none }
def fnExactMovePhraseRow : OpenClaim := { program := "ytnnblnbepnfbhaa", sum := "ab1dd89f4169b7563f993cb1c512c9806199446cb447f15d3a05fffac7a05fc6", func := "loop.example/g01033/laws.FnExactMovePhrase", spec := "fnExactMovePhrase", unfollowed := true, recurses := true, apart := false }
def FnExactMovePhraseSaid : Prop := fnExactMovePhraseRow.holds Try.pinned (OpenSpec.ofChange fnExactMovePhraseSpec)

/-- ITS FALSE NEIGHBOUR: 'it returns false'. Refute it at one input. -/
def fnExactMovePhraseWrong : ChangeSpec := { name := "fnExactMovePhrase", fn := fun _ => fun
  | [d1, d2] => { results := [.lit (.bool false)], args := [d1, d2] }
  | _ => none }
def FnExactMovePhraseWrongFalsely : Prop := fnExactMovePhraseRow.holds Try.pinned (OpenSpec.ofChange fnExactMovePhraseWrong)

/-- 'laws.FnExactNextStart': WHATEVER THE INPUT: true; the input reads as it did. -/
def fnExactNextStartSpec : ChangeSpec := { name := "fnExactNextStart", fn := fun _ => fun
  | [d1, d2, d3] => { results := [.lit (.bool true)], args := [d1, d2, d3] }
  | _ => none }
def fnExactNextStartRow : OpenClaim := { program := "ytnnblnbepnfbhaa", sum := "ab1dd89f4169b7563f993cb1c512c9806199446cb447f15d3a05fffac7a05fc6", func := "loop.example/g01033/laws.FnExactNextStart", spec := "fnExactNextStart", apart := false }
def FnExactNextStartSaid : Prop := fnExactNextStartRow.holds Try.pinned (OpenSpec.ofChange fnExactNextStartSpec)

/-- ITS FALSE NEIGHBOUR: 'it returns false'. Refute it at one input. -/
def fnExactNextStartWrong : ChangeSpec := { name := "fnExactNextStart", fn := fun _ => fun
  | [d1, d2, d3] => { results := [.lit (.bool false)], args := [d1, d2, d3] }
  | _ => none }
def FnExactNextStartWrongFalsely : Prop := fnExactNextStartRow.holds Try.pinned (OpenSpec.ofChange fnExactNextStartWrong)

/-- 'laws.FnExactValidItems': WHATEVER THE INPUT: true; the input reads as it did. -/
def fnExactValidItemsSpec : ChangeSpec := { name := "fnExactValidItems", fn := fun _ => fun
  | [d] => { results := [.lit (.bool true)], args := [d] }
  | _ => none }
def fnExactValidItemsRow : OpenClaim := { program := "ytnnblnbepnfbhaa", sum := "ab1dd89f4169b7563f993cb1c512c9806199446cb447f15d3a05fffac7a05fc6", func := "loop.example/g01033/laws.FnExactValidItems", spec := "fnExactValidItems", apart := false }
def FnExactValidItemsSaid : Prop := fnExactValidItemsRow.holds Try.pinned (OpenSpec.ofChange fnExactValidItemsSpec)

/-- ITS FALSE NEIGHBOUR: 'it returns false'. Refute it at one input. -/
def fnExactValidItemsWrong : ChangeSpec := { name := "fnExactValidItems", fn := fun _ => fun
  | [d] => { results := [.lit (.bool false)], args := [d] }
  | _ => none }
def FnExactValidItemsWrongFalsely : Prop := fnExactValidItemsRow.holds Try.pinned (OpenSpec.ofChange fnExactValidItemsWrong)

/-- 'laws.FnExactCountApart': WHATEVER THE INPUT: true; the input reads as it did. -/
def fnExactCountApartSpec : ChangeSpec := { name := "fnExactCountApart", fn := fun _ => fun
  | [d1, d2] => { results := [.lit (.bool true)], args := [d1, d2] }
  | _ => none }
def fnExactCountApartRow : OpenClaim := { program := "ytnnblnbepnfbhaa", sum := "ab1dd89f4169b7563f993cb1c512c9806199446cb447f15d3a05fffac7a05fc6", func := "loop.example/g01033/laws.FnExactCountApart", spec := "fnExactCountApart", unfollowed := true, recurses := true, apart := false }
def FnExactCountApartSaid : Prop := fnExactCountApartRow.holds Try.pinned (OpenSpec.ofChange fnExactCountApartSpec)

/-- ITS FALSE NEIGHBOUR: 'it returns false'. Refute it at one input. -/
def fnExactCountApartWrong : ChangeSpec := { name := "fnExactCountApart", fn := fun _ => fun
  | [d1, d2] => { results := [.lit (.bool false)], args := [d1, d2] }
  | _ => none }
def FnExactCountApartWrongFalsely : Prop := fnExactCountApartRow.holds Try.pinned (OpenSpec.ofChange fnExactCountApartWrong)

/-- 'laws.FnExactFindPhrase': WHATEVER THE INPUT: true; the input reads as it did. -/
def fnExactFindPhraseSpec : ChangeSpec := { name := "fnExactFindPhrase", fn := fun _ => fun
  | [d1, d2] => { results := [.lit (.bool true)], args := [d1, d2] }
  | _ => none }
def fnExactFindPhraseRow : OpenClaim := { program := "ytnnblnbepnfbhaa", sum := "ab1dd89f4169b7563f993cb1c512c9806199446cb447f15d3a05fffac7a05fc6", func := "loop.example/g01033/laws.FnExactFindPhrase", spec := "fnExactFindPhrase", unfollowed := true, recurses := true, apart := false }
def FnExactFindPhraseSaid : Prop := fnExactFindPhraseRow.holds Try.pinned (OpenSpec.ofChange fnExactFindPhraseSpec)

/-- ITS FALSE NEIGHBOUR: 'it returns false'. Refute it at one input. -/
def fnExactFindPhraseWrong : ChangeSpec := { name := "fnExactFindPhrase", fn := fun _ => fun
  | [d1, d2] => { results := [.lit (.bool false)], args := [d1, d2] }
  | _ => none }
def FnExactFindPhraseWrongFalsely : Prop := fnExactFindPhraseRow.holds Try.pinned (OpenSpec.ofChange fnExactFindPhraseWrong)

/-- 'laws.FnExactValidPhrases': WHATEVER THE INPUT: true; the input reads as it did. -/
def fnExactValidPhrasesSpec : ChangeSpec := { name := "fnExactValidPhrases", fn := fun _ => fun
  | [d] => { results := [.lit (.bool true)], args := [d] }
  | _ => none }
def fnExactValidPhrasesRow : OpenClaim := { program := "ytnnblnbepnfbhaa", sum := "ab1dd89f4169b7563f993cb1c512c9806199446cb447f15d3a05fffac7a05fc6", func := "loop.example/g01033/laws.FnExactValidPhrases", spec := "fnExactValidPhrases", unfollowed := true, recurses := true, apart := false }
def FnExactValidPhrasesSaid : Prop := fnExactValidPhrasesRow.holds Try.pinned (OpenSpec.ofChange fnExactValidPhrasesSpec)

/-- ITS FALSE NEIGHBOUR: 'it returns false'. Refute it at one input. -/
def fnExactValidPhrasesWrong : ChangeSpec := { name := "fnExactValidPhrases", fn := fun _ => fun
  | [d] => { results := [.lit (.bool false)], args := [d] }
  | _ => none }
def FnExactValidPhrasesWrongFalsely : Prop := fnExactValidPhrasesRow.holds Try.pinned (OpenSpec.ofChange fnExactValidPhrasesWrong)

/-- 'laws.FnExactCommonPhrase': WHATEVER THE INPUT: true; the input reads as it did. -/
def fnExactCommonPhraseSpec : ChangeSpec := { name := "fnExactCommonPhrase", fn := fun _ => fun
  | [d1, d2] => { results := [.lit (.bool true)], args := [d1, d2] }
  | _ => none }
def fnExactCommonPhraseRow : OpenClaim := { program := "ytnnblnbepnfbhaa", sum := "ab1dd89f4169b7563f993cb1c512c9806199446cb447f15d3a05fffac7a05fc6", func := "loop.example/g01033/laws.FnExactCommonPhrase", spec := "fnExactCommonPhrase", unfollowed := true, recurses := true, apart := false }
def FnExactCommonPhraseSaid : Prop := fnExactCommonPhraseRow.holds Try.pinned (OpenSpec.ofChange fnExactCommonPhraseSpec)

/-- ITS FALSE NEIGHBOUR: 'it returns false'. Refute it at one input. -/
def fnExactCommonPhraseWrong : ChangeSpec := { name := "fnExactCommonPhrase", fn := fun _ => fun
  | [d1, d2] => { results := [.lit (.bool false)], args := [d1, d2] }
  | _ => none }
def FnExactCommonPhraseWrongFalsely : Prop := fnExactCommonPhraseRow.holds Try.pinned (OpenSpec.ofChange fnExactCommonPhraseWrong)

/-- 'laws.FnExactFrequentPhrase': WHATEVER THE INPUT: true; the input reads as it did. -/
def fnExactFrequentPhraseSpec : ChangeSpec := { name := "fnExactFrequentPhrase", fn := fun _ => fun
  | [d1, d2] => { results := [.lit (.bool true)], args := [d1, d2] }
  | _ => none }
def fnExactFrequentPhraseRow : OpenClaim := { program := "ytnnblnbepnfbhaa", sum := "ab1dd89f4169b7563f993cb1c512c9806199446cb447f15d3a05fffac7a05fc6", func := "loop.example/g01033/laws.FnExactFrequentPhrase", spec := "fnExactFrequentPhrase", unfollowed := true, recurses := true, apart := false }
def FnExactFrequentPhraseSaid : Prop := fnExactFrequentPhraseRow.holds Try.pinned (OpenSpec.ofChange fnExactFrequentPhraseSpec)

/-- ITS FALSE NEIGHBOUR: 'it returns false'. Refute it at one input. -/
def fnExactFrequentPhraseWrong : ChangeSpec := { name := "fnExactFrequentPhrase", fn := fun _ => fun
  | [d1, d2] => { results := [.lit (.bool false)], args := [d1, d2] }
  | _ => none }
def FnExactFrequentPhraseWrongFalsely : Prop := fnExactFrequentPhraseRow.holds Try.pinned (OpenSpec.ofChange fnExactFrequentPhraseWrong)

/-- 'laws.FnExactWorthOf': WHATEVER THE INPUT: true; the input reads as it did. -/
def fnExactWorthOfSpec : ChangeSpec := { name := "fnExactWorthOf", fn := fun _ => fun
  | [d1, d2] => { results := [.lit (.bool true)], args := [d1, d2] }
  | _ => none }
def fnExactWorthOfRow : OpenClaim := { program := "ytnnblnbepnfbhaa", sum := "ab1dd89f4169b7563f993cb1c512c9806199446cb447f15d3a05fffac7a05fc6", func := "loop.example/g01033/laws.FnExactWorthOf", spec := "fnExactWorthOf", apart := false }
def FnExactWorthOfSaid : Prop := fnExactWorthOfRow.holds Try.pinned (OpenSpec.ofChange fnExactWorthOfSpec)

/-- ITS FALSE NEIGHBOUR: 'it returns false'. Refute it at one input. -/
def fnExactWorthOfWrong : ChangeSpec := { name := "fnExactWorthOf", fn := fun _ => fun
  | [d1, d2] => { results := [.lit (.bool false)], args := [d1, d2] }
  | _ => none }
def FnExactWorthOfWrongFalsely : Prop := fnExactWorthOfRow.holds Try.pinned (OpenSpec.ofChange fnExactWorthOfWrong)

/-- 'laws.FnExactIsProgramme': WHATEVER THE INPUT: true; the input reads as it did. -/
def fnExactIsProgrammeSpec : ChangeSpec := { name := "fnExactIsProgramme", fn := fun _ => fun
  | [d1, d2, d3, d4, d5] => { results := [.lit (.bool true)], args := [d1, d2, d3, d4, d5] }
  | _ => none }
def fnExactIsProgrammeRow : OpenClaim := { program := "ytnnblnbepnfbhaa", sum := "ab1dd89f4169b7563f993cb1c512c9806199446cb447f15d3a05fffac7a05fc6", func := "loop.example/g01033/laws.FnExactIsProgramme", spec := "fnExactIsProgramme", apart := false }
def FnExactIsProgrammeSaid : Prop := fnExactIsProgrammeRow.holds Try.pinned (OpenSpec.ofChange fnExactIsProgrammeSpec)

/-- ITS FALSE NEIGHBOUR: 'it returns false'. Refute it at one input. -/
def fnExactIsProgrammeWrong : ChangeSpec := { name := "fnExactIsProgramme", fn := fun _ => fun
  | [d1, d2, d3, d4, d5] => { results := [.lit (.bool false)], args := [d1, d2, d3, d4, d5] }
  | _ => none }
def FnExactIsProgrammeWrongFalsely : Prop := fnExactIsProgrammeRow.holds Try.pinned (OpenSpec.ofChange fnExactIsProgrammeWrong)

/-- 'laws.FnExactEndOf': WHATEVER THE INPUT: true; the input reads as it did. -/
def fnExactEndOfSpec : ChangeSpec := { name := "fnExactEndOf", fn := fun _ => fun
  | [d1, d2, d3, d4] => { results := [.lit (.bool true)], args := [d1, d2, d3, d4] }
  | _ => none }
def fnExactEndOfRow : OpenClaim := { program := "ytnnblnbepnfbhaa", sum := "ab1dd89f4169b7563f993cb1c512c9806199446cb447f15d3a05fffac7a05fc6", func := "loop.example/g01033/laws.FnExactEndOf", spec := "fnExactEndOf", apart := false }
def FnExactEndOfSaid : Prop := fnExactEndOfRow.holds Try.pinned (OpenSpec.ofChange fnExactEndOfSpec)

/-- ITS FALSE NEIGHBOUR: 'it returns false'. Refute it at one input. -/
def fnExactEndOfWrong : ChangeSpec := { name := "fnExactEndOf", fn := fun _ => fun
  | [d1, d2, d3, d4] => { results := [.lit (.bool false)], args := [d1, d2, d3, d4] }
  | _ => none }
def FnExactEndOfWrongFalsely : Prop := fnExactEndOfRow.holds Try.pinned (OpenSpec.ofChange fnExactEndOfWrong)

/-- 'laws.FnExactFewestPhrases': WHATEVER THE INPUT: true; the input reads as it did. -/
def fnExactFewestPhrasesSpec : ChangeSpec := { name := "fnExactFewestPhrases", fn := fun _ => fun
  | [d1, d2, d3] => { results := [.lit (.bool true)], args := [d1, d2, d3] }
  | _ => none }
def fnExactFewestPhrasesRow : OpenClaim := { program := "ytnnblnbepnfbhaa", sum := "ab1dd89f4169b7563f993cb1c512c9806199446cb447f15d3a05fffac7a05fc6", func := "loop.example/g01033/laws.FnExactFewestPhrases", spec := "fnExactFewestPhrases", unfollowed := true, recurses := true, apart := false }
def FnExactFewestPhrasesSaid : Prop := fnExactFewestPhrasesRow.holds Try.pinned (OpenSpec.ofChange fnExactFewestPhrasesSpec)

/-- ITS FALSE NEIGHBOUR: 'it returns false'. Refute it at one input. -/
def fnExactFewestPhrasesWrong : ChangeSpec := { name := "fnExactFewestPhrases", fn := fun _ => fun
  | [d1, d2, d3] => { results := [.lit (.bool false)], args := [d1, d2, d3] }
  | _ => none }
def FnExactFewestPhrasesWrongFalsely : Prop := fnExactFewestPhrasesRow.holds Try.pinned (OpenSpec.ofChange fnExactFewestPhrasesWrong)

/- THE SECOND FORM. 'bulk': how many values and letters a reading holds, each counted each time it is reached (what is shared counts as often as it is met; a slice's spare places count too). A statement '..UptoSaid' is the law's where the arguments, and the package variables that the reading takes, are together of bulk at most 1048576: NARROWER than '..Said'. Prove '..Said' where nothing that the law and all that it calls make is longer than what came in: it says more and counts as full. Else prove '..UptoSaid'. A law counts once. -/
mutual
def uptoBulk {H : Type} : DataW H → Nat
  | .lit (.string bytes) => bytes.length + 1
  | .lit _ => 1
  | .nil => 1
  | .ptr d => uptoBulk d + 1
  | .slice elems spare => uptoBulkAll elems + uptoBulkAll spare + 1
  | .agg parts => uptoBulkAll parts + 1
  | .iface _ d => uptoBulk d + 1
  | .map entries => uptoBulkEntries entries + 1
  | .held _ => 1
def uptoBulkAll {H : Type} : List (DataW H) → Nat
  | [] => 0
  | d :: r => uptoBulk d + uptoBulkAll r
def uptoBulkEntries {H : Type} : List (Lit × DataW H) → Nat
  | [] => 0
  | x :: r => uptoBulkEntry x + uptoBulkEntries r
def uptoBulkEntry {H : Type} : Lit × DataW H → Nat
  | (.string bytes, d) => bytes.length + uptoBulk d + 1
  | (_, d) => uptoBulk d + 1
 end
def uptoSmall : (H : Type) → List (DataW H) → Bool := fun _ ds => decide (uptoBulkAll ds ≤ 1048576)
def OpenSpec.upto (s : _root_.Go.ChangeSpec) : _root_.Go.OpenSpec := { _root_.Go.OpenSpec.ofChange s with cond := some uptoSmall }

/-- 'laws.FnExactValidItem', WHERE WHAT IT READS IS OF BULK AT MOST 1048576: true; the input reads as it did. -/
def fnExactValidItemUptoRow : OpenClaim := { program := "ytnnblnbepnfbhaa", sum := "ab1dd89f4169b7563f993cb1c512c9806199446cb447f15d3a05fffac7a05fc6", func := "loop.example/g01033/laws.FnExactValidItem", spec := "fnExactValidItem", apart := false, narrowed := true }
def FnExactValidItemUptoSaid : Prop := fnExactValidItemUptoRow.holds Try.pinned (OpenSpec.upto fnExactValidItemSpec)

/-- 'laws.FnExactFitsTime', WHERE WHAT IT READS IS OF BULK AT MOST 1048576: true; the input reads as it did. -/
def fnExactFitsTimeUptoRow : OpenClaim := { program := "ytnnblnbepnfbhaa", sum := "ab1dd89f4169b7563f993cb1c512c9806199446cb447f15d3a05fffac7a05fc6", func := "loop.example/g01033/laws.FnExactFitsTime", spec := "fnExactFitsTime", apart := false, narrowed := true }
def FnExactFitsTimeUptoSaid : Prop := fnExactFitsTimeUptoRow.holds Try.pinned (OpenSpec.upto fnExactFitsTimeSpec)

/-- 'laws.FnExactBorderOf', WHERE WHAT IT READS IS OF BULK AT MOST 1048576: true; the input reads as it did. -/
def fnExactBorderOfUptoRow : OpenClaim := { program := "ytnnblnbepnfbhaa", sum := "ab1dd89f4169b7563f993cb1c512c9806199446cb447f15d3a05fffac7a05fc6", func := "loop.example/g01033/laws.FnExactBorderOf", spec := "fnExactBorderOf", unfollowed := true, recurses := true, apart := false, narrowed := true }
def FnExactBorderOfUptoSaid : Prop := fnExactBorderOfUptoRow.holds Try.pinned (OpenSpec.upto fnExactBorderOfSpec)

/-- 'laws.FnExactMovePhrase', WHERE WHAT IT READS IS OF BULK AT MOST 1048576: true; the input reads as it did. -/
def fnExactMovePhraseUptoRow : OpenClaim := { program := "ytnnblnbepnfbhaa", sum := "ab1dd89f4169b7563f993cb1c512c9806199446cb447f15d3a05fffac7a05fc6", func := "loop.example/g01033/laws.FnExactMovePhrase", spec := "fnExactMovePhrase", unfollowed := true, recurses := true, apart := false, narrowed := true }
def FnExactMovePhraseUptoSaid : Prop := fnExactMovePhraseUptoRow.holds Try.pinned (OpenSpec.upto fnExactMovePhraseSpec)

/-- 'laws.FnExactNextStart', WHERE WHAT IT READS IS OF BULK AT MOST 1048576: true; the input reads as it did. -/
def fnExactNextStartUptoRow : OpenClaim := { program := "ytnnblnbepnfbhaa", sum := "ab1dd89f4169b7563f993cb1c512c9806199446cb447f15d3a05fffac7a05fc6", func := "loop.example/g01033/laws.FnExactNextStart", spec := "fnExactNextStart", apart := false, narrowed := true }
def FnExactNextStartUptoSaid : Prop := fnExactNextStartUptoRow.holds Try.pinned (OpenSpec.upto fnExactNextStartSpec)

/-- 'laws.FnExactValidItems', WHERE WHAT IT READS IS OF BULK AT MOST 1048576: true; the input reads as it did. -/
def fnExactValidItemsUptoRow : OpenClaim := { program := "ytnnblnbepnfbhaa", sum := "ab1dd89f4169b7563f993cb1c512c9806199446cb447f15d3a05fffac7a05fc6", func := "loop.example/g01033/laws.FnExactValidItems", spec := "fnExactValidItems", apart := false, narrowed := true }
def FnExactValidItemsUptoSaid : Prop := fnExactValidItemsUptoRow.holds Try.pinned (OpenSpec.upto fnExactValidItemsSpec)

/-- 'laws.FnExactCountApart', WHERE WHAT IT READS IS OF BULK AT MOST 1048576: true; the input reads as it did. -/
def fnExactCountApartUptoRow : OpenClaim := { program := "ytnnblnbepnfbhaa", sum := "ab1dd89f4169b7563f993cb1c512c9806199446cb447f15d3a05fffac7a05fc6", func := "loop.example/g01033/laws.FnExactCountApart", spec := "fnExactCountApart", unfollowed := true, recurses := true, apart := false, narrowed := true }
def FnExactCountApartUptoSaid : Prop := fnExactCountApartUptoRow.holds Try.pinned (OpenSpec.upto fnExactCountApartSpec)

/-- 'laws.FnExactFindPhrase', WHERE WHAT IT READS IS OF BULK AT MOST 1048576: true; the input reads as it did. -/
def fnExactFindPhraseUptoRow : OpenClaim := { program := "ytnnblnbepnfbhaa", sum := "ab1dd89f4169b7563f993cb1c512c9806199446cb447f15d3a05fffac7a05fc6", func := "loop.example/g01033/laws.FnExactFindPhrase", spec := "fnExactFindPhrase", unfollowed := true, recurses := true, apart := false, narrowed := true }
def FnExactFindPhraseUptoSaid : Prop := fnExactFindPhraseUptoRow.holds Try.pinned (OpenSpec.upto fnExactFindPhraseSpec)

/-- 'laws.FnExactValidPhrases', WHERE WHAT IT READS IS OF BULK AT MOST 1048576: true; the input reads as it did. -/
def fnExactValidPhrasesUptoRow : OpenClaim := { program := "ytnnblnbepnfbhaa", sum := "ab1dd89f4169b7563f993cb1c512c9806199446cb447f15d3a05fffac7a05fc6", func := "loop.example/g01033/laws.FnExactValidPhrases", spec := "fnExactValidPhrases", unfollowed := true, recurses := true, apart := false, narrowed := true }
def FnExactValidPhrasesUptoSaid : Prop := fnExactValidPhrasesUptoRow.holds Try.pinned (OpenSpec.upto fnExactValidPhrasesSpec)

/-- 'laws.FnExactCommonPhrase', WHERE WHAT IT READS IS OF BULK AT MOST 1048576: true; the input reads as it did. -/
def fnExactCommonPhraseUptoRow : OpenClaim := { program := "ytnnblnbepnfbhaa", sum := "ab1dd89f4169b7563f993cb1c512c9806199446cb447f15d3a05fffac7a05fc6", func := "loop.example/g01033/laws.FnExactCommonPhrase", spec := "fnExactCommonPhrase", unfollowed := true, recurses := true, apart := false, narrowed := true }
def FnExactCommonPhraseUptoSaid : Prop := fnExactCommonPhraseUptoRow.holds Try.pinned (OpenSpec.upto fnExactCommonPhraseSpec)

/-- 'laws.FnExactFrequentPhrase', WHERE WHAT IT READS IS OF BULK AT MOST 1048576: true; the input reads as it did. -/
def fnExactFrequentPhraseUptoRow : OpenClaim := { program := "ytnnblnbepnfbhaa", sum := "ab1dd89f4169b7563f993cb1c512c9806199446cb447f15d3a05fffac7a05fc6", func := "loop.example/g01033/laws.FnExactFrequentPhrase", spec := "fnExactFrequentPhrase", unfollowed := true, recurses := true, apart := false, narrowed := true }
def FnExactFrequentPhraseUptoSaid : Prop := fnExactFrequentPhraseUptoRow.holds Try.pinned (OpenSpec.upto fnExactFrequentPhraseSpec)

/-- 'laws.FnExactWorthOf', WHERE WHAT IT READS IS OF BULK AT MOST 1048576: true; the input reads as it did. -/
def fnExactWorthOfUptoRow : OpenClaim := { program := "ytnnblnbepnfbhaa", sum := "ab1dd89f4169b7563f993cb1c512c9806199446cb447f15d3a05fffac7a05fc6", func := "loop.example/g01033/laws.FnExactWorthOf", spec := "fnExactWorthOf", apart := false, narrowed := true }
def FnExactWorthOfUptoSaid : Prop := fnExactWorthOfUptoRow.holds Try.pinned (OpenSpec.upto fnExactWorthOfSpec)

/-- 'laws.FnExactIsProgramme', WHERE WHAT IT READS IS OF BULK AT MOST 1048576: true; the input reads as it did. -/
def fnExactIsProgrammeUptoRow : OpenClaim := { program := "ytnnblnbepnfbhaa", sum := "ab1dd89f4169b7563f993cb1c512c9806199446cb447f15d3a05fffac7a05fc6", func := "loop.example/g01033/laws.FnExactIsProgramme", spec := "fnExactIsProgramme", apart := false, narrowed := true }
def FnExactIsProgrammeUptoSaid : Prop := fnExactIsProgrammeUptoRow.holds Try.pinned (OpenSpec.upto fnExactIsProgrammeSpec)

/-- 'laws.FnExactEndOf', WHERE WHAT IT READS IS OF BULK AT MOST 1048576: true; the input reads as it did. -/
def fnExactEndOfUptoRow : OpenClaim := { program := "ytnnblnbepnfbhaa", sum := "ab1dd89f4169b7563f993cb1c512c9806199446cb447f15d3a05fffac7a05fc6", func := "loop.example/g01033/laws.FnExactEndOf", spec := "fnExactEndOf", apart := false, narrowed := true }
def FnExactEndOfUptoSaid : Prop := fnExactEndOfUptoRow.holds Try.pinned (OpenSpec.upto fnExactEndOfSpec)

/-- 'laws.FnExactFewestPhrases', WHERE WHAT IT READS IS OF BULK AT MOST 1048576: true; the input reads as it did. -/
def fnExactFewestPhrasesUptoRow : OpenClaim := { program := "ytnnblnbepnfbhaa", sum := "ab1dd89f4169b7563f993cb1c512c9806199446cb447f15d3a05fffac7a05fc6", func := "loop.example/g01033/laws.FnExactFewestPhrases", spec := "fnExactFewestPhrases", unfollowed := true, recurses := true, apart := false, narrowed := true }
def FnExactFewestPhrasesUptoSaid : Prop := fnExactFewestPhrasesUptoRow.holds Try.pinned (OpenSpec.upto fnExactFewestPhrasesSpec)

end Rows
end Go.Proofs.Ytnnblnbepnfbhaa
