/-
  No cell of these rows narrows 'for every input' (looked for: loops, veiled, ifaces, maps, wideKeys, modest, calm, conditions, laid).
  DERIVED. THE GIVEN ROWS OF THIS SEAT. 12 by the template 'for every input the law returns true; each argument reads behind the call as it read before'; 0 by the template 'total and deterministic' (their statements: YtijbhcalknfijaaTotals.lean).
  GIVEN WITH THE SEED: the statements are not yours to turn. If you find one false, say at which input.
  Laid BY PROGRAM, IN A SANDBOX (cutbox-rows.mjs): the forced cells as the released guide's own fill.sh prints them over the translation 7ed93e6998ae451f… (all of the seat's roots in one cut). By AI agents, Wed Nov 11 2026. No macro, syntax, notation, axiom, sorry.
-/
import Derived.Test.YtijbhcalknfijaaChecked
import GoSem.Claim
import GoSem.ClaimJoined
import GoSem.ClaimMapViews
import Derived.JoinedTies
import Derived.KernelRfl
namespace Go.Proofs.Ytijbhcalknfijaa
/- THE CELL 'sum', in the pinned program and in every row, IS THE sha256 OF THE DUMP (.gsa) THAT YtijbhcalknfijaaProg.lean LOADS. Nothing in Lean hashes anything: it is a label: what it is worth is what the hold of that sum in a sandbox is worth. -/
noncomputable def Try.pinned : Pinned := { name := "ytijbhcalknfijaa", sum := "7ed93e6998ae451f97edbcb0b9adc504544968e60430f2c3dcbc035c038650ec", checked := Try.checked }
namespace Rows
def none {H : Type} : Left H := { results := [], args := [] }

/-- 'laws.FnExactSameGrammar': WHATEVER THE INPUT: true; the input reads as it did. -/
def fnExactSameGrammarSpec : ChangeSpec := { name := "fnExactSameGrammar", fn := fun _ => fun
  | [d1, d2] => { results := [.lit (.bool true)], args := [d1, d2] }
  | _ => none }
def fnExactSameGrammarRow : OpenClaim := { program := "ytijbhcalknfijaa", sum := "7ed93e6998ae451f97edbcb0b9adc504544968e60430f2c3dcbc035c038650ec", func := "loop.example/g01033/laws.FnExactSameGrammar", spec := "fnExactSameGrammar", apart := false }
def FnExactSameGrammarSaid : Prop := fnExactSameGrammarRow.holds Try.pinned (OpenSpec.ofChange fnExactSameGrammarSpec)

/-- ITS FALSE NEIGHBOUR: 'it returns false'. Refute it at one input. -/
def fnExactSameGrammarWrong : ChangeSpec := { name := "fnExactSameGrammar", fn := fun _ => fun
  | [d1, d2] => { results := [.lit (.bool false)], args := [d1, d2] }
  | _ => none }
def FnExactSameGrammarWrongFalsely : Prop := fnExactSameGrammarRow.holds Try.pinned (OpenSpec.ofChange fnExactSameGrammarWrong)

/-- 'laws.FnExactValidGrammar': WHATEVER THE INPUT: true; the input reads as it did. -/
def fnExactValidGrammarSpec : ChangeSpec := { name := "fnExactValidGrammar", fn := fun _ => fun
  | [d] => { results := [.lit (.bool true)], args := [d] }
  | _ => none }
def fnExactValidGrammarRow : OpenClaim := { program := "ytijbhcalknfijaa", sum := "7ed93e6998ae451f97edbcb0b9adc504544968e60430f2c3dcbc035c038650ec", func := "loop.example/g01033/laws.FnExactValidGrammar", spec := "fnExactValidGrammar", unfollowed := true, recurses := true, apart := false }
def FnExactValidGrammarSaid : Prop := fnExactValidGrammarRow.holds Try.pinned (OpenSpec.ofChange fnExactValidGrammarSpec)

/-- ITS FALSE NEIGHBOUR: 'it returns false'. Refute it at one input. -/
def fnExactValidGrammarWrong : ChangeSpec := { name := "fnExactValidGrammar", fn := fun _ => fun
  | [d] => { results := [.lit (.bool false)], args := [d] }
  | _ => none }
def FnExactValidGrammarWrongFalsely : Prop := fnExactValidGrammarRow.holds Try.pinned (OpenSpec.ofChange fnExactValidGrammarWrong)

/-- 'laws.FnExactCountMelodies': WHATEVER THE INPUT: true; the input reads as it did. -/
def fnExactCountMelodiesSpec : ChangeSpec := { name := "fnExactCountMelodies", fn := fun _ => fun
  | [d1, d2] => { results := [.lit (.bool true)], args := [d1, d2] }
  | _ => none }
def fnExactCountMelodiesRow : OpenClaim := { program := "ytijbhcalknfijaa", sum := "7ed93e6998ae451f97edbcb0b9adc504544968e60430f2c3dcbc035c038650ec", func := "loop.example/g01033/laws.FnExactCountMelodies", spec := "fnExactCountMelodies", unfollowed := true, recurses := true, apart := false }
def FnExactCountMelodiesSaid : Prop := fnExactCountMelodiesRow.holds Try.pinned (OpenSpec.ofChange fnExactCountMelodiesSpec)

/-- ITS FALSE NEIGHBOUR: 'it returns false'. Refute it at one input. -/
def fnExactCountMelodiesWrong : ChangeSpec := { name := "fnExactCountMelodies", fn := fun _ => fun
  | [d1, d2] => { results := [.lit (.bool false)], args := [d1, d2] }
  | _ => none }
def FnExactCountMelodiesWrongFalsely : Prop := fnExactCountMelodiesRow.holds Try.pinned (OpenSpec.ofChange fnExactCountMelodiesWrong)

/-- 'laws.FnExactAccepts': WHATEVER THE INPUT: true; the input reads as it did. -/
def fnExactAcceptsSpec : ChangeSpec := { name := "fnExactAccepts", fn := fun _ => fun
  | [d1, d2] => { results := [.lit (.bool true)], args := [d1, d2] }
  | _ => none }
def fnExactAcceptsRow : OpenClaim := { program := "ytijbhcalknfijaa", sum := "7ed93e6998ae451f97edbcb0b9adc504544968e60430f2c3dcbc035c038650ec", func := "loop.example/g01033/laws.FnExactAccepts", spec := "fnExactAccepts", unfollowed := true, recurses := true, apart := false }
def FnExactAcceptsSaid : Prop := fnExactAcceptsRow.holds Try.pinned (OpenSpec.ofChange fnExactAcceptsSpec)

/-- ITS FALSE NEIGHBOUR: 'it returns false'. Refute it at one input. -/
def fnExactAcceptsWrong : ChangeSpec := { name := "fnExactAccepts", fn := fun _ => fun
  | [d1, d2] => { results := [.lit (.bool false)], args := [d1, d2] }
  | _ => none }
def FnExactAcceptsWrongFalsely : Prop := fnExactAcceptsRow.holds Try.pinned (OpenSpec.ofChange fnExactAcceptsWrong)

/-- 'laws.FnExactDeadStates': WHATEVER THE INPUT: true; the input reads as it did. -/
def fnExactDeadStatesSpec : ChangeSpec := { name := "fnExactDeadStates", fn := fun _ => fun
  | [d] => { results := [.lit (.bool true)], args := [d] }
  | _ => none }
def fnExactDeadStatesRow : OpenClaim := { program := "ytijbhcalknfijaa", sum := "7ed93e6998ae451f97edbcb0b9adc504544968e60430f2c3dcbc035c038650ec", func := "loop.example/g01033/laws.FnExactDeadStates", spec := "fnExactDeadStates", unfollowed := true, recurses := true, apart := false }
def FnExactDeadStatesSaid : Prop := fnExactDeadStatesRow.holds Try.pinned (OpenSpec.ofChange fnExactDeadStatesSpec)

/-- ITS FALSE NEIGHBOUR: 'it returns false'. Refute it at one input. -/
def fnExactDeadStatesWrong : ChangeSpec := { name := "fnExactDeadStates", fn := fun _ => fun
  | [d] => { results := [.lit (.bool false)], args := [d] }
  | _ => none }
def FnExactDeadStatesWrongFalsely : Prop := fnExactDeadStatesRow.holds Try.pinned (OpenSpec.ofChange fnExactDeadStatesWrong)

/-- 'laws.FnExactNumberedMelody': WHATEVER THE INPUT: true; the input reads as it did. -/
def fnExactNumberedMelodySpec : ChangeSpec := { name := "fnExactNumberedMelody", fn := fun _ => fun
  | [d1, d2, d3] => { results := [.lit (.bool true)], args := [d1, d2, d3] }
  | _ => none }
def fnExactNumberedMelodyRow : OpenClaim := { program := "ytijbhcalknfijaa", sum := "7ed93e6998ae451f97edbcb0b9adc504544968e60430f2c3dcbc035c038650ec", func := "loop.example/g01033/laws.FnExactNumberedMelody", spec := "fnExactNumberedMelody", unfollowed := true, recurses := true, apart := false }
def FnExactNumberedMelodySaid : Prop := fnExactNumberedMelodyRow.holds Try.pinned (OpenSpec.ofChange fnExactNumberedMelodySpec)

/-- ITS FALSE NEIGHBOUR: 'it returns false'. Refute it at one input. -/
def fnExactNumberedMelodyWrong : ChangeSpec := { name := "fnExactNumberedMelody", fn := fun _ => fun
  | [d1, d2, d3] => { results := [.lit (.bool false)], args := [d1, d2, d3] }
  | _ => none }
def FnExactNumberedMelodyWrongFalsely : Prop := fnExactNumberedMelodyRow.holds Try.pinned (OpenSpec.ofChange fnExactNumberedMelodyWrong)

/-- 'laws.FnExactWrongTurn': WHATEVER THE INPUT: true; the input reads as it did. -/
def fnExactWrongTurnSpec : ChangeSpec := { name := "fnExactWrongTurn", fn := fun _ => fun
  | [d1, d2] => { results := [.lit (.bool true)], args := [d1, d2] }
  | _ => none }
def fnExactWrongTurnRow : OpenClaim := { program := "ytijbhcalknfijaa", sum := "7ed93e6998ae451f97edbcb0b9adc504544968e60430f2c3dcbc035c038650ec", func := "loop.example/g01033/laws.FnExactWrongTurn", spec := "fnExactWrongTurn", unfollowed := true, recurses := true, apart := false }
def FnExactWrongTurnSaid : Prop := fnExactWrongTurnRow.holds Try.pinned (OpenSpec.ofChange fnExactWrongTurnSpec)

/-- ITS FALSE NEIGHBOUR: 'it returns false'. Refute it at one input. -/
def fnExactWrongTurnWrong : ChangeSpec := { name := "fnExactWrongTurn", fn := fun _ => fun
  | [d1, d2] => { results := [.lit (.bool false)], args := [d1, d2] }
  | _ => none }
def FnExactWrongTurnWrongFalsely : Prop := fnExactWrongTurnRow.holds Try.pinned (OpenSpec.ofChange fnExactWrongTurnWrong)

/-- 'laws.FnExactShortestMelody': WHATEVER THE INPUT: true; the input reads as it did. -/
def fnExactShortestMelodySpec : ChangeSpec := { name := "fnExactShortestMelody", fn := fun _ => fun
  | [d] => { results := [.lit (.bool true)], args := [d] }
  | _ => none }
def fnExactShortestMelodyRow : OpenClaim := { program := "ytijbhcalknfijaa", sum := "7ed93e6998ae451f97edbcb0b9adc504544968e60430f2c3dcbc035c038650ec", func := "loop.example/g01033/laws.FnExactShortestMelody", spec := "fnExactShortestMelody", unfollowed := true, recurses := true, apart := false }
def FnExactShortestMelodySaid : Prop := fnExactShortestMelodyRow.holds Try.pinned (OpenSpec.ofChange fnExactShortestMelodySpec)

/-- ITS FALSE NEIGHBOUR: 'it returns false'. Refute it at one input. -/
def fnExactShortestMelodyWrong : ChangeSpec := { name := "fnExactShortestMelody", fn := fun _ => fun
  | [d] => { results := [.lit (.bool false)], args := [d] }
  | _ => none }
def FnExactShortestMelodyWrongFalsely : Prop := fnExactShortestMelodyRow.holds Try.pinned (OpenSpec.ofChange fnExactShortestMelodyWrong)

/-- 'laws.FnExactMelodyNumber': WHATEVER THE INPUT: true; the input reads as it did. -/
def fnExactMelodyNumberSpec : ChangeSpec := { name := "fnExactMelodyNumber", fn := fun _ => fun
  | [d1, d2] => { results := [.lit (.bool true)], args := [d1, d2] }
  | _ => none }
def fnExactMelodyNumberRow : OpenClaim := { program := "ytijbhcalknfijaa", sum := "7ed93e6998ae451f97edbcb0b9adc504544968e60430f2c3dcbc035c038650ec", func := "loop.example/g01033/laws.FnExactMelodyNumber", spec := "fnExactMelodyNumber", unfollowed := true, recurses := true, apart := false }
def FnExactMelodyNumberSaid : Prop := fnExactMelodyNumberRow.holds Try.pinned (OpenSpec.ofChange fnExactMelodyNumberSpec)

/-- ITS FALSE NEIGHBOUR: 'it returns false'. Refute it at one input. -/
def fnExactMelodyNumberWrong : ChangeSpec := { name := "fnExactMelodyNumber", fn := fun _ => fun
  | [d1, d2] => { results := [.lit (.bool false)], args := [d1, d2] }
  | _ => none }
def FnExactMelodyNumberWrongFalsely : Prop := fnExactMelodyNumberRow.holds Try.pinned (OpenSpec.ofChange fnExactMelodyNumberWrong)

/-- 'laws.FnExactMeetGrammars': WHATEVER THE INPUT: true; the input reads as it did. -/
def fnExactMeetGrammarsSpec : ChangeSpec := { name := "fnExactMeetGrammars", fn := fun _ => fun
  | [d1, d2] => { results := [.lit (.bool true)], args := [d1, d2] }
  | _ => none }
def fnExactMeetGrammarsRow : OpenClaim := { program := "ytijbhcalknfijaa", sum := "7ed93e6998ae451f97edbcb0b9adc504544968e60430f2c3dcbc035c038650ec", func := "loop.example/g01033/laws.FnExactMeetGrammars", spec := "fnExactMeetGrammars", unfollowed := true, recurses := true, apart := false }
def FnExactMeetGrammarsSaid : Prop := fnExactMeetGrammarsRow.holds Try.pinned (OpenSpec.ofChange fnExactMeetGrammarsSpec)

/-- ITS FALSE NEIGHBOUR: 'it returns false'. Refute it at one input. -/
def fnExactMeetGrammarsWrong : ChangeSpec := { name := "fnExactMeetGrammars", fn := fun _ => fun
  | [d1, d2] => { results := [.lit (.bool false)], args := [d1, d2] }
  | _ => none }
def FnExactMeetGrammarsWrongFalsely : Prop := fnExactMeetGrammarsRow.holds Try.pinned (OpenSpec.ofChange fnExactMeetGrammarsWrong)

/-- 'laws.FnExactPhraseFits': WHATEVER THE INPUT: true; the input reads as it did. -/
def fnExactPhraseFitsSpec : ChangeSpec := { name := "fnExactPhraseFits", fn := fun _ => fun
  | [d1, d2] => { results := [.lit (.bool true)], args := [d1, d2] }
  | _ => none }
def fnExactPhraseFitsRow : OpenClaim := { program := "ytijbhcalknfijaa", sum := "7ed93e6998ae451f97edbcb0b9adc504544968e60430f2c3dcbc035c038650ec", func := "loop.example/g01033/laws.FnExactPhraseFits", spec := "fnExactPhraseFits", unfollowed := true, recurses := true, apart := false }
def FnExactPhraseFitsSaid : Prop := fnExactPhraseFitsRow.holds Try.pinned (OpenSpec.ofChange fnExactPhraseFitsSpec)

/-- ITS FALSE NEIGHBOUR: 'it returns false'. Refute it at one input. -/
def fnExactPhraseFitsWrong : ChangeSpec := { name := "fnExactPhraseFits", fn := fun _ => fun
  | [d1, d2] => { results := [.lit (.bool false)], args := [d1, d2] }
  | _ => none }
def FnExactPhraseFitsWrongFalsely : Prop := fnExactPhraseFitsRow.holds Try.pinned (OpenSpec.ofChange fnExactPhraseFitsWrong)

/-- 'laws.FnExactGrammarOf': WHATEVER THE INPUT: true; the input reads as it did. -/
def fnExactGrammarOfSpec : ChangeSpec := { name := "fnExactGrammarOf", fn := fun _ => fun
  | [d1, d2, d3] => { results := [.lit (.bool true)], args := [d1, d2, d3] }
  | _ => none }
def fnExactGrammarOfRow : OpenClaim := { program := "ytijbhcalknfijaa", sum := "7ed93e6998ae451f97edbcb0b9adc504544968e60430f2c3dcbc035c038650ec", func := "loop.example/g01033/laws.FnExactGrammarOf", spec := "fnExactGrammarOf", unfollowed := true, recurses := true, apart := false }
def FnExactGrammarOfSaid : Prop := fnExactGrammarOfRow.holds Try.pinned (OpenSpec.ofChange fnExactGrammarOfSpec)

/-- ITS FALSE NEIGHBOUR: 'it returns false'. Refute it at one input. -/
def fnExactGrammarOfWrong : ChangeSpec := { name := "fnExactGrammarOf", fn := fun _ => fun
  | [d1, d2, d3] => { results := [.lit (.bool false)], args := [d1, d2, d3] }
  | _ => none }
def FnExactGrammarOfWrongFalsely : Prop := fnExactGrammarOfRow.holds Try.pinned (OpenSpec.ofChange fnExactGrammarOfWrong)

/- THE SECOND FORM. 'bulk': how many values and letters a reading holds, each counted each time it is reached (what is shared counts as often as it is met; a slice's spare places count too). A statement '..UptoSaid' is the law's where the arguments, and the package variables that the reading takes, are together of bulk at most 1048576: NARROWER than '..Said'. Prove '..Said' where nothing that the law and all that it calls make is longer than what came in: it says more and counts as full. Else prove '..UptoSaid'. A law counts once. -/
mutual
def uptoBulk {H : Type} : DataW H → Nat
  | .lit (.string bytes) => bytes.length + 1
  | .lit _ => 1
  | .nil => 1
  | .ptr d => uptoBulk d + 1
  | .slice elems spare => uptoBulkAll elems + uptoBulkAll spare + 1
  | .agg parts => uptoBulkAll parts + 1
  | .iface _ d => uptoBulk d + 1
  | .map entries => uptoBulkEntries entries + 1
  | .held _ => 1
def uptoBulkAll {H : Type} : List (DataW H) → Nat
  | [] => 0
  | d :: r => uptoBulk d + uptoBulkAll r
def uptoBulkEntries {H : Type} : List (Lit × DataW H) → Nat
  | [] => 0
  | x :: r => uptoBulkEntry x + uptoBulkEntries r
def uptoBulkEntry {H : Type} : Lit × DataW H → Nat
  | (.string bytes, d) => bytes.length + uptoBulk d + 1
  | (_, d) => uptoBulk d + 1
 end
def uptoSmall : (H : Type) → List (DataW H) → Bool := fun _ ds => decide (uptoBulkAll ds ≤ 1048576)
def OpenSpec.upto (s : _root_.Go.ChangeSpec) : _root_.Go.OpenSpec := { _root_.Go.OpenSpec.ofChange s with cond := some uptoSmall }

/-- 'laws.FnExactSameGrammar', WHERE WHAT IT READS IS OF BULK AT MOST 1048576: true; the input reads as it did. -/
def fnExactSameGrammarUptoRow : OpenClaim := { program := "ytijbhcalknfijaa", sum := "7ed93e6998ae451f97edbcb0b9adc504544968e60430f2c3dcbc035c038650ec", func := "loop.example/g01033/laws.FnExactSameGrammar", spec := "fnExactSameGrammar", apart := false, narrowed := true }
def FnExactSameGrammarUptoSaid : Prop := fnExactSameGrammarUptoRow.holds Try.pinned (OpenSpec.upto fnExactSameGrammarSpec)

/-- 'laws.FnExactValidGrammar', WHERE WHAT IT READS IS OF BULK AT MOST 1048576: true; the input reads as it did. -/
def fnExactValidGrammarUptoRow : OpenClaim := { program := "ytijbhcalknfijaa", sum := "7ed93e6998ae451f97edbcb0b9adc504544968e60430f2c3dcbc035c038650ec", func := "loop.example/g01033/laws.FnExactValidGrammar", spec := "fnExactValidGrammar", unfollowed := true, recurses := true, apart := false, narrowed := true }
def FnExactValidGrammarUptoSaid : Prop := fnExactValidGrammarUptoRow.holds Try.pinned (OpenSpec.upto fnExactValidGrammarSpec)

/-- 'laws.FnExactCountMelodies', WHERE WHAT IT READS IS OF BULK AT MOST 1048576: true; the input reads as it did. -/
def fnExactCountMelodiesUptoRow : OpenClaim := { program := "ytijbhcalknfijaa", sum := "7ed93e6998ae451f97edbcb0b9adc504544968e60430f2c3dcbc035c038650ec", func := "loop.example/g01033/laws.FnExactCountMelodies", spec := "fnExactCountMelodies", unfollowed := true, recurses := true, apart := false, narrowed := true }
def FnExactCountMelodiesUptoSaid : Prop := fnExactCountMelodiesUptoRow.holds Try.pinned (OpenSpec.upto fnExactCountMelodiesSpec)

/-- 'laws.FnExactAccepts', WHERE WHAT IT READS IS OF BULK AT MOST 1048576: true; the input reads as it did. -/
def fnExactAcceptsUptoRow : OpenClaim := { program := "ytijbhcalknfijaa", sum := "7ed93e6998ae451f97edbcb0b9adc504544968e60430f2c3dcbc035c038650ec", func := "loop.example/g01033/laws.FnExactAccepts", spec := "fnExactAccepts", unfollowed := true, recurses := true, apart := false, narrowed := true }
def FnExactAcceptsUptoSaid : Prop := fnExactAcceptsUptoRow.holds Try.pinned (OpenSpec.upto fnExactAcceptsSpec)

/-- 'laws.FnExactDeadStates', WHERE WHAT IT READS IS OF BULK AT MOST 1048576: true; the input reads as it did. -/
def fnExactDeadStatesUptoRow : OpenClaim := { program := "ytijbhcalknfijaa", sum := "7ed93e6998ae451f97edbcb0b9adc504544968e60430f2c3dcbc035c038650ec", func := "loop.example/g01033/laws.FnExactDeadStates", spec := "fnExactDeadStates", unfollowed := true, recurses := true, apart := false, narrowed := true }
def FnExactDeadStatesUptoSaid : Prop := fnExactDeadStatesUptoRow.holds Try.pinned (OpenSpec.upto fnExactDeadStatesSpec)

/-- 'laws.FnExactNumberedMelody', WHERE WHAT IT READS IS OF BULK AT MOST 1048576: true; the input reads as it did. -/
def fnExactNumberedMelodyUptoRow : OpenClaim := { program := "ytijbhcalknfijaa", sum := "7ed93e6998ae451f97edbcb0b9adc504544968e60430f2c3dcbc035c038650ec", func := "loop.example/g01033/laws.FnExactNumberedMelody", spec := "fnExactNumberedMelody", unfollowed := true, recurses := true, apart := false, narrowed := true }
def FnExactNumberedMelodyUptoSaid : Prop := fnExactNumberedMelodyUptoRow.holds Try.pinned (OpenSpec.upto fnExactNumberedMelodySpec)

/-- 'laws.FnExactWrongTurn', WHERE WHAT IT READS IS OF BULK AT MOST 1048576: true; the input reads as it did. -/
def fnExactWrongTurnUptoRow : OpenClaim := { program := "ytijbhcalknfijaa", sum := "7ed93e6998ae451f97edbcb0b9adc504544968e60430f2c3dcbc035c038650ec", func := "loop.example/g01033/laws.FnExactWrongTurn", spec := "fnExactWrongTurn", unfollowed := true, recurses := true, apart := false, narrowed := true }
def FnExactWrongTurnUptoSaid : Prop := fnExactWrongTurnUptoRow.holds Try.pinned (OpenSpec.upto fnExactWrongTurnSpec)

/-- 'laws.FnExactShortestMelody', WHERE WHAT IT READS IS OF BULK AT MOST 1048576: true; the input reads as it did. -/
def fnExactShortestMelodyUptoRow : OpenClaim := { program := "ytijbhcalknfijaa", sum := "7ed93e6998ae451f97edbcb0b9adc504544968e60430f2c3dcbc035c038650ec", func := "loop.example/g01033/laws.FnExactShortestMelody", spec := "fnExactShortestMelody", unfollowed := true, recurses := true, apart := false, narrowed := true }
def FnExactShortestMelodyUptoSaid : Prop := fnExactShortestMelodyUptoRow.holds Try.pinned (OpenSpec.upto fnExactShortestMelodySpec)

/-- 'laws.FnExactMelodyNumber', WHERE WHAT IT READS IS OF BULK AT MOST 1048576: true; the input reads as it did. -/
def fnExactMelodyNumberUptoRow : OpenClaim := { program := "ytijbhcalknfijaa", sum := "7ed93e6998ae451f97edbcb0b9adc504544968e60430f2c3dcbc035c038650ec", func := "loop.example/g01033/laws.FnExactMelodyNumber", spec := "fnExactMelodyNumber", unfollowed := true, recurses := true, apart := false, narrowed := true }
def FnExactMelodyNumberUptoSaid : Prop := fnExactMelodyNumberUptoRow.holds Try.pinned (OpenSpec.upto fnExactMelodyNumberSpec)

/-- 'laws.FnExactMeetGrammars', WHERE WHAT IT READS IS OF BULK AT MOST 1048576: true; the input reads as it did. -/
def fnExactMeetGrammarsUptoRow : OpenClaim := { program := "ytijbhcalknfijaa", sum := "7ed93e6998ae451f97edbcb0b9adc504544968e60430f2c3dcbc035c038650ec", func := "loop.example/g01033/laws.FnExactMeetGrammars", spec := "fnExactMeetGrammars", unfollowed := true, recurses := true, apart := false, narrowed := true }
def FnExactMeetGrammarsUptoSaid : Prop := fnExactMeetGrammarsUptoRow.holds Try.pinned (OpenSpec.upto fnExactMeetGrammarsSpec)

/-- 'laws.FnExactPhraseFits', WHERE WHAT IT READS IS OF BULK AT MOST 1048576: true; the input reads as it did. -/
def fnExactPhraseFitsUptoRow : OpenClaim := { program := "ytijbhcalknfijaa", sum := "7ed93e6998ae451f97edbcb0b9adc504544968e60430f2c3dcbc035c038650ec", func := "loop.example/g01033/laws.FnExactPhraseFits", spec := "fnExactPhraseFits", unfollowed := true, recurses := true, apart := false, narrowed := true }
def FnExactPhraseFitsUptoSaid : Prop := fnExactPhraseFitsUptoRow.holds Try.pinned (OpenSpec.upto fnExactPhraseFitsSpec)

/-- 'laws.FnExactGrammarOf', WHERE WHAT IT READS IS OF BULK AT MOST 1048576: true; the input reads as it did. -/
def fnExactGrammarOfUptoRow : OpenClaim := { program := "ytijbhcalknfijaa", sum := "7ed93e6998ae451f97edbcb0b9adc504544968e60430f2c3dcbc035c038650ec", func := "loop.example/g01033/laws.FnExactGrammarOf", spec := "fnExactGrammarOf", unfollowed := true, recurses := true, apart := false, narrowed := true }
def FnExactGrammarOfUptoSaid : Prop := fnExactGrammarOfUptoRow.holds Try.pinned (OpenSpec.upto fnExactGrammarOfSpec)

end Rows
end Go.Proofs.Ytijbhcalknfijaa
