/-
  No cell of these rows narrows 'for every input' (looked for: loops, veiled, ifaces, maps, wideKeys, modest, calm, conditions, laid).
  DERIVED. THE GIVEN ROWS OF THIS SEAT. 7 by the template 'for every input the law returns true; each argument reads behind the call as it read before'; 0 by the template 'total and deterministic' (their statements: YtnpifkjbnkfiaaaTotals.lean).
  GIVEN WITH THE SEED: the statements are not yours to turn. If you find one false, say at which input.
  Laid BY PROGRAM, IN A SANDBOX (cutbox-rows.mjs): the forced cells as the released guide's own fill.sh prints them over the translation 5e25704b8321d14c… (all of the seat's roots in one cut). By AI agents, Wed Nov 11 2026. No macro, syntax, notation, axiom, sorry.
-/
import Derived.Test.YtnpifkjbnkfiaaaChecked
import GoSem.Claim
import GoSem.ClaimJoined
import GoSem.ClaimMapViews
import Derived.JoinedTies
import Derived.KernelRfl
namespace Go.Proofs.Ytnpifkjbnkfiaaa
/- THE CELL 'sum', in the pinned program and in every row, IS THE sha256 OF THE DUMP (.gsa) THAT YtnpifkjbnkfiaaaProg.lean LOADS. Nothing in Lean hashes anything: it is a label: what it is worth is what the hold of that sum in a sandbox is worth. -/
noncomputable def Try.pinned : Pinned := { name := "ytnpifkjbnkfiaaa", sum := "5e25704b8321d14cea6e390d7473189af1949496bf58a1485419db3187886753", checked := Try.checked }
namespace Rows
def none {H : Type} : Left H := { results := [], args := [] }

/-- 'laws.FnExactMirrorMelody': WHATEVER THE INPUT: true; the input reads as it did. -/
def fnExactMirrorMelodySpec : ChangeSpec := { name := "fnExactMirrorMelody", fn := fun _ => fun
  | [d1, d2] => { results := [.lit (.bool true)], args := [d1, d2] }
  | _ => none }
def fnExactMirrorMelodyRow : OpenClaim := { program := "ytnpifkjbnkfiaaa", sum := "5e25704b8321d14cea6e390d7473189af1949496bf58a1485419db3187886753", func := "loop.example/g01033/laws.FnExactMirrorMelody", spec := "fnExactMirrorMelody", unfollowed := true, recurses := true, apart := false }
def FnExactMirrorMelodySaid : Prop := fnExactMirrorMelodyRow.holds Try.pinned (OpenSpec.ofChange fnExactMirrorMelodySpec)

/-- ITS FALSE NEIGHBOUR: 'it returns false'. Refute it at one input. -/
def fnExactMirrorMelodyWrong : ChangeSpec := { name := "fnExactMirrorMelody", fn := fun _ => fun
  | [d1, d2] => { results := [.lit (.bool false)], args := [d1, d2] }
  | _ => none }
def FnExactMirrorMelodyWrongFalsely : Prop := fnExactMirrorMelodyRow.holds Try.pinned (OpenSpec.ofChange fnExactMirrorMelodyWrong)

/-- 'laws.FnExactTransposeMelody': WHATEVER THE INPUT: true; the input reads as it did. -/
def fnExactTransposeMelodySpec : ChangeSpec := { name := "fnExactTransposeMelody", fn := fun _ => fun
  | [d1, d2] => { results := [.lit (.bool true)], args := [d1, d2] }
  | _ => none }
def fnExactTransposeMelodyRow : OpenClaim := { program := "ytnpifkjbnkfiaaa", sum := "5e25704b8321d14cea6e390d7473189af1949496bf58a1485419db3187886753", func := "loop.example/g01033/laws.FnExactTransposeMelody", spec := "fnExactTransposeMelody", unfollowed := true, recurses := true, apart := false }
def FnExactTransposeMelodySaid : Prop := fnExactTransposeMelodyRow.holds Try.pinned (OpenSpec.ofChange fnExactTransposeMelodySpec)

/-- ITS FALSE NEIGHBOUR: 'it returns false'. Refute it at one input. -/
def fnExactTransposeMelodyWrong : ChangeSpec := { name := "fnExactTransposeMelody", fn := fun _ => fun
  | [d1, d2] => { results := [.lit (.bool false)], args := [d1, d2] }
  | _ => none }
def FnExactTransposeMelodyWrongFalsely : Prop := fnExactTransposeMelodyRow.holds Try.pinned (OpenSpec.ofChange fnExactTransposeMelodyWrong)

/-- 'laws.FnExactStretchMelody': WHATEVER THE INPUT: true; the input reads as it did. -/
def fnExactStretchMelodySpec : ChangeSpec := { name := "fnExactStretchMelody", fn := fun _ => fun
  | [d1, d2, d3] => { results := [.lit (.bool true)], args := [d1, d2, d3] }
  | _ => none }
def fnExactStretchMelodyRow : OpenClaim := { program := "ytnpifkjbnkfiaaa", sum := "5e25704b8321d14cea6e390d7473189af1949496bf58a1485419db3187886753", func := "loop.example/g01033/laws.FnExactStretchMelody", spec := "fnExactStretchMelody", unfollowed := true, recurses := true, apart := false }
def FnExactStretchMelodySaid : Prop := fnExactStretchMelodyRow.holds Try.pinned (OpenSpec.ofChange fnExactStretchMelodySpec)

/-- ITS FALSE NEIGHBOUR: 'it returns false'. Refute it at one input. -/
def fnExactStretchMelodyWrong : ChangeSpec := { name := "fnExactStretchMelody", fn := fun _ => fun
  | [d1, d2, d3] => { results := [.lit (.bool false)], args := [d1, d2, d3] }
  | _ => none }
def FnExactStretchMelodyWrongFalsely : Prop := fnExactStretchMelodyRow.holds Try.pinned (OpenSpec.ofChange fnExactStretchMelodyWrong)

/-- 'laws.FnExactJoinMelodies': WHATEVER THE INPUT: true; the input reads as it did. -/
def fnExactJoinMelodiesSpec : ChangeSpec := { name := "fnExactJoinMelodies", fn := fun _ => fun
  | [d1, d2] => { results := [.lit (.bool true)], args := [d1, d2] }
  | _ => none }
def fnExactJoinMelodiesRow : OpenClaim := { program := "ytnpifkjbnkfiaaa", sum := "5e25704b8321d14cea6e390d7473189af1949496bf58a1485419db3187886753", func := "loop.example/g01033/laws.FnExactJoinMelodies", spec := "fnExactJoinMelodies", unfollowed := true, recurses := true, apart := false }
def FnExactJoinMelodiesSaid : Prop := fnExactJoinMelodiesRow.holds Try.pinned (OpenSpec.ofChange fnExactJoinMelodiesSpec)

/-- ITS FALSE NEIGHBOUR: 'it returns false'. Refute it at one input. -/
def fnExactJoinMelodiesWrong : ChangeSpec := { name := "fnExactJoinMelodies", fn := fun _ => fun
  | [d1, d2] => { results := [.lit (.bool false)], args := [d1, d2] }
  | _ => none }
def FnExactJoinMelodiesWrongFalsely : Prop := fnExactJoinMelodiesRow.holds Try.pinned (OpenSpec.ofChange fnExactJoinMelodiesWrong)

/-- 'laws.FnExactGraceNotes': WHATEVER THE INPUT: true; the input reads as it did. -/
def fnExactGraceNotesSpec : ChangeSpec := { name := "fnExactGraceNotes", fn := fun _ => fun
  | [d1, d2, d3, d4] => { results := [.lit (.bool true)], args := [d1, d2, d3, d4] }
  | _ => none }
def fnExactGraceNotesRow : OpenClaim := { program := "ytnpifkjbnkfiaaa", sum := "5e25704b8321d14cea6e390d7473189af1949496bf58a1485419db3187886753", func := "loop.example/g01033/laws.FnExactGraceNotes", spec := "fnExactGraceNotes", unfollowed := true, recurses := true, apart := false }
def FnExactGraceNotesSaid : Prop := fnExactGraceNotesRow.holds Try.pinned (OpenSpec.ofChange fnExactGraceNotesSpec)

/-- ITS FALSE NEIGHBOUR: 'it returns false'. Refute it at one input. -/
def fnExactGraceNotesWrong : ChangeSpec := { name := "fnExactGraceNotes", fn := fun _ => fun
  | [d1, d2, d3, d4] => { results := [.lit (.bool false)], args := [d1, d2, d3, d4] }
  | _ => none }
def FnExactGraceNotesWrongFalsely : Prop := fnExactGraceNotesRow.holds Try.pinned (OpenSpec.ofChange fnExactGraceNotesWrong)

/-- 'laws.FnExactTrillNote': WHATEVER THE INPUT: true; the input reads as it did. -/
def fnExactTrillNoteSpec : ChangeSpec := { name := "fnExactTrillNote", fn := fun _ => fun
  | [d1, d2, d3, d4] => { results := [.lit (.bool true)], args := [d1, d2, d3, d4] }
  | _ => none }
def fnExactTrillNoteRow : OpenClaim := { program := "ytnpifkjbnkfiaaa", sum := "5e25704b8321d14cea6e390d7473189af1949496bf58a1485419db3187886753", func := "loop.example/g01033/laws.FnExactTrillNote", spec := "fnExactTrillNote", unfollowed := true, recurses := true, apart := false }
def FnExactTrillNoteSaid : Prop := fnExactTrillNoteRow.holds Try.pinned (OpenSpec.ofChange fnExactTrillNoteSpec)

/-- ITS FALSE NEIGHBOUR: 'it returns false'. Refute it at one input. -/
def fnExactTrillNoteWrong : ChangeSpec := { name := "fnExactTrillNote", fn := fun _ => fun
  | [d1, d2, d3, d4] => { results := [.lit (.bool false)], args := [d1, d2, d3, d4] }
  | _ => none }
def FnExactTrillNoteWrongFalsely : Prop := fnExactTrillNoteRow.holds Try.pinned (OpenSpec.ofChange fnExactTrillNoteWrong)

/-- 'laws.FnExactFewestPhrases': WHATEVER THE INPUT: true; the input reads as it did. -/
def fnExactFewestPhrasesSpec : ChangeSpec := { name := "fnExactFewestPhrases", fn := fun _ => fun
  | [d1, d2, d3] => { results := [.lit (.bool true)], args := [d1, d2, d3] }
  | _ => none }
def fnExactFewestPhrasesRow : OpenClaim := { program := "ytnpifkjbnkfiaaa", sum := "5e25704b8321d14cea6e390d7473189af1949496bf58a1485419db3187886753", func := "loop.example/g01033/laws.FnExactFewestPhrases", spec := "fnExactFewestPhrases", unfollowed := true, recurses := true, apart := false }
def FnExactFewestPhrasesSaid : Prop := fnExactFewestPhrasesRow.holds Try.pinned (OpenSpec.ofChange fnExactFewestPhrasesSpec)

/-- ITS FALSE NEIGHBOUR: 'it returns false'. Refute it at one input. -/
def fnExactFewestPhrasesWrong : ChangeSpec := { name := "fnExactFewestPhrases", fn := fun _ => fun
  | [d1, d2, d3] => { results := [.lit (.bool false)], args := [d1, d2, d3] }
  | _ => none }
def FnExactFewestPhrasesWrongFalsely : Prop := fnExactFewestPhrasesRow.holds Try.pinned (OpenSpec.ofChange fnExactFewestPhrasesWrong)

/- THE SECOND FORM. 'bulk': how many values and letters a reading holds, each counted each time it is reached (what is shared counts as often as it is met; a slice's spare places count too). A statement '..UptoSaid' is the law's where the arguments, and the package variables that the reading takes, are together of bulk at most 1048576: NARROWER than '..Said'. Prove '..Said' where nothing that the law and all that it calls make is longer than what came in: it says more and counts as full. Else prove '..UptoSaid'. A law counts once. -/
mutual
def uptoBulk {H : Type} : DataW H → Nat
  | .lit (.string bytes) => bytes.length + 1
  | .lit _ => 1
  | .nil => 1
  | .ptr d => uptoBulk d + 1
  | .slice elems spare => uptoBulkAll elems + uptoBulkAll spare + 1
  | .agg parts => uptoBulkAll parts + 1
  | .iface _ d => uptoBulk d + 1
  | .map entries => uptoBulkEntries entries + 1
  | .held _ => 1
def uptoBulkAll {H : Type} : List (DataW H) → Nat
  | [] => 0
  | d :: r => uptoBulk d + uptoBulkAll r
def uptoBulkEntries {H : Type} : List (Lit × DataW H) → Nat
  | [] => 0
  | x :: r => uptoBulkEntry x + uptoBulkEntries r
def uptoBulkEntry {H : Type} : Lit × DataW H → Nat
  | (.string bytes, d) => bytes.length + uptoBulk d + 1
  | (_, d) => uptoBulk d + 1
 end
def uptoSmall : (H : Type) → List (DataW H) → Bool := fun _ ds => decide (uptoBulkAll ds ≤ 1048576)
def OpenSpec.upto (s : _root_.Go.ChangeSpec) : _root_.Go.OpenSpec := { _root_.Go.OpenSpec.ofChange s with cond := some uptoSmall }

/-- 'laws.FnExactMirrorMelody', WHERE WHAT IT READS IS OF BULK AT MOST 1048576: true; the input reads as it did. -/
def fnExactMirrorMelodyUptoRow : OpenClaim := { program := "ytnpifkjbnkfiaaa", sum := "5e25704b8321d14cea6e390d7473189af1949496bf58a1485419db3187886753", func := "loop.example/g01033/laws.FnExactMirrorMelody", spec := "fnExactMirrorMelody", unfollowed := true, recurses := true, apart := false, narrowed := true }
def FnExactMirrorMelodyUptoSaid : Prop := fnExactMirrorMelodyUptoRow.holds Try.pinned (OpenSpec.upto fnExactMirrorMelodySpec)

/-- 'laws.FnExactTransposeMelody', WHERE WHAT IT READS IS OF BULK AT MOST 1048576: true; the input reads as it did. -/
def fnExactTransposeMelodyUptoRow : OpenClaim := { program := "ytnpifkjbnkfiaaa", sum := "5e25704b8321d14cea6e390d7473189af1949496bf58a1485419db3187886753", func := "loop.example/g01033/laws.FnExactTransposeMelody", spec := "fnExactTransposeMelody", unfollowed := true, recurses := true, apart := false, narrowed := true }
def FnExactTransposeMelodyUptoSaid : Prop := fnExactTransposeMelodyUptoRow.holds Try.pinned (OpenSpec.upto fnExactTransposeMelodySpec)

/-- 'laws.FnExactStretchMelody', WHERE WHAT IT READS IS OF BULK AT MOST 1048576: true; the input reads as it did. -/
def fnExactStretchMelodyUptoRow : OpenClaim := { program := "ytnpifkjbnkfiaaa", sum := "5e25704b8321d14cea6e390d7473189af1949496bf58a1485419db3187886753", func := "loop.example/g01033/laws.FnExactStretchMelody", spec := "fnExactStretchMelody", unfollowed := true, recurses := true, apart := false, narrowed := true }
def FnExactStretchMelodyUptoSaid : Prop := fnExactStretchMelodyUptoRow.holds Try.pinned (OpenSpec.upto fnExactStretchMelodySpec)

/-- 'laws.FnExactJoinMelodies', WHERE WHAT IT READS IS OF BULK AT MOST 1048576: true; the input reads as it did. -/
def fnExactJoinMelodiesUptoRow : OpenClaim := { program := "ytnpifkjbnkfiaaa", sum := "5e25704b8321d14cea6e390d7473189af1949496bf58a1485419db3187886753", func := "loop.example/g01033/laws.FnExactJoinMelodies", spec := "fnExactJoinMelodies", unfollowed := true, recurses := true, apart := false, narrowed := true }
def FnExactJoinMelodiesUptoSaid : Prop := fnExactJoinMelodiesUptoRow.holds Try.pinned (OpenSpec.upto fnExactJoinMelodiesSpec)

/-- 'laws.FnExactGraceNotes', WHERE WHAT IT READS IS OF BULK AT MOST 1048576: true; the input reads as it did. -/
def fnExactGraceNotesUptoRow : OpenClaim := { program := "ytnpifkjbnkfiaaa", sum := "5e25704b8321d14cea6e390d7473189af1949496bf58a1485419db3187886753", func := "loop.example/g01033/laws.FnExactGraceNotes", spec := "fnExactGraceNotes", unfollowed := true, recurses := true, apart := false, narrowed := true }
def FnExactGraceNotesUptoSaid : Prop := fnExactGraceNotesUptoRow.holds Try.pinned (OpenSpec.upto fnExactGraceNotesSpec)

/-- 'laws.FnExactTrillNote', WHERE WHAT IT READS IS OF BULK AT MOST 1048576: true; the input reads as it did. -/
def fnExactTrillNoteUptoRow : OpenClaim := { program := "ytnpifkjbnkfiaaa", sum := "5e25704b8321d14cea6e390d7473189af1949496bf58a1485419db3187886753", func := "loop.example/g01033/laws.FnExactTrillNote", spec := "fnExactTrillNote", unfollowed := true, recurses := true, apart := false, narrowed := true }
def FnExactTrillNoteUptoSaid : Prop := fnExactTrillNoteUptoRow.holds Try.pinned (OpenSpec.upto fnExactTrillNoteSpec)

/-- 'laws.FnExactFewestPhrases', WHERE WHAT IT READS IS OF BULK AT MOST 1048576: true; the input reads as it did. -/
def fnExactFewestPhrasesUptoRow : OpenClaim := { program := "ytnpifkjbnkfiaaa", sum := "5e25704b8321d14cea6e390d7473189af1949496bf58a1485419db3187886753", func := "loop.example/g01033/laws.FnExactFewestPhrases", spec := "fnExactFewestPhrases", unfollowed := true, recurses := true, apart := false, narrowed := true }
def FnExactFewestPhrasesUptoSaid : Prop := fnExactFewestPhrasesUptoRow.holds Try.pinned (OpenSpec.upto fnExactFewestPhrasesSpec)

end Rows
end Go.Proofs.Ytnpifkjbnkfiaaa
