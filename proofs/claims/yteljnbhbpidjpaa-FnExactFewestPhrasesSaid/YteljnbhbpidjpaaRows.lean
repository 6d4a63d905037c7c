/-
  No cell of these rows narrows 'for every input' (looked for: loops, veiled, ifaces, maps, wideKeys, modest, calm, conditions, laid).
  DERIVED. THE GIVEN ROWS OF THIS SEAT. 2 by the template 'for every input the law returns true; each argument reads behind the call as it read before'; 0 by the template 'total and deterministic' (their statements: YteljnbhbpidjpaaTotals.lean).
  GIVEN WITH THE SEED: the statements are not yours to turn. If you find one false, say at which input.
  Laid BY PROGRAM, IN A SANDBOX (cutbox-rows.mjs): the forced cells as the released guide's own fill.sh prints them over the translation 5396aa3c614168a3… (all of the seat's roots in one cut). By AI agents, Wed Nov 11 2026. No macro, syntax, notation, axiom, sorry.
-/
import Derived.Test.YteljnbhbpidjpaaChecked
import GoSem.Claim
import GoSem.ClaimJoined
import GoSem.ClaimMapViews
import Derived.JoinedTies
import Derived.KernelRfl
namespace Go.Proofs.Yteljnbhbpidjpaa
/- THE CELL 'sum', in the pinned program and in every row, IS THE sha256 OF THE DUMP (.gsa) THAT YteljnbhbpidjpaaProg.lean LOADS. Nothing in Lean hashes anything: it is a label: what it is worth is what the hold of that sum in a sandbox is worth. -/
noncomputable def Try.pinned : Pinned := { name := "yteljnbhbpidjpaa", sum := "5396aa3c614168a3092ed201164a9156a8be46f13136b7766c6010348c448754", checked := Try.checked }
namespace Rows
def none {H : Type} : Left H := { results := [], args := [] }

/-- 'laws.FnExactFewestPhrases': WHATEVER THE INPUT: true; the input reads as it did. -/
def fnExactFewestPhrasesSpec : ChangeSpec := { name := "fnExactFewestPhrases", fn := fun _ => fun
  | [d1, d2, d3] => { results := [.lit (.bool true)], args := [d1, d2, d3] }
  | _ => none }
def fnExactFewestPhrasesRow : OpenClaim := { program := "yteljnbhbpidjpaa", sum := "5396aa3c614168a3092ed201164a9156a8be46f13136b7766c6010348c448754", func := "loop.example/g01033/laws.FnExactFewestPhrases", spec := "fnExactFewestPhrases", unfollowed := true, recurses := true, apart := false }
def FnExactFewestPhrasesSaid : Prop := fnExactFewestPhrasesRow.holds Try.pinned (OpenSpec.ofChange fnExactFewestPhrasesSpec)

/-- ITS FALSE NEIGHBOUR: 'it returns false'. Refute it at one input. -/
def fnExactFewestPhrasesWrong : ChangeSpec := { name := "fnExactFewestPhrases", fn := fun _ => fun
  | [d1, d2, d3] => { results := [.lit (.bool false)], args := [d1, d2, d3] }
  | _ => none }
def FnExactFewestPhrasesWrongFalsely : Prop := fnExactFewestPhrasesRow.holds Try.pinned (OpenSpec.ofChange fnExactFewestPhrasesWrong)

/-- 'laws.FnExactMeetGrammars': WHATEVER THE INPUT: true; the input reads as it did. -/
def fnExactMeetGrammarsSpec : ChangeSpec := { name := "fnExactMeetGrammars", fn := fun _ => fun
  | [d1, d2] => { results := [.lit (.bool true)], args := [d1, d2] }
  | _ => none }
def fnExactMeetGrammarsRow : OpenClaim := { program := "yteljnbhbpidjpaa", sum := "5396aa3c614168a3092ed201164a9156a8be46f13136b7766c6010348c448754", func := "loop.example/g01033/laws.FnExactMeetGrammars", spec := "fnExactMeetGrammars", unfollowed := true, recurses := true, apart := false }
def FnExactMeetGrammarsSaid : Prop := fnExactMeetGrammarsRow.holds Try.pinned (OpenSpec.ofChange fnExactMeetGrammarsSpec)

/-- ITS FALSE NEIGHBOUR: 'it returns false'. Refute it at one input. -/
def fnExactMeetGrammarsWrong : ChangeSpec := { name := "fnExactMeetGrammars", fn := fun _ => fun
  | [d1, d2] => { results := [.lit (.bool false)], args := [d1, d2] }
  | _ => none }
def FnExactMeetGrammarsWrongFalsely : Prop := fnExactMeetGrammarsRow.holds Try.pinned (OpenSpec.ofChange fnExactMeetGrammarsWrong)

/- THE SECOND FORM. 'bulk': how many values and letters a reading holds, each counted each time it is reached (what is shared counts as often as it is met; a slice's spare places count too). A statement '..UptoSaid' is the law's where the arguments, and the package variables that the reading takes, are together of bulk at most 1048576: NARROWER than '..Said'. Prove '..Said' where nothing that the law and all that it calls make is longer than what came in: it says more and counts as full. Else prove '..UptoSaid'. A law counts once. -/
mutual
def uptoBulk {H : Type} : DataW H → Nat
  | .lit (.string bytes) => bytes.length + 1
  | .lit _ => 1
  | .nil => 1
  | .ptr d => uptoBulk d + 1
  | .slice elems spare => uptoBulkAll elems + uptoBulkAll spare + 1
  | .agg parts => uptoBulkAll parts + 1
  | .iface _ d => uptoBulk d + 1
  | .map entries => uptoBulkEntries entries + 1
  | .held _ => 1
def uptoBulkAll {H : Type} : List (DataW H) → Nat
  | [] => 0
  | d :: r => uptoBulk d + uptoBulkAll r
def uptoBulkEntries {H : Type} : List (Lit × DataW H) → Nat
  | [] => 0
  | x :: r => uptoBulkEntry x + uptoBulkEntries r
def uptoBulkEntry {H : Type} : Lit × DataW H → Nat
  | (.string bytes, d) => bytes.length + uptoBulk d + 1
  | (_, d) => uptoBulk d + 1
 end
def uptoSmall : (H : Type) → List (DataW H) → Bool := fun _ ds => decide (uptoBulkAll ds ≤ 1048576)
def OpenSpec.upto (s : _root_.Go.ChangeSpec) : _root_.Go.OpenSpec := { _root_.Go.OpenSpec.ofChange s with cond := some uptoSmall }

/-- 'laws.FnExactFewestPhrases', WHERE WHAT IT READS IS OF BULK AT MOST 1048576: true; the input reads as it did. -/
def fnExactFewestPhrasesUptoRow : OpenClaim := { program := "yteljnbhbpidjpaa", sum := "5396aa3c614168a3092ed201164a9156a8be46f13136b7766c6010348c448754", func := "loop.example/g01033/laws.FnExactFewestPhrases", spec := "fnExactFewestPhrases", unfollowed := true, recurses := true, apart := false, narrowed := true }
def FnExactFewestPhrasesUptoSaid : Prop := fnExactFewestPhrasesUptoRow.holds Try.pinned (OpenSpec.upto fnExactFewestPhrasesSpec)

/-- 'laws.FnExactMeetGrammars', WHERE WHAT IT READS IS OF BULK AT MOST 1048576: true; the input reads as it did. -/
def fnExactMeetGrammarsUptoRow : OpenClaim := { program := "yteljnbhbpidjpaa", sum := "5396aa3c614168a3092ed201164a9156a8be46f13136b7766c6010348c448754", func := "loop.example/g01033/laws.FnExactMeetGrammars", spec := "fnExactMeetGrammars", unfollowed := true, recurses := true, apart := false, narrowed := true }
def FnExactMeetGrammarsUptoSaid : Prop := fnExactMeetGrammarsUptoRow.holds Try.pinned (OpenSpec.upto fnExactMeetGrammarsSpec)

end Rows
end Go.Proofs.Yteljnbhbpidjpaa
