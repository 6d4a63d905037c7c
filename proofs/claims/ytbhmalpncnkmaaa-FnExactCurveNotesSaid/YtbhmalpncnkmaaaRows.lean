/-
  No cell of these rows narrows 'for every input' (looked for: loops, veiled, ifaces, maps, wideKeys, modest, calm, conditions, laid).
  DERIVED. THE GIVEN ROWS OF THIS SEAT. 24 by the template 'for every input the law returns true; each argument reads behind the call as it read before'; 0 by the template 'total and deterministic' (their statements: YtbhmalpncnkmaaaTotals.lean).
  GIVEN WITH THE SEED: the statements are not yours to turn. If you find one false, say at which input.
  Laid BY PROGRAM, IN A SANDBOX (cutbox-rows.mjs): the forced cells as the released guide's own fill.sh prints them over the translation 72466c17eba12cdd… (all of the seat's roots in one cut). By AI agents, Wed Nov 11 2026. No macro, syntax, notation, axiom, sorry.
-/
import Derived.Test.YtbhmalpncnkmaaaChecked
import GoSem.Claim
import GoSem.ClaimJoined
import GoSem.ClaimMapViews
import Derived.JoinedTies
import Derived.KernelRfl
namespace Go.Proofs.Ytbhmalpncnkmaaa
/- THE CELL 'sum', in the pinned program and in every row, IS THE sha256 OF THE DUMP (.gsa) THAT YtbhmalpncnkmaaaProg.lean LOADS. Nothing in Lean hashes anything: it is a label: what it is worth is what the hold of that sum in a sandbox is worth. -/
noncomputable def Try.pinned : Pinned := { name := "ytbhmalpncnkmaaa", sum := "72466c17eba12cdd3e70fd2bd97206089f8e7a5945ebdf924b266b9602905afe", checked := Try.checked }
namespace Rows
def none {H : Type} : Left H := { results := [], args := [] }

/-- 'laws.FnExactValidOrnament': WHATEVER THE INPUT: true; the input reads as it did. -/
def fnExactValidOrnamentSpec : ChangeSpec := { name := "fnExactValidOrnament", fn := fun _ => fun
  | [d] => { results := [.lit (.bool true)], args := [d] }
  | _ => none }
def fnExactValidOrnamentRow : OpenClaim := { program := "ytbhmalpncnkmaaa", sum := "72466c17eba12cdd3e70fd2bd97206089f8e7a5945ebdf924b266b9602905afe", func := "loop.example/g01033/laws.FnExactValidOrnament", spec := "fnExactValidOrnament", apart := false }
def FnExactValidOrnamentSaid : Prop := fnExactValidOrnamentRow.holds Try.pinned (OpenSpec.ofChange fnExactValidOrnamentSpec)

/-- ITS FALSE NEIGHBOUR: 'it returns false'. Refute it at one input. -/
def fnExactValidOrnamentWrong : ChangeSpec := { name := "fnExactValidOrnament", fn := fun _ => fun
  | [d] => { results := [.lit (.bool false)], args := [d] }
  | _ => none }
def FnExactValidOrnamentWrongFalsely : Prop := fnExactValidOrnamentRow.holds Try.pinned (OpenSpec.ofChange fnExactValidOrnamentWrong)

/-- 'laws.FnExactOrnamentName': WHATEVER THE INPUT: true; the input reads as it did. -/
def fnExactOrnamentNameSpec : ChangeSpec := { name := "fnExactOrnamentName", fn := fun _ => fun
  | [d] => { results := [.lit (.bool true)], args := [d] }
  | _ => none }
def fnExactOrnamentNameRow : OpenClaim := { program := "ytbhmalpncnkmaaa", sum := "72466c17eba12cdd3e70fd2bd97206089f8e7a5945ebdf924b266b9602905afe", func := "loop.example/g01033/laws.FnExactOrnamentName", spec := "fnExactOrnamentName", apart := false }
def FnExactOrnamentNameSaid : Prop := fnExactOrnamentNameRow.holds Try.pinned (OpenSpec.ofChange fnExactOrnamentNameSpec)

/-- ITS FALSE NEIGHBOUR: 'it returns false'. Refute it at one input. -/
def fnExactOrnamentNameWrong : ChangeSpec := { name := "fnExactOrnamentName", fn := fun _ => fun
  | [d] => { results := [.lit (.bool false)], args := [d] }
  | _ => none }
def FnExactOrnamentNameWrongFalsely : Prop := fnExactOrnamentNameRow.holds Try.pinned (OpenSpec.ofChange fnExactOrnamentNameWrong)

/-- 'laws.FnExactSameMelody': WHATEVER THE INPUT: true; the input reads as it did. -/
def fnExactSameMelodySpec : ChangeSpec := { name := "fnExactSameMelody", fn := fun _ => fun
  | [d1, d2] => { results := [.lit (.bool true)], args := [d1, d2] }
  | _ => none }
def fnExactSameMelodyRow : OpenClaim := { program := "ytbhmalpncnkmaaa", sum := "72466c17eba12cdd3e70fd2bd97206089f8e7a5945ebdf924b266b9602905afe", func := "loop.example/g01033/laws.FnExactSameMelody", spec := "fnExactSameMelody", apart := false }
def FnExactSameMelodySaid : Prop := fnExactSameMelodyRow.holds Try.pinned (OpenSpec.ofChange fnExactSameMelodySpec)

/-- ITS FALSE NEIGHBOUR: 'it returns false'. Refute it at one input. -/
def fnExactSameMelodyWrong : ChangeSpec := { name := "fnExactSameMelody", fn := fun _ => fun
  | [d1, d2] => { results := [.lit (.bool false)], args := [d1, d2] }
  | _ => none }
def FnExactSameMelodyWrongFalsely : Prop := fnExactSameMelodyRow.holds Try.pinned (OpenSpec.ofChange fnExactSameMelodyWrong)

/-- 'laws.FnExactValidMelody': WHATEVER THE INPUT: true; the input reads as it did. -/
def fnExactValidMelodySpec : ChangeSpec := { name := "fnExactValidMelody", fn := fun _ => fun
  | [d] => { results := [.lit (.bool true)], args := [d] }
  | _ => none }
def fnExactValidMelodyRow : OpenClaim := { program := "ytbhmalpncnkmaaa", sum := "72466c17eba12cdd3e70fd2bd97206089f8e7a5945ebdf924b266b9602905afe", func := "loop.example/g01033/laws.FnExactValidMelody", spec := "fnExactValidMelody", apart := false }
def FnExactValidMelodySaid : Prop := fnExactValidMelodyRow.holds Try.pinned (OpenSpec.ofChange fnExactValidMelodySpec)

/-- ITS FALSE NEIGHBOUR: 'it returns false'. Refute it at one input. -/
def fnExactValidMelodyWrong : ChangeSpec := { name := "fnExactValidMelody", fn := fun _ => fun
  | [d] => { results := [.lit (.bool false)], args := [d] }
  | _ => none }
def FnExactValidMelodyWrongFalsely : Prop := fnExactValidMelodyRow.holds Try.pinned (OpenSpec.ofChange fnExactValidMelodyWrong)

/-- 'laws.FnExactGlideCurve': WHATEVER THE INPUT: true; the input reads as it did. -/
def fnExactGlideCurveSpec : ChangeSpec := { name := "fnExactGlideCurve", fn := fun _ => fun
  | [d1, d2, d3] => { results := [.lit (.bool true)], args := [d1, d2, d3] }
  | _ => none }
def fnExactGlideCurveRow : OpenClaim := { program := "ytbhmalpncnkmaaa", sum := "72466c17eba12cdd3e70fd2bd97206089f8e7a5945ebdf924b266b9602905afe", func := "loop.example/g01033/laws.FnExactGlideCurve", spec := "fnExactGlideCurve", apart := false }
def FnExactGlideCurveSaid : Prop := fnExactGlideCurveRow.holds Try.pinned (OpenSpec.ofChange fnExactGlideCurveSpec)

/-- ITS FALSE NEIGHBOUR: 'it returns false'. Refute it at one input. -/
def fnExactGlideCurveWrong : ChangeSpec := { name := "fnExactGlideCurve", fn := fun _ => fun
  | [d1, d2, d3] => { results := [.lit (.bool false)], args := [d1, d2, d3] }
  | _ => none }
def FnExactGlideCurveWrongFalsely : Prop := fnExactGlideCurveRow.holds Try.pinned (OpenSpec.ofChange fnExactGlideCurveWrong)

/-- 'laws.FnExactCurveError': WHATEVER THE INPUT: true; the input reads as it did. -/
def fnExactCurveErrorSpec : ChangeSpec := { name := "fnExactCurveError", fn := fun _ => fun
  | [d] => { results := [.lit (.bool true)], args := [d] }
  | _ => none }
def fnExactCurveErrorRow : OpenClaim := { program := "ytbhmalpncnkmaaa", sum := "72466c17eba12cdd3e70fd2bd97206089f8e7a5945ebdf924b266b9602905afe", func := "loop.example/g01033/laws.FnExactCurveError", spec := "fnExactCurveError", unfollowed := true, recurses := true, apart := false }
def FnExactCurveErrorSaid : Prop := fnExactCurveErrorRow.holds Try.pinned (OpenSpec.ofChange fnExactCurveErrorSpec)

/-- ITS FALSE NEIGHBOUR: 'it returns false'. Refute it at one input. -/
def fnExactCurveErrorWrong : ChangeSpec := { name := "fnExactCurveError", fn := fun _ => fun
  | [d] => { results := [.lit (.bool false)], args := [d] }
  | _ => none }
def FnExactCurveErrorWrongFalsely : Prop := fnExactCurveErrorRow.holds Try.pinned (OpenSpec.ofChange fnExactCurveErrorWrong)

/-- 'laws.FnExactDurationOf': WHATEVER THE INPUT: true; the input reads as it did. -/
def fnExactDurationOfSpec : ChangeSpec := { name := "fnExactDurationOf", fn := fun _ => fun
  | [d] => { results := [.lit (.bool true)], args := [d] }
  | _ => none }
def fnExactDurationOfRow : OpenClaim := { program := "ytbhmalpncnkmaaa", sum := "72466c17eba12cdd3e70fd2bd97206089f8e7a5945ebdf924b266b9602905afe", func := "loop.example/g01033/laws.FnExactDurationOf", spec := "fnExactDurationOf", apart := false }
def FnExactDurationOfSaid : Prop := fnExactDurationOfRow.holds Try.pinned (OpenSpec.ofChange fnExactDurationOfSpec)

/-- ITS FALSE NEIGHBOUR: 'it returns false'. Refute it at one input. -/
def fnExactDurationOfWrong : ChangeSpec := { name := "fnExactDurationOf", fn := fun _ => fun
  | [d] => { results := [.lit (.bool false)], args := [d] }
  | _ => none }
def FnExactDurationOfWrongFalsely : Prop := fnExactDurationOfRow.holds Try.pinned (OpenSpec.ofChange fnExactDurationOfWrong)

/-- 'laws.FnExactPitchAt': WHATEVER THE INPUT: true; the input reads as it did. -/
def fnExactPitchAtSpec : ChangeSpec := { name := "fnExactPitchAt", fn := fun _ => fun
  | [d1, d2] => { results := [.lit (.bool true)], args := [d1, d2] }
  | _ => none }
def fnExactPitchAtRow : OpenClaim := { program := "ytbhmalpncnkmaaa", sum := "72466c17eba12cdd3e70fd2bd97206089f8e7a5945ebdf924b266b9602905afe", func := "loop.example/g01033/laws.FnExactPitchAt", spec := "fnExactPitchAt", apart := false }
def FnExactPitchAtSaid : Prop := fnExactPitchAtRow.holds Try.pinned (OpenSpec.ofChange fnExactPitchAtSpec)

/-- ITS FALSE NEIGHBOUR: 'it returns false'. Refute it at one input. -/
def fnExactPitchAtWrong : ChangeSpec := { name := "fnExactPitchAt", fn := fun _ => fun
  | [d1, d2] => { results := [.lit (.bool false)], args := [d1, d2] }
  | _ => none }
def FnExactPitchAtWrongFalsely : Prop := fnExactPitchAtRow.holds Try.pinned (OpenSpec.ofChange fnExactPitchAtWrong)

/-- 'laws.FnExactReverseMelody': WHATEVER THE INPUT: true; the input reads as it did. -/
def fnExactReverseMelodySpec : ChangeSpec := { name := "fnExactReverseMelody", fn := fun _ => fun
  | [d] => { results := [.lit (.bool true)], args := [d] }
  | _ => none }
def fnExactReverseMelodyRow : OpenClaim := { program := "ytbhmalpncnkmaaa", sum := "72466c17eba12cdd3e70fd2bd97206089f8e7a5945ebdf924b266b9602905afe", func := "loop.example/g01033/laws.FnExactReverseMelody", spec := "fnExactReverseMelody", apart := false }
def FnExactReverseMelodySaid : Prop := fnExactReverseMelodyRow.holds Try.pinned (OpenSpec.ofChange fnExactReverseMelodySpec)

/-- ITS FALSE NEIGHBOUR: 'it returns false'. Refute it at one input. -/
def fnExactReverseMelodyWrong : ChangeSpec := { name := "fnExactReverseMelody", fn := fun _ => fun
  | [d] => { results := [.lit (.bool false)], args := [d] }
  | _ => none }
def FnExactReverseMelodyWrongFalsely : Prop := fnExactReverseMelodyRow.holds Try.pinned (OpenSpec.ofChange fnExactReverseMelodyWrong)

/-- 'laws.FnExactTieMelody': WHATEVER THE INPUT: true; the input reads as it did. -/
def fnExactTieMelodySpec : ChangeSpec := { name := "fnExactTieMelody", fn := fun _ => fun
  | [d] => { results := [.lit (.bool true)], args := [d] }
  | _ => none }
def fnExactTieMelodyRow : OpenClaim := { program := "ytbhmalpncnkmaaa", sum := "72466c17eba12cdd3e70fd2bd97206089f8e7a5945ebdf924b266b9602905afe", func := "loop.example/g01033/laws.FnExactTieMelody", spec := "fnExactTieMelody", apart := false }
def FnExactTieMelodySaid : Prop := fnExactTieMelodyRow.holds Try.pinned (OpenSpec.ofChange fnExactTieMelodySpec)

/-- ITS FALSE NEIGHBOUR: 'it returns false'. Refute it at one input. -/
def fnExactTieMelodyWrong : ChangeSpec := { name := "fnExactTieMelody", fn := fun _ => fun
  | [d] => { results := [.lit (.bool false)], args := [d] }
  | _ => none }
def FnExactTieMelodyWrongFalsely : Prop := fnExactTieMelodyRow.holds Try.pinned (OpenSpec.ofChange fnExactTieMelodyWrong)

/-- 'laws.FnExactSmoothCurve': WHATEVER THE INPUT: true; the input reads as it did. -/
def fnExactSmoothCurveSpec : ChangeSpec := { name := "fnExactSmoothCurve", fn := fun _ => fun
  | [d1, d2] => { results := [.lit (.bool true)], args := [d1, d2] }
  | _ => none }
def fnExactSmoothCurveRow : OpenClaim := { program := "ytbhmalpncnkmaaa", sum := "72466c17eba12cdd3e70fd2bd97206089f8e7a5945ebdf924b266b9602905afe", func := "loop.example/g01033/laws.FnExactSmoothCurve", spec := "fnExactSmoothCurve", unfollowed := true, recurses := true, apart := false }
def FnExactSmoothCurveSaid : Prop := fnExactSmoothCurveRow.holds Try.pinned (OpenSpec.ofChange fnExactSmoothCurveSpec)

/-- ITS FALSE NEIGHBOUR: 'it returns false'. Refute it at one input. -/
def fnExactSmoothCurveWrong : ChangeSpec := { name := "fnExactSmoothCurve", fn := fun _ => fun
  | [d1, d2] => { results := [.lit (.bool false)], args := [d1, d2] }
  | _ => none }
def FnExactSmoothCurveWrongFalsely : Prop := fnExactSmoothCurveRow.holds Try.pinned (OpenSpec.ofChange fnExactSmoothCurveWrong)

/-- 'laws.FnExactPitchesOf': WHATEVER THE INPUT: true; the input reads as it did. -/
def fnExactPitchesOfSpec : ChangeSpec := { name := "fnExactPitchesOf", fn := fun _ => fun
  | [d] => { results := [.lit (.bool true)], args := [d] }
  | _ => none }
def fnExactPitchesOfRow : OpenClaim := { program := "ytbhmalpncnkmaaa", sum := "72466c17eba12cdd3e70fd2bd97206089f8e7a5945ebdf924b266b9602905afe", func := "loop.example/g01033/laws.FnExactPitchesOf", spec := "fnExactPitchesOf", apart := false }
def FnExactPitchesOfSaid : Prop := fnExactPitchesOfRow.holds Try.pinned (OpenSpec.ofChange fnExactPitchesOfSpec)

/-- ITS FALSE NEIGHBOUR: 'it returns false'. Refute it at one input. -/
def fnExactPitchesOfWrong : ChangeSpec := { name := "fnExactPitchesOf", fn := fun _ => fun
  | [d] => { results := [.lit (.bool false)], args := [d] }
  | _ => none }
def FnExactPitchesOfWrongFalsely : Prop := fnExactPitchesOfRow.holds Try.pinned (OpenSpec.ofChange fnExactPitchesOfWrong)

/-- 'laws.FnExactOrnamentCurve': WHATEVER THE INPUT: true; the input reads as it did. -/
def fnExactOrnamentCurveSpec : ChangeSpec := { name := "fnExactOrnamentCurve", fn := fun _ => fun
  | [d1, d2] => { results := [.lit (.bool true)], args := [d1, d2] }
  | _ => none }
def fnExactOrnamentCurveRow : OpenClaim := { program := "ytbhmalpncnkmaaa", sum := "72466c17eba12cdd3e70fd2bd97206089f8e7a5945ebdf924b266b9602905afe", func := "loop.example/g01033/laws.FnExactOrnamentCurve", spec := "fnExactOrnamentCurve", apart := false }
def FnExactOrnamentCurveSaid : Prop := fnExactOrnamentCurveRow.holds Try.pinned (OpenSpec.ofChange fnExactOrnamentCurveSpec)

/-- ITS FALSE NEIGHBOUR: 'it returns false'. Refute it at one input. -/
def fnExactOrnamentCurveWrong : ChangeSpec := { name := "fnExactOrnamentCurve", fn := fun _ => fun
  | [d1, d2] => { results := [.lit (.bool false)], args := [d1, d2] }
  | _ => none }
def FnExactOrnamentCurveWrongFalsely : Prop := fnExactOrnamentCurveRow.holds Try.pinned (OpenSpec.ofChange fnExactOrnamentCurveWrong)

/-- 'laws.FnExactMelodyCurve': WHATEVER THE INPUT: true; the input reads as it did. -/
def fnExactMelodyCurveSpec : ChangeSpec := { name := "fnExactMelodyCurve", fn := fun _ => fun
  | [d] => { results := [.lit (.bool true)], args := [d] }
  | _ => none }
def fnExactMelodyCurveRow : OpenClaim := { program := "ytbhmalpncnkmaaa", sum := "72466c17eba12cdd3e70fd2bd97206089f8e7a5945ebdf924b266b9602905afe", func := "loop.example/g01033/laws.FnExactMelodyCurve", spec := "fnExactMelodyCurve", apart := false }
def FnExactMelodyCurveSaid : Prop := fnExactMelodyCurveRow.holds Try.pinned (OpenSpec.ofChange fnExactMelodyCurveSpec)

/-- ITS FALSE NEIGHBOUR: 'it returns false'. Refute it at one input. -/
def fnExactMelodyCurveWrong : ChangeSpec := { name := "fnExactMelodyCurve", fn := fun _ => fun
  | [d] => { results := [.lit (.bool false)], args := [d] }
  | _ => none }
def FnExactMelodyCurveWrongFalsely : Prop := fnExactMelodyCurveRow.holds Try.pinned (OpenSpec.ofChange fnExactMelodyCurveWrong)

/-- 'laws.FnExactRangeOf': WHATEVER THE INPUT: true; the input reads as it did. -/
def fnExactRangeOfSpec : ChangeSpec := { name := "fnExactRangeOf", fn := fun _ => fun
  | [d] => { results := [.lit (.bool true)], args := [d] }
  | _ => none }
def fnExactRangeOfRow : OpenClaim := { program := "ytbhmalpncnkmaaa", sum := "72466c17eba12cdd3e70fd2bd97206089f8e7a5945ebdf924b266b9602905afe", func := "loop.example/g01033/laws.FnExactRangeOf", spec := "fnExactRangeOf", apart := false }
def FnExactRangeOfSaid : Prop := fnExactRangeOfRow.holds Try.pinned (OpenSpec.ofChange fnExactRangeOfSpec)

/-- ITS FALSE NEIGHBOUR: 'it returns false'. Refute it at one input. -/
def fnExactRangeOfWrong : ChangeSpec := { name := "fnExactRangeOf", fn := fun _ => fun
  | [d] => { results := [.lit (.bool false)], args := [d] }
  | _ => none }
def FnExactRangeOfWrongFalsely : Prop := fnExactRangeOfRow.holds Try.pinned (OpenSpec.ofChange fnExactRangeOfWrong)

/-- 'laws.FnExactMirrorMelody': WHATEVER THE INPUT: true; the input reads as it did. -/
def fnExactMirrorMelodySpec : ChangeSpec := { name := "fnExactMirrorMelody", fn := fun _ => fun
  | [d1, d2] => { results := [.lit (.bool true)], args := [d1, d2] }
  | _ => none }
def fnExactMirrorMelodyRow : OpenClaim := { program := "ytbhmalpncnkmaaa", sum := "72466c17eba12cdd3e70fd2bd97206089f8e7a5945ebdf924b266b9602905afe", func := "loop.example/g01033/laws.FnExactMirrorMelody", spec := "fnExactMirrorMelody", unfollowed := true, recurses := true, apart := false }
def FnExactMirrorMelodySaid : Prop := fnExactMirrorMelodyRow.holds Try.pinned (OpenSpec.ofChange fnExactMirrorMelodySpec)

/-- ITS FALSE NEIGHBOUR: 'it returns false'. Refute it at one input. -/
def fnExactMirrorMelodyWrong : ChangeSpec := { name := "fnExactMirrorMelody", fn := fun _ => fun
  | [d1, d2] => { results := [.lit (.bool false)], args := [d1, d2] }
  | _ => none }
def FnExactMirrorMelodyWrongFalsely : Prop := fnExactMirrorMelodyRow.holds Try.pinned (OpenSpec.ofChange fnExactMirrorMelodyWrong)

/-- 'laws.FnExactTransposeMelody': WHATEVER THE INPUT: true; the input reads as it did. -/
def fnExactTransposeMelodySpec : ChangeSpec := { name := "fnExactTransposeMelody", fn := fun _ => fun
  | [d1, d2] => { results := [.lit (.bool true)], args := [d1, d2] }
  | _ => none }
def fnExactTransposeMelodyRow : OpenClaim := { program := "ytbhmalpncnkmaaa", sum := "72466c17eba12cdd3e70fd2bd97206089f8e7a5945ebdf924b266b9602905afe", func := "loop.example/g01033/laws.FnExactTransposeMelody", spec := "fnExactTransposeMelody", unfollowed := true, recurses := true, apart := false }
def FnExactTransposeMelodySaid : Prop := fnExactTransposeMelodyRow.holds Try.pinned (OpenSpec.ofChange fnExactTransposeMelodySpec)

/-- ITS FALSE NEIGHBOUR: 'it returns false'. Refute it at one input. -/
def fnExactTransposeMelodyWrong : ChangeSpec := { name := "fnExactTransposeMelody", fn := fun _ => fun
  | [d1, d2] => { results := [.lit (.bool false)], args := [d1, d2] }
  | _ => none }
def FnExactTransposeMelodyWrongFalsely : Prop := fnExactTransposeMelodyRow.holds Try.pinned (OpenSpec.ofChange fnExactTransposeMelodyWrong)

/-- 'laws.FnExactContourOf': WHATEVER THE INPUT: true; the input reads as it did. -/
def fnExactContourOfSpec : ChangeSpec := { name := "fnExactContourOf", fn := fun _ => fun
  | [d] => { results := [.lit (.bool true)], args := [d] }
  | _ => none }
def fnExactContourOfRow : OpenClaim := { program := "ytbhmalpncnkmaaa", sum := "72466c17eba12cdd3e70fd2bd97206089f8e7a5945ebdf924b266b9602905afe", func := "loop.example/g01033/laws.FnExactContourOf", spec := "fnExactContourOf", apart := false }
def FnExactContourOfSaid : Prop := fnExactContourOfRow.holds Try.pinned (OpenSpec.ofChange fnExactContourOfSpec)

/-- ITS FALSE NEIGHBOUR: 'it returns false'. Refute it at one input. -/
def fnExactContourOfWrong : ChangeSpec := { name := "fnExactContourOf", fn := fun _ => fun
  | [d] => { results := [.lit (.bool false)], args := [d] }
  | _ => none }
def FnExactContourOfWrongFalsely : Prop := fnExactContourOfRow.holds Try.pinned (OpenSpec.ofChange fnExactContourOfWrong)

/-- 'laws.FnExactCutMelody': WHATEVER THE INPUT: true; the input reads as it did. -/
def fnExactCutMelodySpec : ChangeSpec := { name := "fnExactCutMelody", fn := fun _ => fun
  | [d1, d2, d3] => { results := [.lit (.bool true)], args := [d1, d2, d3] }
  | _ => none }
def fnExactCutMelodyRow : OpenClaim := { program := "ytbhmalpncnkmaaa", sum := "72466c17eba12cdd3e70fd2bd97206089f8e7a5945ebdf924b266b9602905afe", func := "loop.example/g01033/laws.FnExactCutMelody", spec := "fnExactCutMelody", apart := false }
def FnExactCutMelodySaid : Prop := fnExactCutMelodyRow.holds Try.pinned (OpenSpec.ofChange fnExactCutMelodySpec)

/-- ITS FALSE NEIGHBOUR: 'it returns false'. Refute it at one input. -/
def fnExactCutMelodyWrong : ChangeSpec := { name := "fnExactCutMelody", fn := fun _ => fun
  | [d1, d2, d3] => { results := [.lit (.bool false)], args := [d1, d2, d3] }
  | _ => none }
def FnExactCutMelodyWrongFalsely : Prop := fnExactCutMelodyRow.holds Try.pinned (OpenSpec.ofChange fnExactCutMelodyWrong)

/-- 'laws.FnExactStretchMelody': WHATEVER THE INPUT: true; the input reads as it did. -/
def fnExactStretchMelodySpec : ChangeSpec := { name := "fnExactStretchMelody", fn := fun _ => fun
  | [d1, d2, d3] => { results := [.lit (.bool true)], args := [d1, d2, d3] }
  | _ => none }
def fnExactStretchMelodyRow : OpenClaim := { program := "ytbhmalpncnkmaaa", sum := "72466c17eba12cdd3e70fd2bd97206089f8e7a5945ebdf924b266b9602905afe", func := "loop.example/g01033/laws.FnExactStretchMelody", spec := "fnExactStretchMelody", unfollowed := true, recurses := true, apart := false }
def FnExactStretchMelodySaid : Prop := fnExactStretchMelodyRow.holds Try.pinned (OpenSpec.ofChange fnExactStretchMelodySpec)

/-- ITS FALSE NEIGHBOUR: 'it returns false'. Refute it at one input. -/
def fnExactStretchMelodyWrong : ChangeSpec := { name := "fnExactStretchMelody", fn := fun _ => fun
  | [d1, d2, d3] => { results := [.lit (.bool false)], args := [d1, d2, d3] }
  | _ => none }
def FnExactStretchMelodyWrongFalsely : Prop := fnExactStretchMelodyRow.holds Try.pinned (OpenSpec.ofChange fnExactStretchMelodyWrong)

/-- 'laws.FnExactJoinMelodies': WHATEVER THE INPUT: true; the input reads as it did. -/
def fnExactJoinMelodiesSpec : ChangeSpec := { name := "fnExactJoinMelodies", fn := fun _ => fun
  | [d1, d2] => { results := [.lit (.bool true)], args := [d1, d2] }
  | _ => none }
def fnExactJoinMelodiesRow : OpenClaim := { program := "ytbhmalpncnkmaaa", sum := "72466c17eba12cdd3e70fd2bd97206089f8e7a5945ebdf924b266b9602905afe", func := "loop.example/g01033/laws.FnExactJoinMelodies", spec := "fnExactJoinMelodies", unfollowed := true, recurses := true, apart := false }
def FnExactJoinMelodiesSaid : Prop := fnExactJoinMelodiesRow.holds Try.pinned (OpenSpec.ofChange fnExactJoinMelodiesSpec)

/-- ITS FALSE NEIGHBOUR: 'it returns false'. Refute it at one input. -/
def fnExactJoinMelodiesWrong : ChangeSpec := { name := "fnExactJoinMelodies", fn := fun _ => fun
  | [d1, d2] => { results := [.lit (.bool false)], args := [d1, d2] }
  | _ => none }
def FnExactJoinMelodiesWrongFalsely : Prop := fnExactJoinMelodiesRow.holds Try.pinned (OpenSpec.ofChange fnExactJoinMelodiesWrong)

/-- 'laws.FnExactCurveNotes': WHATEVER THE INPUT: true; the input reads as it did. -/
def fnExactCurveNotesSpec : ChangeSpec := { name := "fnExactCurveNotes", fn := fun _ => fun
  | [d] => { results := [.lit (.bool true)], args := [d] }
  | _ => none }
def fnExactCurveNotesRow : OpenClaim := { program := "ytbhmalpncnkmaaa", sum := "72466c17eba12cdd3e70fd2bd97206089f8e7a5945ebdf924b266b9602905afe", func := "loop.example/g01033/laws.FnExactCurveNotes", spec := "fnExactCurveNotes", unfollowed := true, recurses := true, apart := false }
def FnExactCurveNotesSaid : Prop := fnExactCurveNotesRow.holds Try.pinned (OpenSpec.ofChange fnExactCurveNotesSpec)

/-- ITS FALSE NEIGHBOUR: 'it returns false'. Refute it at one input. -/
def fnExactCurveNotesWrong : ChangeSpec := { name := "fnExactCurveNotes", fn := fun _ => fun
  | [d] => { results := [.lit (.bool false)], args := [d] }
  | _ => none }
def FnExactCurveNotesWrongFalsely : Prop := fnExactCurveNotesRow.holds Try.pinned (OpenSpec.ofChange fnExactCurveNotesWrong)

/-- 'laws.FnExactGraceNotes': WHATEVER THE INPUT: true; the input reads as it did. -/
def fnExactGraceNotesSpec : ChangeSpec := { name := "fnExactGraceNotes", fn := fun _ => fun
  | [d1, d2, d3, d4] => { results := [.lit (.bool true)], args := [d1, d2, d3, d4] }
  | _ => none }
def fnExactGraceNotesRow : OpenClaim := { program := "ytbhmalpncnkmaaa", sum := "72466c17eba12cdd3e70fd2bd97206089f8e7a5945ebdf924b266b9602905afe", func := "loop.example/g01033/laws.FnExactGraceNotes", spec := "fnExactGraceNotes", unfollowed := true, recurses := true, apart := false }
def FnExactGraceNotesSaid : Prop := fnExactGraceNotesRow.holds Try.pinned (OpenSpec.ofChange fnExactGraceNotesSpec)

/-- ITS FALSE NEIGHBOUR: 'it returns false'. Refute it at one input. -/
def fnExactGraceNotesWrong : ChangeSpec := { name := "fnExactGraceNotes", fn := fun _ => fun
  | [d1, d2, d3, d4] => { results := [.lit (.bool false)], args := [d1, d2, d3, d4] }
  | _ => none }
def FnExactGraceNotesWrongFalsely : Prop := fnExactGraceNotesRow.holds Try.pinned (OpenSpec.ofChange fnExactGraceNotesWrong)

/-- 'laws.FnExactTrillNote': WHATEVER THE INPUT: true; the input reads as it did. -/
def fnExactTrillNoteSpec : ChangeSpec := { name := "fnExactTrillNote", fn := fun _ => fun
  | [d1, d2, d3, d4] => { results := [.lit (.bool true)], args := [d1, d2, d3, d4] }
  | _ => none }
def fnExactTrillNoteRow : OpenClaim := { program := "ytbhmalpncnkmaaa", sum := "72466c17eba12cdd3e70fd2bd97206089f8e7a5945ebdf924b266b9602905afe", func := "loop.example/g01033/laws.FnExactTrillNote", spec := "fnExactTrillNote", unfollowed := true, recurses := true, apart := false }
def FnExactTrillNoteSaid : Prop := fnExactTrillNoteRow.holds Try.pinned (OpenSpec.ofChange fnExactTrillNoteSpec)

/-- ITS FALSE NEIGHBOUR: 'it returns false'. Refute it at one input. -/
def fnExactTrillNoteWrong : ChangeSpec := { name := "fnExactTrillNote", fn := fun _ => fun
  | [d1, d2, d3, d4] => { results := [.lit (.bool false)], args := [d1, d2, d3, d4] }
  | _ => none }
def FnExactTrillNoteWrongFalsely : Prop := fnExactTrillNoteRow.holds Try.pinned (OpenSpec.ofChange fnExactTrillNoteWrong)

/- THE SECOND FORM. 'bulk': how many values and letters a reading holds, each counted each time it is reached (what is shared counts as often as it is met; a slice's spare places count too). A statement '..UptoSaid' is the law's where the arguments, and the package variables that the reading takes, are together of bulk at most 1048576: NARROWER than '..Said'. Prove '..Said' where nothing that the law and all that it calls make is longer than what came in: it says more and counts as full. Else prove '..UptoSaid'. A law counts once. -/
mutual
def uptoBulk {H : Type} : DataW H → Nat
  | .lit (.string bytes) => bytes.length + 1
  | .lit _ => 1
  | .nil => 1
  | .ptr d => uptoBulk d + 1
  | .slice elems spare => uptoBulkAll elems + uptoBulkAll spare + 1
  | .agg parts => uptoBulkAll parts + 1
  | .iface _ d => uptoBulk d + 1
  | .map entries => uptoBulkEntries entries + 1
  | .held _ => 1
def uptoBulkAll {H : Type} : List (DataW H) → Nat
  | [] => 0
  | d :: r => uptoBulk d + uptoBulkAll r
def uptoBulkEntries {H : Type} : List (Lit × DataW H) → Nat
  | [] => 0
  | x :: r => uptoBulkEntry x + uptoBulkEntries r
def uptoBulkEntry {H : Type} : Lit × DataW H → Nat
  | (.string bytes, d) => bytes.length + uptoBulk d + 1
  | (_, d) => uptoBulk d + 1
 end
def uptoSmall : (H : Type) → List (DataW H) → Bool := fun _ ds => decide (uptoBulkAll ds ≤ 1048576)
def OpenSpec.upto (s : _root_.Go.ChangeSpec) : _root_.Go.OpenSpec := { _root_.Go.OpenSpec.ofChange s with cond := some uptoSmall }

/-- 'laws.FnExactValidOrnament', WHERE WHAT IT READS IS OF BULK AT MOST 1048576: true; the input reads as it did. -/
def fnExactValidOrnamentUptoRow : OpenClaim := { program := "ytbhmalpncnkmaaa", sum := "72466c17eba12cdd3e70fd2bd97206089f8e7a5945ebdf924b266b9602905afe", func := "loop.example/g01033/laws.FnExactValidOrnament", spec := "fnExactValidOrnament", apart := false, narrowed := true }
def FnExactValidOrnamentUptoSaid : Prop := fnExactValidOrnamentUptoRow.holds Try.pinned (OpenSpec.upto fnExactValidOrnamentSpec)

/-- 'laws.FnExactOrnamentName', WHERE WHAT IT READS IS OF BULK AT MOST 1048576: true; the input reads as it did. -/
def fnExactOrnamentNameUptoRow : OpenClaim := { program := "ytbhmalpncnkmaaa", sum := "72466c17eba12cdd3e70fd2bd97206089f8e7a5945ebdf924b266b9602905afe", func := "loop.example/g01033/laws.FnExactOrnamentName", spec := "fnExactOrnamentName", apart := false, narrowed := true }
def FnExactOrnamentNameUptoSaid : Prop := fnExactOrnamentNameUptoRow.holds Try.pinned (OpenSpec.upto fnExactOrnamentNameSpec)

/-- 'laws.FnExactSameMelody', WHERE WHAT IT READS IS OF BULK AT MOST 1048576: true; the input reads as it did. -/
def fnExactSameMelodyUptoRow : OpenClaim := { program := "ytbhmalpncnkmaaa", sum := "72466c17eba12cdd3e70fd2bd97206089f8e7a5945ebdf924b266b9602905afe", func := "loop.example/g01033/laws.FnExactSameMelody", spec := "fnExactSameMelody", apart := false, narrowed := true }
def FnExactSameMelodyUptoSaid : Prop := fnExactSameMelodyUptoRow.holds Try.pinned (OpenSpec.upto fnExactSameMelodySpec)

/-- 'laws.FnExactValidMelody', WHERE WHAT IT READS IS OF BULK AT MOST 1048576: true; the input reads as it did. -/
def fnExactValidMelodyUptoRow : OpenClaim := { program := "ytbhmalpncnkmaaa", sum := "72466c17eba12cdd3e70fd2bd97206089f8e7a5945ebdf924b266b9602905afe", func := "loop.example/g01033/laws.FnExactValidMelody", spec := "fnExactValidMelody", apart := false, narrowed := true }
def FnExactValidMelodyUptoSaid : Prop := fnExactValidMelodyUptoRow.holds Try.pinned (OpenSpec.upto fnExactValidMelodySpec)

/-- 'laws.FnExactGlideCurve', WHERE WHAT IT READS IS OF BULK AT MOST 1048576: true; the input reads as it did. -/
def fnExactGlideCurveUptoRow : OpenClaim := { program := "ytbhmalpncnkmaaa", sum := "72466c17eba12cdd3e70fd2bd97206089f8e7a5945ebdf924b266b9602905afe", func := "loop.example/g01033/laws.FnExactGlideCurve", spec := "fnExactGlideCurve", apart := false, narrowed := true }
def FnExactGlideCurveUptoSaid : Prop := fnExactGlideCurveUptoRow.holds Try.pinned (OpenSpec.upto fnExactGlideCurveSpec)

/-- 'laws.FnExactCurveError', WHERE WHAT IT READS IS OF BULK AT MOST 1048576: true; the input reads as it did. -/
def fnExactCurveErrorUptoRow : OpenClaim := { program := "ytbhmalpncnkmaaa", sum := "72466c17eba12cdd3e70fd2bd97206089f8e7a5945ebdf924b266b9602905afe", func := "loop.example/g01033/laws.FnExactCurveError", spec := "fnExactCurveError", unfollowed := true, recurses := true, apart := false, narrowed := true }
def FnExactCurveErrorUptoSaid : Prop := fnExactCurveErrorUptoRow.holds Try.pinned (OpenSpec.upto fnExactCurveErrorSpec)

/-- 'laws.FnExactDurationOf', WHERE WHAT IT READS IS OF BULK AT MOST 1048576: true; the input reads as it did. -/
def fnExactDurationOfUptoRow : OpenClaim := { program := "ytbhmalpncnkmaaa", sum := "72466c17eba12cdd3e70fd2bd97206089f8e7a5945ebdf924b266b9602905afe", func := "loop.example/g01033/laws.FnExactDurationOf", spec := "fnExactDurationOf", apart := false, narrowed := true }
def FnExactDurationOfUptoSaid : Prop := fnExactDurationOfUptoRow.holds Try.pinned (OpenSpec.upto fnExactDurationOfSpec)

/-- 'laws.FnExactPitchAt', WHERE WHAT IT READS IS OF BULK AT MOST 1048576: true; the input reads as it did. -/
def fnExactPitchAtUptoRow : OpenClaim := { program := "ytbhmalpncnkmaaa", sum := "72466c17eba12cdd3e70fd2bd97206089f8e7a5945ebdf924b266b9602905afe", func := "loop.example/g01033/laws.FnExactPitchAt", spec := "fnExactPitchAt", apart := false, narrowed := true }
def FnExactPitchAtUptoSaid : Prop := fnExactPitchAtUptoRow.holds Try.pinned (OpenSpec.upto fnExactPitchAtSpec)

/-- 'laws.FnExactReverseMelody', WHERE WHAT IT READS IS OF BULK AT MOST 1048576: true; the input reads as it did. -/
def fnExactReverseMelodyUptoRow : OpenClaim := { program := "ytbhmalpncnkmaaa", sum := "72466c17eba12cdd3e70fd2bd97206089f8e7a5945ebdf924b266b9602905afe", func := "loop.example/g01033/laws.FnExactReverseMelody", spec := "fnExactReverseMelody", apart := false, narrowed := true }
def FnExactReverseMelodyUptoSaid : Prop := fnExactReverseMelodyUptoRow.holds Try.pinned (OpenSpec.upto fnExactReverseMelodySpec)

/-- 'laws.FnExactTieMelody', WHERE WHAT IT READS IS OF BULK AT MOST 1048576: true; the input reads as it did. -/
def fnExactTieMelodyUptoRow : OpenClaim := { program := "ytbhmalpncnkmaaa", sum := "72466c17eba12cdd3e70fd2bd97206089f8e7a5945ebdf924b266b9602905afe", func := "loop.example/g01033/laws.FnExactTieMelody", spec := "fnExactTieMelody", apart := false, narrowed := true }
def FnExactTieMelodyUptoSaid : Prop := fnExactTieMelodyUptoRow.holds Try.pinned (OpenSpec.upto fnExactTieMelodySpec)

/-- 'laws.FnExactSmoothCurve', WHERE WHAT IT READS IS OF BULK AT MOST 1048576: true; the input reads as it did. -/
def fnExactSmoothCurveUptoRow : OpenClaim := { program := "ytbhmalpncnkmaaa", sum := "72466c17eba12cdd3e70fd2bd97206089f8e7a5945ebdf924b266b9602905afe", func := "loop.example/g01033/laws.FnExactSmoothCurve", spec := "fnExactSmoothCurve", unfollowed := true, recurses := true, apart := false, narrowed := true }
def FnExactSmoothCurveUptoSaid : Prop := fnExactSmoothCurveUptoRow.holds Try.pinned (OpenSpec.upto fnExactSmoothCurveSpec)

/-- 'laws.FnExactPitchesOf', WHERE WHAT IT READS IS OF BULK AT MOST 1048576: true; the input reads as it did. -/
def fnExactPitchesOfUptoRow : OpenClaim := { program := "ytbhmalpncnkmaaa", sum := "72466c17eba12cdd3e70fd2bd97206089f8e7a5945ebdf924b266b9602905afe", func := "loop.example/g01033/laws.FnExactPitchesOf", spec := "fnExactPitchesOf", apart := false, narrowed := true }
def FnExactPitchesOfUptoSaid : Prop := fnExactPitchesOfUptoRow.holds Try.pinned (OpenSpec.upto fnExactPitchesOfSpec)

/-- 'laws.FnExactOrnamentCurve', WHERE WHAT IT READS IS OF BULK AT MOST 1048576: true; the input reads as it did. -/
def fnExactOrnamentCurveUptoRow : OpenClaim := { program := "ytbhmalpncnkmaaa", sum := "72466c17eba12cdd3e70fd2bd97206089f8e7a5945ebdf924b266b9602905afe", func := "loop.example/g01033/laws.FnExactOrnamentCurve", spec := "fnExactOrnamentCurve", apart := false, narrowed := true }
def FnExactOrnamentCurveUptoSaid : Prop := fnExactOrnamentCurveUptoRow.holds Try.pinned (OpenSpec.upto fnExactOrnamentCurveSpec)

/-- 'laws.FnExactMelodyCurve', WHERE WHAT IT READS IS OF BULK AT MOST 1048576: true; the input reads as it did. -/
def fnExactMelodyCurveUptoRow : OpenClaim := { program := "ytbhmalpncnkmaaa", sum := "72466c17eba12cdd3e70fd2bd97206089f8e7a5945ebdf924b266b9602905afe", func := "loop.example/g01033/laws.FnExactMelodyCurve", spec := "fnExactMelodyCurve", apart := false, narrowed := true }
def FnExactMelodyCurveUptoSaid : Prop := fnExactMelodyCurveUptoRow.holds Try.pinned (OpenSpec.upto fnExactMelodyCurveSpec)

/-- 'laws.FnExactRangeOf', WHERE WHAT IT READS IS OF BULK AT MOST 1048576: true; the input reads as it did. -/
def fnExactRangeOfUptoRow : OpenClaim := { program := "ytbhmalpncnkmaaa", sum := "72466c17eba12cdd3e70fd2bd97206089f8e7a5945ebdf924b266b9602905afe", func := "loop.example/g01033/laws.FnExactRangeOf", spec := "fnExactRangeOf", apart := false, narrowed := true }
def FnExactRangeOfUptoSaid : Prop := fnExactRangeOfUptoRow.holds Try.pinned (OpenSpec.upto fnExactRangeOfSpec)

/-- 'laws.FnExactMirrorMelody', WHERE WHAT IT READS IS OF BULK AT MOST 1048576: true; the input reads as it did. -/
def fnExactMirrorMelodyUptoRow : OpenClaim := { program := "ytbhmalpncnkmaaa", sum := "72466c17eba12cdd3e70fd2bd97206089f8e7a5945ebdf924b266b9602905afe", func := "loop.example/g01033/laws.FnExactMirrorMelody", spec := "fnExactMirrorMelody", unfollowed := true, recurses := true, apart := false, narrowed := true }
def FnExactMirrorMelodyUptoSaid : Prop := fnExactMirrorMelodyUptoRow.holds Try.pinned (OpenSpec.upto fnExactMirrorMelodySpec)

/-- 'laws.FnExactTransposeMelody', WHERE WHAT IT READS IS OF BULK AT MOST 1048576: true; the input reads as it did. -/
def fnExactTransposeMelodyUptoRow : OpenClaim := { program := "ytbhmalpncnkmaaa", sum := "72466c17eba12cdd3e70fd2bd97206089f8e7a5945ebdf924b266b9602905afe", func := "loop.example/g01033/laws.FnExactTransposeMelody", spec := "fnExactTransposeMelody", unfollowed := true, recurses := true, apart := false, narrowed := true }
def FnExactTransposeMelodyUptoSaid : Prop := fnExactTransposeMelodyUptoRow.holds Try.pinned (OpenSpec.upto fnExactTransposeMelodySpec)

/-- 'laws.FnExactContourOf', WHERE WHAT IT READS IS OF BULK AT MOST 1048576: true; the input reads as it did. -/
def fnExactContourOfUptoRow : OpenClaim := { program := "ytbhmalpncnkmaaa", sum := "72466c17eba12cdd3e70fd2bd97206089f8e7a5945ebdf924b266b9602905afe", func := "loop.example/g01033/laws.FnExactContourOf", spec := "fnExactContourOf", apart := false, narrowed := true }
def FnExactContourOfUptoSaid : Prop := fnExactContourOfUptoRow.holds Try.pinned (OpenSpec.upto fnExactContourOfSpec)

/-- 'laws.FnExactCutMelody', WHERE WHAT IT READS IS OF BULK AT MOST 1048576: true; the input reads as it did. -/
def fnExactCutMelodyUptoRow : OpenClaim := { program := "ytbhmalpncnkmaaa", sum := "72466c17eba12cdd3e70fd2bd97206089f8e7a5945ebdf924b266b9602905afe", func := "loop.example/g01033/laws.FnExactCutMelody", spec := "fnExactCutMelody", apart := false, narrowed := true }
def FnExactCutMelodyUptoSaid : Prop := fnExactCutMelodyUptoRow.holds Try.pinned (OpenSpec.upto fnExactCutMelodySpec)

/-- 'laws.FnExactStretchMelody', WHERE WHAT IT READS IS OF BULK AT MOST 1048576: true; the input reads as it did. -/
def fnExactStretchMelodyUptoRow : OpenClaim := { program := "ytbhmalpncnkmaaa", sum := "72466c17eba12cdd3e70fd2bd97206089f8e7a5945ebdf924b266b9602905afe", func := "loop.example/g01033/laws.FnExactStretchMelody", spec := "fnExactStretchMelody", unfollowed := true, recurses := true, apart := false, narrowed := true }
def FnExactStretchMelodyUptoSaid : Prop := fnExactStretchMelodyUptoRow.holds Try.pinned (OpenSpec.upto fnExactStretchMelodySpec)

/-- 'laws.FnExactJoinMelodies', WHERE WHAT IT READS IS OF BULK AT MOST 1048576: true; the input reads as it did. -/
def fnExactJoinMelodiesUptoRow : OpenClaim := { program := "ytbhmalpncnkmaaa", sum := "72466c17eba12cdd3e70fd2bd97206089f8e7a5945ebdf924b266b9602905afe", func := "loop.example/g01033/laws.FnExactJoinMelodies", spec := "fnExactJoinMelodies", unfollowed := true, recurses := true, apart := false, narrowed := true }
def FnExactJoinMelodiesUptoSaid : Prop := fnExactJoinMelodiesUptoRow.holds Try.pinned (OpenSpec.upto fnExactJoinMelodiesSpec)

/-- 'laws.FnExactCurveNotes', WHERE WHAT IT READS IS OF BULK AT MOST 1048576: true; the input reads as it did. -/
def fnExactCurveNotesUptoRow : OpenClaim := { program := "ytbhmalpncnkmaaa", sum := "72466c17eba12cdd3e70fd2bd97206089f8e7a5945ebdf924b266b9602905afe", func := "loop.example/g01033/laws.FnExactCurveNotes", spec := "fnExactCurveNotes", unfollowed := true, recurses := true, apart := false, narrowed := true }
def FnExactCurveNotesUptoSaid : Prop := fnExactCurveNotesUptoRow.holds Try.pinned (OpenSpec.upto fnExactCurveNotesSpec)

/-- 'laws.FnExactGraceNotes', WHERE WHAT IT READS IS OF BULK AT MOST 1048576: true; the input reads as it did. -/
def fnExactGraceNotesUptoRow : OpenClaim := { program := "ytbhmalpncnkmaaa", sum := "72466c17eba12cdd3e70fd2bd97206089f8e7a5945ebdf924b266b9602905afe", func := "loop.example/g01033/laws.FnExactGraceNotes", spec := "fnExactGraceNotes", unfollowed := true, recurses := true, apart := false, narrowed := true }
def FnExactGraceNotesUptoSaid : Prop := fnExactGraceNotesUptoRow.holds Try.pinned (OpenSpec.upto fnExactGraceNotesSpec)

/-- 'laws.FnExactTrillNote', WHERE WHAT IT READS IS OF BULK AT MOST 1048576: true; the input reads as it did. -/
def fnExactTrillNoteUptoRow : OpenClaim := { program := "ytbhmalpncnkmaaa", sum := "72466c17eba12cdd3e70fd2bd97206089f8e7a5945ebdf924b266b9602905afe", func := "loop.example/g01033/laws.FnExactTrillNote", spec := "fnExactTrillNote", unfollowed := true, recurses := true, apart := false, narrowed := true }
def FnExactTrillNoteUptoSaid : Prop := fnExactTrillNoteUptoRow.holds Try.pinned (OpenSpec.upto fnExactTrillNoteSpec)

end Rows
end Go.Proofs.Ytbhmalpncnkmaaa
