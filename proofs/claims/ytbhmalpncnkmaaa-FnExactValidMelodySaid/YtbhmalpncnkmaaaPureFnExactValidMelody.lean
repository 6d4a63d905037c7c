/- The law FnExactValidMelody over lists alone. No condition. -/
import Derived.Test.YtbhmalpncnkmaaaMx0
import Derived.Test.YtbhmalpncnkmaaaMx26
import Derived.Test.YtbhmalpncnkmaaaMx30
import Derived.Test.YtbhmalpncnkmaaaMel
namespace Go.Proofs.Ytbhmalpncnkmaaa.Pure
open Go.RowKit Go.Proofs.Ytbhmalpncnkmaaa.M Go.Proofs.YtbhmalpncnkmaaaW.PrintWords Go.Proofs.YtbhmalpncnkmaaaW.PrintLast
theorem FnExactValidMelody : laws_FnExactValidMelody.Pure := by
  intro l0 h0
  refine ⟨1048600, ?_⟩
  rw [laws_FnExactValidMelody.f, szN l0 _ h0.1 (by omega) (by omega), Option.bind_some]
  by_cases c : (1048576 : Int) - l0.length < 0
  · simp [c]
  · have hn : l0.length ≤ 1048576 := by omega
    have hn' : (l0.map cvN).length ≤ 1048576 := by simpa using hn
    rw [if_neg c, if_neg c, toN l0 hn _ (by omega)]
    simp only [Option.bind_some, spec_ValidMelody.f]
    rw [specOk _ hn' _ (by omega), implOk _ hn' _ (by omega)]
    simp only [Option.bind_some]
    rw [eqN _ (by omega) _ (by omega)]
    simp

end Go.Proofs.Ytbhmalpncnkmaaa.Pure
