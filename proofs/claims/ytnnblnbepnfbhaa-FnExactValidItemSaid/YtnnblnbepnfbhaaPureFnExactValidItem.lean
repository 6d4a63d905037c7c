/- The law FnExactValidItem over numbers and bytes alone. No condition. -/
import Derived.Test.YtnnblnbepnfbhaaMx0
import Derived.Test.YtnnblnbepnfbhaaMx1
import Derived.Test.YtnnblnbepnfbhaaMx4
import Derived.Test.YtnnblnbepnfbhaaMx6
import Derived.Test.YtnnblnbepnfbhaaItem
namespace Go.Proofs.Ytnnblnbepnfbhaa.Pure
open Go.RowKit Go.Proofs.Ytnnblnbepnfbhaa.M Go.Proofs.YtnnblnbepnfbhaaW.PrintWords Go.Proofs.YtnnblnbepnfbhaaW.PrintLast
theorem FnExactValidItem : laws_FnExactValidItem.Pure := by
  intro s a b c d e _ _ _ _ _ _
  refine ⟨12, ?_⟩
  rw [laws_FnExactValidItem.f, laws_szItem.f]
  by_cases h : wrap64 (1048576 - (s.size : Int)) < 0
  · rw [if_pos h, Option.bind_some, if_pos (by decide)]
  · rw [if_neg h, Option.bind_some, if_neg h]
    simp only [laws_toItem.f, Option.bind_some, spec_ValidItem.f, specOne s a b c d e 12 (Nat.le_refl _), implOne s a b c d e 12 (Nat.le_refl _)]
    simp

end Go.Proofs.Ytnnblnbepnfbhaa.Pure
