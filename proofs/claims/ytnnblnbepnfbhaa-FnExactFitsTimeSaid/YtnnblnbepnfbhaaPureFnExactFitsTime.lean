/- The law FnExactFitsTime over numbers and bytes alone. No condition. -/
import Derived.Test.YtnnblnbepnfbhaaMx0
import Derived.Test.YtnnblnbepnfbhaaMx1
import Derived.Test.YtnnblnbepnfbhaaMx4
import Derived.Test.YtnnblnbepnfbhaaMx5
import Derived.Test.YtnnblnbepnfbhaaMx7
import Derived.Test.YtnnblnbepnfbhaaMx9
import Derived.Test.YtnnblnbepnfbhaaMx11
import Derived.Test.YtnnblnbepnfbhaaFits
namespace Go.Proofs.Ytnnblnbepnfbhaa.Pure
open Go.RowKit Go.Proofs.Ytnnblnbepnfbhaa.M Go.Proofs.YtnnblnbepnfbhaaW.PrintWords Go.Proofs.YtnnblnbepnfbhaaW.PrintLast
theorem FnExactFitsTime : laws_FnExactFitsTime.Pure := by
  intro s a b c d e m z _ _ _ _ _ _ _ _
  refine ⟨12, ?_⟩
  rw [laws_FnExactFitsTime.f, laws_szItem.f]
  by_cases h : wrap64 (1048576 - (s.size : Int)) < 0
  · rw [if_pos h, Option.bind_some, if_pos (by decide)]
  · rw [if_neg h, Option.bind_some, if_neg h]
    simp only [laws_toItem.f, Option.bind_some, spec_FitsTime.f, impl_FitsTime.f, specOne s a b c d e 12 (Nat.le_refl _), implOne s a b c d e 12 (Nat.le_refl _)]
    cases h1 : itB s a b c d e with
    | false => simp
    | true =>
      simp only [if_true, spec_l08Minute.f, spec_l08Season.f, impl_minuteOk.f, impl_seasonOk.f, specIn, implIn, Option.bind_some]
      cases h2 : inB m 0 1439 with
      | false => simp
      | true =>
        rw [specFits s a b c d e m z (itB_c h1).1 (inB_true.mp h2) 12 (by omega), implFits s a b c d e m z 12 (by omega)]
        cases inB z 0 5 <;> simp

end Go.Proofs.Ytnnblnbepnfbhaa.Pure
