/- The law FnExactValidItems over lists alone. No condition. -/
import Derived.Test.YtnnblnbepnfbhaaMx0
import Derived.Test.YtnnblnbepnfbhaaMx16
import Derived.Test.YtnnblnbepnfbhaaMx20
import Derived.Test.YtnnblnbepnfbhaaItemRows
namespace Go.Proofs.Ytnnblnbepnfbhaa.Pure
open Go.RowKit Go.Proofs.Ytnnblnbepnfbhaa.M Go.Proofs.YtnnblnbepnfbhaaW.PrintWords Go.Proofs.YtnnblnbepnfbhaaW.PrintLast
theorem FnExactValidItems : laws_FnExactValidItems.Pure := by
  intro l0 h0
  obtain ⟨k, hk⟩ : ∃ k, 1200000 ≤ k := ⟨_, Nat.le_refl _⟩
  refine ⟨k, ?_⟩
  obtain ⟨t, ht, hl⟩ := szM l0 h0.1 k (by omega)
  rw [laws_FnExactValidItems.f, ht, Option.bind_some]
  by_cases c : t < 0
  · rw [if_pos c]
  · have hn := hl c
    have hm : (l0.map cvM).length ≤ 1048576 := by simpa using hn
    have T := toM l0 hn k (by omega)
    have E := eqM (l0.map cvM) (by omega) k (by omega)
    have S := specOkM (l0.map cvM) hm k (by omega)
    have I := implOkM (l0.map cvM) hm k (by omega)
    rw [if_neg c]
    simp only [T, Option.bind_some, spec_ValidItems.f, S, I, E, bne_self_eq_false, Bool.false_eq_true, if_false, if_true]

end Go.Proofs.Ytnnblnbepnfbhaa.Pure
