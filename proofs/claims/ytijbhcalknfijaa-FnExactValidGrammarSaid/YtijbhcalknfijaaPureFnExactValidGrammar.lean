/- The law FnExactValidGrammar over lists alone. No condition. -/
import Derived.Test.YtijbhcalknfijaaMx0
import Derived.Test.YtijbhcalknfijaaMx9
import Derived.Test.YtijbhcalknfijaaMx13
import Derived.Test.YtijbhcalknfijaaGram
namespace Go.Proofs.Ytijbhcalknfijaa.Pure
open Go.RowKit Go.Proofs.Ytijbhcalknfijaa.M Go.Proofs.YtijbhcalknfijaaW.PrintWords Go.Proofs.YtijbhcalknfijaaW.PrintLast
theorem FnExactValidGrammar : laws_FnExactValidGrammar.Pure := by
  intro s t f l h0 h1 hf hl
  obtain ⟨k, hk⟩ : ∃ k, 2300000 ≤ k := ⟨_, Nat.le_refl _⟩
  refine ⟨k, ?_⟩
  rw [laws_FnExactValidGrammar.f, szG s t f l _ hf.1 hl.1 (by omega) (by omega), Option.bind_some]
  by_cases c : (1048576 : Int) - f.length - l.length < 0
  · simp [c]
  · have hn : l.length ≤ 1048576 := by omega
    have hm : f.length ≤ 1048576 := by omega
    have hn' : (l.map cvA).length ≤ 1048576 := by simpa using hn
    have T := toG s t f l hm hn k (by omega)
    rw [if_neg c, if_neg c]
    have S := specOkG s t f (l.map cvA) hm hn' k (by omega)
    have I := implOkG s t f (l.map cvA) hm hn' k (by omega)
    have E := eqG s t f (l.map cvA) hm hn' k (by omega)
    generalize l.map cvA = m at *
    rw [T, Option.bind_some]
    dsimp only
    rw [spec_ValidGrammar.f, S, Option.bind_some, Option.bind_some, Option.bind_some]
    dsimp only
    rw [I, Option.bind_some, if_neg (by simp), Option.bind_some]
    dsimp only
    rw [E, Option.bind_some, if_pos rfl]


end Go.Proofs.Ytijbhcalknfijaa.Pure
