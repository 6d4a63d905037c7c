/- The law FnExactGrammarText over lists, numbers and bytes alone. No condition. -/
import Derived.Test.YtlmeijlandogaaaDoorIx0
import Derived.Test.YtlmeijlandogaaaDoorIx17
import Derived.Test.YtlmeijlandogaaaDoorTGramI
namespace Go.Proofs.YtlmeijlandogaaaDoor.Pure
open Go Go.RowKit Go.Proofs.YtlmeijlandogaaaDoor.I Go.Proofs.YtlmeijlandogaaaDoorW.PrintWords Go.Proofs.YtlmeijlandogaaaDoorW.PrintLast
theorem FnExactGrammarText : laws_FnExactGrammarText.Pure := by
  intro s t f l h0 h1 hf hl
  obtain ⟨k, hk⟩ : ∃ k, k = 2300000 := ⟨_, rfl⟩
  refine ⟨k, ?_⟩
  rw [laws_FnExactGrammarText.f, szG s t f l _ hf.1 hl.1 (by omega) (by omega), Option.bind_some]
  by_cases c : (1048576 : Int) - f.length - l.length < 0
  · simp [c]
  · have hn : l.length ≤ 1048576 := by omega
    have hm : f.length ≤ 1048576 := by omega
    have hn' : (l.map cvA).length ≤ 1048576 := by simpa using hn
    have T := toG s t f l hm hn k (by omega)
    rw [if_neg c, if_neg c]
    obtain ⟨r, S, I⟩ := gtext_both (s := s) (t := t) (f := f) (l := l.map cvA) hm hn'
    rw [← hk] at S I
    have E := eqG s t f (l.map cvA) hm hn' k (by omega)
    generalize l.map cvA = m at *
    rw [T, Option.bind_some]
    dsimp only
    rw [S, Option.bind_some, Option.bind_some]
    dsimp only
    rw [I, Option.bind_some, if_pos rfl, Option.bind_some]
    dsimp only
    rw [E, Option.bind_some, if_pos rfl]
end Go.Proofs.YtlmeijlandogaaaDoor.Pure
