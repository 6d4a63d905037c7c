/- The law FnExactMeetGrammars over lists alone. No condition. -/
import Derived.Test.YteljnbhbpidjpaaGx0
import Derived.Test.YteljnbhbpidjpaaGx21
import Derived.Test.YteljnbhbpidjpaaGx23
import Derived.Test.YteljnbhbpidjpaaMeet3G
import Derived.Test.YteljnbhbpidjpaaTMarkG
namespace Go.Proofs.Yteljnbhbpidjpaa.Pure
open Go.RowKit Go.Proofs.Yteljnbhbpidjpaa.G Go.Proofs.YteljnbhbpidjpaaW.PrintWords Go.Proofs.YteljnbhbpidjpaaW.PrintLast
theorem markG3 (s t a : Int) (f : List Int) (l : List S68) (hf : f.length ≤ 1048576) (hn : l.length ≤ 1048576) (h0 : 0 ≤ a) (h1 : a ≤ 100000000) (k : Nat) (hk : 1048577 ≤ k) : laws_markGrammar.f k s t f l a = some (a + (f.length : Int) + 3 * (l.length : Int), mks a f.length, mksA (a + (f.length : Int)) l.length) := by
  rw [laws_markGrammar.f, markI3 f a hf h0 h1 k (by omega), Option.bind_some]
  dsimp only
  have e := markA2_l0 l.length l (a + (f.length : Int)) k 0 hn (by omega) (by omega) (by omega) (by omega)
  rw [laws_markArcS.f, show (0 : Int) = ((0 : Nat) : Int) from rfl, e, Option.bind_some, List.take_zero, List.nil_append]
theorem FnExactMeetGrammars : laws_FnExactMeetGrammars.Pure := by
  intro sa ta fa la sb tb fb lb _ _ ⟨hfa, _⟩ ⟨hla, _⟩ _ _ ⟨hfb, _⟩ ⟨hlb, _⟩
  refine ⟨6000000, ?_⟩
  unfold laws_FnExactMeetGrammars.f
  rw [szG sa ta fa la 1048576 hfa hla (by omega) (by omega), Option.bind_some]
  by_cases c : ((1048576 : Int) - fa.length - la.length) < 0
  · rw [if_pos c, if_pos (by omega)]
  · rw [if_neg c, if_neg c, szG sb tb fb lb _ hfb hlb (by omega) (by omega), Option.bind_some]
    by_cases c2 : ((1048576 : Int) - fa.length - la.length) - fb.length - lb.length < 0
    · rw [if_pos c2, if_pos (by omega)]
    · rw [if_neg c2, if_neg c2]
      have h1 : fa.length ≤ 1048576 := by omega
      have h2 : la.length ≤ 1048576 := by omega
      have h3 : fb.length ≤ 1048576 := by omega
      have h4 : lb.length ≤ 1048576 := by omega
      have h5 : (la.map cvA).length ≤ 1048576 := by rw [List.length_map]; exact h2
      have h6 : (lb.map cvA).length ≤ 1048576 := by rw [List.length_map]; exact h4
      obtain ⟨g1, g2⟩ := meetG_len sa ta fa (la.map cvA) sb tb fb (lb.map cvA)
      have hk : 1048577 ≤ 6000000 := by decide
      rw [toG sa ta fa la h1 h2 _ hk, Option.bind_some, toG sb tb fb lb h3 h4 _ hk, Option.bind_some]
      dsimp only
      rw [specMeet sa ta fa _ sb tb fb _ h1 h3 h5 h6 _ (Nat.le_refl _), Option.bind_some, implMeet sa ta fa _ sb tb fb _ h1 h3 h5 h6 _ (Nat.le_refl _), Option.bind_some]
      generalize meetG sa ta fa (la.map cvA) sb tb fb (lb.map cvA) = g at g1 g2 ⊢
      rw [eqG g.1 g.2.1 g.2.2.1 g.2.2.2.1 (by omega) (by omega) _ hk, Option.bind_some, eqG sa ta fa _ h1 h5 _ hk, Option.bind_some, eqG sb tb fb _ h3 h6 _ hk, Option.bind_some, markG3 sa ta 1 fa _ h1 h5 (by omega) (by omega) _ hk, Option.bind_some]
      dsimp only
      rw [markG3 sb tb _ fb _ h3 h6 (by omega) (by omega) _ hk, Option.bind_some, markG3 g.1 g.2.1 1 _ _ (by omega) (by omega) (by omega) (by omega) _ hk, Option.bind_some]
      dsimp only
      rw [heldG2 g.1 g.2.1 _ _ (by omega) (by omega) _ hk, Option.bind_some, if_pos ⟨rfl, rfl, rfl, rfl, by omega, by omega, rfl⟩]

end Go.Proofs.Yteljnbhbpidjpaa.Pure
