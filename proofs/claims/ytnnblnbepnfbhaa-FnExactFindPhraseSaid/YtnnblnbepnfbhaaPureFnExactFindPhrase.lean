/- The law FnExactFindPhrase over lists alone. No condition. -/
import Derived.Test.YtnnblnbepnfbhaaM2x0
import Derived.Test.YtnnblnbepnfbhaaM2x11
import Derived.Test.YtnnblnbepnfbhaaM2x12
import Derived.Test.YtnnblnbepnfbhaaM2x13
import Derived.Test.YtnnblnbepnfbhaaOcc
import Derived.Test.YtnnblnbepnfbhaaPTo
namespace Go.Proofs.Ytnnblnbepnfbhaa.Pure
open Go.RowKit Go.Proofs.Ytnnblnbepnfbhaa.M2 Go.Proofs.YtnnblnbepnfbhaaW.PrintWords Go.Proofs.YtnnblnbepnfbhaaW.PrintLast
theorem find_both (x y : List Int) (hx : x.length ≤ 1048576) (hy : y.length ≤ 1048576) : ∃ (w : List Int) (c : Int), w.length ≤ 1100000 ∧ ∀ k, 1100000 ≤ k → spec_FindPhrase.f k x y = some (w, c) ∧ impl_FindPhrase.f k x y = some (w, c) := by
  by_cases h : code x y = 0
  · obtain ⟨h1, h2, h3⟩ := code_zero h
    have hl := occL_len x y x.length 0
    refine ⟨occL x y x.length 0, 0, by omega, fun k hk => ?_⟩
    rw [spec_FindPhrase.f, impl_FindPhrase.f, specAsk x y hx hy k (by omega), implAsk, Option.bind_some, Option.bind_some, if_pos h, if_pos h, specFind x y h1 h3 k (by omega), implOccs x y h1 h3 h2 k (by omega)]
    exact ⟨rfl, rfl⟩
  · refine ⟨[], code x y, by simp, fun k hk => ?_⟩
    rw [spec_FindPhrase.f, impl_FindPhrase.f, specAsk x y hx hy k (by omega), implAsk, Option.bind_some, Option.bind_some, if_neg h, if_neg h]
    exact ⟨rfl, rfl⟩
theorem markA (x : List Int) (a : Int) (hn : x.length ≤ 1048576) (h0 : 0 ≤ a) (h1 : a ≤ 4000000) (k : Nat) (hk : x.length < k) : laws_markInt64S.f k x a = some (a + (x.length : Int), mks a x.length) := by
  rw [laws_markInt64S.f]
  have := markI_l0 x.length x a k 0 (by omega) h0 (by omega) (by omega) hk
  simpa using this
theorem FnExactFindPhrase : laws_FnExactFindPhrase.Pure := by
  intro l0 l1 h0 h1
  obtain ⟨k, hk⟩ : ∃ k, 1200000 ≤ k := ⟨_, Nat.le_refl _⟩
  refine ⟨k + 5, ?_⟩
  rw [laws_FnExactFindPhrase.f]
  by_cases c : (l0.length : Int) > 1048576
  · rw [if_pos c]
  · by_cases c' : (l1.length : Int) > 1048576
    · rw [if_neg c, if_pos c']
    · have hn : l0.length ≤ 1048576 := by omega
      have hm : l1.length ≤ 1048576 := by omega
      obtain ⟨w, cd, hw, hb⟩ := find_both l0 l1 hn hm
      have S := fun j hj => (hb j hj).1
      have I := fun j hj => (hb j hj).2
      have T0 := toI l0 hn
      have T1 := toI l1 hm
      have E0 := eqI l0 (by omega)
      have E1 := eqI l1 (by omega)
      have M0 := markI l0 (by omega)
      have M1 := markA l1 (1 + (l0.length : Int)) hm (by omega) (by omega)
      have E := eqI w (by omega)
      have M := markI w (by omega)
      have H := heldI w.length (by omega)
      have c1 : ¬ ((1 + (l0.length : Int) + (l1.length : Int)) < 0) := by omega
      have c2 : ¬ ((1 + (w.length : Int)) < 0) := by omega
      rw [if_neg c, if_neg c']
      rw [T0 (k + 5) (by omega), T1 (k + 5) (by omega)]
      simp only [Option.bind_some]
      rw [S (k + 5) (by omega), Option.bind_some, I (k + 5) (by omega), Option.bind_some]
      dsimp only
      rw [E (k + 5) (by omega), Option.bind_some, if_pos rfl, laws_FnExactFindPhrase.j0, if_neg (by simp), T0 (k + 4) (by omega), Option.bind_some, E0 (k + 4) (by omega), Option.bind_some, if_pos rfl, T1 (k + 4) (by omega), Option.bind_some, E1 (k + 4) (by omega), Option.bind_some, if_pos rfl, M0 (k + 4) (by omega), Option.bind_some]
      dsimp only
      rw [M1 (k + 4) (by omega), Option.bind_some]
      dsimp only
      rw [if_neg c1, E (k + 4) (by omega), Option.bind_some, if_pos rfl, laws_FnExactFindPhrase.j1, if_neg (by simp), M (k + 3) (by omega), Option.bind_some]
      dsimp only
      rw [H (k + 3) (by omega), Option.bind_some, if_neg c2, if_pos rfl, T0 (k + 3) (by omega), Option.bind_some, T1 (k + 3) (by omega), Option.bind_some, I (k + 3) (by omega), Option.bind_some]
      dsimp only
      rw [E (k + 3) (by omega), Option.bind_some, if_pos rfl, laws_FnExactFindPhrase.j2, if_neg (by simp), H (k + 2) (by omega), Option.bind_some, if_neg c2, if_pos rfl]

end Go.Proofs.Ytnnblnbepnfbhaa.Pure
