/- The law FnExactJoinMelodies over lists alone. No condition. -/
import Derived.Test.YtnpifkjbnkfiaaaMx0
import Derived.Test.YtnpifkjbnkfiaaaMx9
import Derived.Test.YtnpifkjbnkfiaaaMx18
import Derived.Test.YtnpifkjbnkfiaaaMx19
import Derived.Test.YtnpifkjbnkfiaaaMx20
import Derived.Test.YtnpifkjbnkfiaaaDone
namespace Go.Proofs.Ytnpifkjbnkfiaaa.Pure
open Go.RowKit Go.Proofs.Ytnpifkjbnkfiaaa.M Go.Proofs.YtnpifkjbnkfiaaaW.PrintWords Go.Proofs.YtnpifkjbnkfiaaaW.PrintLast
theorem joinmelodies_both (a b : List S52) (ha : a.length ≤ 1048576) (hb : b.length ≤ 1048576) : ∃ (w : List S52) (c : Int), w.length ≤ 1100000 ∧ ∀ k, 2200000 ≤ k → spec_JoinMelodies.f k a b = some (w, c) ∧ impl_JoinMelodies.f k a b = some (w, c) := by
  by_cases h : okN a = true
  · by_cases h2 : okN b = true
    · have hd := doneN_len (a ++ b)
      have la := okN_len h
      have lb := okN_len h2
      refine ⟨(doneN (a ++ b)).1, (doneN (a ++ b)).2, by omega, fun k hk => ?_⟩
      obtain ⟨k, rfl⟩ : ∃ j, k = j + 1 := ⟨k - 1, by omega⟩
      have hc : impl_Note_56.f [a, b] = some (a ++ b) := by
        unfold impl_Note_56.f
        rw [show [a, b].flatten = a ++ b by simp, if_pos (by rw [List.length_append]; omega)]
      rw [spec_JoinMelodies.f, impl_JoinMelodies.f, specOk a ha _ (by omega), implOk a ha _ (by omega), Option.bind_some, Option.bind_some, if_pos h, if_pos h, specOk b hb _ (by omega), implOk b hb _ (by omega), Option.bind_some, Option.bind_some, h2, spec_JoinMelodies.j0, impl_JoinMelodies.j0, if_neg (by decide), if_neg (by decide), specOwn a ha, Option.bind_some, if_pos (by omega), specDone _ (by rw [List.length_append]; omega) _ (by omega), Option.bind_some, hc, Option.bind_some, implDone, Option.bind_some]
      exact ⟨rfl, rfl⟩
    · refine ⟨[], 1, by simp, fun k hk => ?_⟩
      obtain ⟨k, rfl⟩ : ∃ j, k = j + 1 := ⟨k - 1, by omega⟩
      rw [Bool.not_eq_true] at h2
      rw [spec_JoinMelodies.f, impl_JoinMelodies.f, specOk a ha _ (by omega), implOk a ha _ (by omega), Option.bind_some, Option.bind_some, if_pos h, if_pos h, specOk b hb _ (by omega), implOk b hb _ (by omega), Option.bind_some, Option.bind_some, h2, spec_JoinMelodies.j0, impl_JoinMelodies.j0, if_pos (by decide), if_pos (by decide)]
      exact ⟨rfl, rfl⟩
  · refine ⟨[], 1, by simp, fun k hk => ?_⟩
    obtain ⟨k, rfl⟩ : ∃ j, k = j + 1 := ⟨k - 1, by omega⟩
    rw [spec_JoinMelodies.f, impl_JoinMelodies.f, specOk a ha _ (by omega), implOk a ha _ (by omega), Option.bind_some, Option.bind_some, if_neg h, if_neg h, spec_JoinMelodies.j0, impl_JoinMelodies.j0, if_pos rfl, if_pos rfl]
    exact ⟨rfl, rfl⟩
theorem markN2 (x : List S52) (a : Int) (hn : x.length ≤ 1048576) (h0 : 0 ≤ a) (h1 : a ≤ 10000000) (k : Nat) (hk : x.length < k) : laws_markNoteS.f k x a = some (a + 2 * (x.length : Int), mksN a x.length) := by
  rw [laws_markNoteS.f]
  have := markN_l0 x.length x a k 0 (by omega) h0 (by omega) (by omega) hk
  simpa using this
theorem FnExactJoinMelodies : laws_FnExactJoinMelodies.Pure := by
  intro l0 l1 h0 h1
  obtain ⟨k, hk⟩ : ∃ k, 2300000 ≤ k := ⟨_, Nat.le_refl _⟩
  refine ⟨k + 5, ?_⟩
  rw [laws_FnExactJoinMelodies.f, szN l0 _ h0.1 (by omega) (by omega), Option.bind_some]
  by_cases c : (1048576 : Int) - l0.length < 0
  · simp [c]
  · rw [if_neg c, if_neg c, szN l1 _ h1.1 (by omega) (by omega), Option.bind_some]
    by_cases d : (1048576 : Int) - l0.length - l1.length < 0
    · simp [d]
    · have hn : l0.length ≤ 1048576 := by omega
      have hm : l1.length ≤ 1048576 := by omega
      have hn' : (l0.map cvN).length ≤ 1048576 := by simpa using hn
      have hm' : (l1.map cvN).length ≤ 1048576 := by simpa using hm
      obtain ⟨w, cd, hw, hb⟩ := joinmelodies_both (l0.map cvN) (l1.map cvN) hn' hm'
      have S := fun j hj => (hb j hj).1
      have I := fun j hj => (hb j hj).2
      have T := toN l0 hn
      have T2 := toN l1 hm
      have EN := eqN (l0.map cvN) (by omega)
      have EN2 := eqN (l1.map cvN) (by omega)
      have MN := markN (l0.map cvN) (by omega)
      have MN2 := markN2 (l1.map cvN) (1 + 2 * ((l0.map cvN).length : Int)) hm' (by omega) (by omega)
      have E := eqN w (by omega)
      have M := markN w (by omega)
      have H := heldN w.length (by omega)
      have c1 : ¬ ((1 + 2 * ((l0.map cvN).length : Int) + 2 * ((l1.map cvN).length : Int)) < 0) := by omega
      have c2 : ¬ ((1 + 2 * (w.length : Int)) < 0) := by omega
      rw [if_neg d, if_neg d]
      generalize l0.map cvN = m at *
      generalize l1.map cvN = m2 at *
      rw [T (k + 5) (by omega)]
      simp only [Option.bind_some]
      rw [T2 (k + 5) (by omega)]
      simp only [Option.bind_some]
      rw [S (k + 5) (by omega), Option.bind_some, I (k + 5) (by omega), Option.bind_some]
      dsimp only
      rw [E (k + 5) (by omega), Option.bind_some, if_pos rfl, laws_FnExactJoinMelodies.j0, if_neg (by simp), T (k + 4) (by omega), Option.bind_some, EN (k + 4) (by omega), Option.bind_some, if_pos rfl, T2 (k + 4) (by omega), Option.bind_some, EN2 (k + 4) (by omega), Option.bind_some, if_pos rfl, MN (k + 4) (by omega), Option.bind_some]
      dsimp only
      rw [MN2 (k + 4) (by omega), Option.bind_some]
      dsimp only
      rw [if_neg c1, E (k + 4) (by omega), Option.bind_some, if_pos rfl, laws_FnExactJoinMelodies.j1, if_neg (by simp), M (k + 3) (by omega), Option.bind_some]
      dsimp only
      rw [H (k + 3) (by omega), Option.bind_some, if_neg c2, if_pos rfl, T (k + 3) (by omega), Option.bind_some, T2 (k + 3) (by omega), Option.bind_some, I (k + 3) (by omega), Option.bind_some]
      dsimp only
      rw [E (k + 3) (by omega), Option.bind_some, if_pos rfl, laws_FnExactJoinMelodies.j2, if_neg (by simp), H (k + 2) (by omega), Option.bind_some, if_neg c2, if_pos rfl]


end Go.Proofs.Ytnpifkjbnkfiaaa.Pure
