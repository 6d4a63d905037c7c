/- The law FnExactFewestPhrases over lists alone. No condition. -/
import Derived.Test.YteljnbhbpidjpaaFx0
import Derived.Test.YteljnbhbpidjpaaFx20
import Derived.Test.YteljnbhbpidjpaaFx21
import Derived.Test.YteljnbhbpidjpaaFewF
namespace Go.Proofs.Yteljnbhbpidjpaa.Pure
open Go.RowKit Go.Proofs.Yteljnbhbpidjpaa.F Go.Proofs.YteljnbhbpidjpaaW.PrintWords Go.Proofs.YteljnbhbpidjpaaW.PrintLast Go.Proofs.YteljnbhbpidjpaaW.PrintMore
theorem mkA_eq (n : Nat) : ∀ a : Int, 0 ≤ a → a + n ≤ 4611686018427387904 → mkA n a = a + n := by
  induction n with
  | zero => intro a _ _; simp [mkA]
  | succ n ih =>
    intro a h0 h1
    rw [mkA, w64 (by omega) (by omega), ih (a + 1) (by omega) (by omega)]
    omega
theorem mkS_nn : ∀ (l : List (List Int)) (a : Int), (∀ x ∈ l, x.length ≤ 1048576) → 0 ≤ a → a + l.length * 1048576 ≤ 4611686018427387904 → 0 ≤ mkS l a
  | [], a, _, h0, _ => h0
  | x :: l, a, hx, h0, h1 => by
    have h2 := hx x List.mem_cons_self
    simp only [List.length_cons] at h1
    rw [mkS, mkA_eq _ _ h0 (by omega)]
    exact mkS_nn l _ (fun y hy => hx y (List.mem_cons_of_mem _ hy)) (by omega) (by omega)
theorem FnExactFewestPhrases : laws_FnExactFewestPhrases.Pure := by
  intro x l b h0 h1 _
  obtain ⟨k, hk⟩ : ∃ k, 4000010 ≤ k := ⟨_, Nat.le_refl _⟩
  refine ⟨k, ?_⟩
  rw [laws_FnExactFewestPhrases.f]
  by_cases c0 : (x.length : Int) > 1048576
  · rw [if_pos c0]
  rw [if_neg c0]
  have hx : x.length ≤ 1048576 := by omega
  obtain ⟨t, ht, hl⟩ := szR l h1.1 (fun y hy => (h1.2 y hy).1) k (by omega)
  rw [ht, Option.bind_some]
  by_cases c : t < 0
  · rw [if_pos c]
  obtain ⟨hn, hv⟩ := hl c
  obtain ⟨k, rfl⟩ : ∃ m, k = m + 3 := ⟨k - 3, by omega⟩
  obtain ⟨w, cd, hw, hb⟩ := few_both x l b hx hn hv
  have S := fun j hj => (hb j hj).1
  have I := fun j hj => (hb j hj).2
  have T0 := toI x hx
  have T1 := toR l hn hv
  have E0 := eqI x (by omega)
  have E1 := eqR l hn hv
  have EW := eqI w (by omega)
  have M0 := markI x (by omega)
  have MW := markI w (by omega)
  have HW := heldI w.length (by omega)
  have Rn : ¬ mkS l (1 + (x.length : Int)) < 0 := by
    have := mkS_nn l (1 + (x.length : Int)) hv (by omega) (by omega)
    omega
  rw [if_neg c, T0 _ (by omega), Option.bind_some, T1 _ (by omega), Option.bind_some, S _ (by omega), Option.bind_some, Option.bind_some, Option.bind_some, I _ (by omega), Option.bind_some]
  dsimp only
  rw [EW _ (by omega), Option.bind_some, if_pos rfl, bne_self_eq_false, laws_FnExactFewestPhrases.j0, if_neg (by decide), T0 _ (by omega), Option.bind_some, E0 _ (by omega), Option.bind_some, if_pos rfl, T1 _ (by omega), Option.bind_some, E1 _ (by omega), Option.bind_some, if_pos rfl, M0 _ (by omega), Option.bind_some]
  dsimp only
  rw [laws_markInt64SS.f, Option.bind_some, if_neg Rn, EW _ (by omega), Option.bind_some, if_pos rfl, bne_self_eq_false, laws_FnExactFewestPhrases.j1, if_neg (by decide), MW _ (by omega), Option.bind_some]
  dsimp only
  rw [HW _ (by omega), Option.bind_some, if_neg (by omega), if_pos rfl, T0 _ (by omega), Option.bind_some, T1 _ (by omega), Option.bind_some, I _ (by omega), Option.bind_some]
  dsimp only
  rw [EW _ (by omega), Option.bind_some, if_pos rfl, bne_self_eq_false, laws_FnExactFewestPhrases.j2, if_neg (by decide), HW _ (by omega), Option.bind_some, if_neg (by omega), if_pos rfl]

end Go.Proofs.Yteljnbhbpidjpaa.Pure
