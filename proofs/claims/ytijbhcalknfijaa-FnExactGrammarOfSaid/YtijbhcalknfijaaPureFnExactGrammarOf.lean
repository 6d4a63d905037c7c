/- The law FnExactGrammarOf over lists alone. No condition. -/
import Derived.Test.YtijbhcalknfijaaM7x0
import Derived.Test.YtijbhcalknfijaaM7x28
import Derived.Test.YtijbhcalknfijaaM7x30
import Derived.Test.YtijbhcalknfijaaGOf7
import Derived.Test.YtijbhcalknfijaaRRows7
namespace Go.Proofs.Ytijbhcalknfijaa.Pure
open Go.RowKit Go.Proofs.Ytijbhcalknfijaa.M7 Go.Proofs.YtijbhcalknfijaaW.PrintWords Go.Proofs.YtijbhcalknfijaaW.PrintLast
theorem mkA_eq (n : Nat) : ∀ a : Int, 0 ≤ a → a + n ≤ 4611686018427387904 → mkA n a = a + n := by
  induction n with
  | zero => intro a _ _; simp [mkA]
  | succ n ih =>
    intro a h0 h1
    rw [mkA, w64 (by omega) (by omega), ih (a + 1) (by omega) (by omega)]
    omega
theorem mkS_nn : ∀ (l : List (List Int)) (a : Int), (∀ x ∈ l, x.length ≤ 1048576) → 0 ≤ a → a + l.length * 1048576 ≤ 4611686018427387904 → 0 ≤ mkS l a
  | [], a, _, h0, _ => h0
  | x :: l, a, hx, h0, h1 => by
    have h2 := hx x List.mem_cons_self
    simp only [List.length_cons] at h1
    rw [mkS, mkA_eq _ _ h0 (by omega)]
    exact mkS_nn l _ (fun y hy => hx y (List.mem_cons_of_mem _ hy)) (by omega) (by omega)
theorem FnExactGrammarOf : laws_FnExactGrammarOf.Pure := by
  intro nm u d st wk fb low high h0 h1 h2 _ _ h3 _ _
  obtain ⟨k, hk⟩ : ∃ k, 4000010 ≤ k := ⟨_, Nat.le_refl _⟩
  refine ⟨k, ?_⟩
  obtain ⟨t, ht, hl⟩ := szRg nm u d st wk fb h0 h1.1 h2.1 h3.1 (fun x hx => (h3.2 x hx).1) k (by omega)
  rw [laws_FnExactGrammarOf.f, ht, Option.bind_some]
  by_cases c : t < 0
  · rw [if_pos c]
  · obtain ⟨hu, hd, hf, hv⟩ := hl c
    obtain ⟨k, rfl⟩ : ∃ m, k = m + 3 := ⟨k - 3, by omega⟩
    have T := fun k (hk : 2100000 ≤ k) => toRg nm u d st wk fb hu hd hf hv k hk
    have S := specOf nm u d st wk fb low high hu hd hf (k + 3) (by omega)
    have I := fun k (hk : 4000000 ≤ k) => implOf nm u d st wk fb low high hu hd hf k hk
    have E := eqRg nm u d st wk fb hu hd hf hv (k + 2) (by omega)
    obtain ⟨g1, g2⟩ := gOf_len nm u d st wk fb low high
    generalize gOf nm u d st wk fb low high = g at *
    obtain ⟨s, b, fin, arcs, code⟩ := g
    dsimp only at g1 g2
    have EG := fun k (hk : 1048577 ≤ k) => eqG s b fin arcs g1 g2 k hk
    have M := markG s b fin arcs g1 g2 (k + 1) (by omega)
    have H := fun k (hk : 1048577 ≤ k) => heldG s b fin.length arcs.length g1 g2 k hk
    have R : laws_markRaga.f nm u d st wk fb 1 = some (mkS fb (mkA d.length (mkA u.length 1))) := rfl
    have Rn : ¬ mkS fb (mkA d.length (mkA u.length 1)) < 0 := by
      rw [mkA_eq u.length 1 (by omega) (by omega), mkA_eq d.length _ (by omega) (by omega)]
      have := mkS_nn fb (1 + (u.length : Int) + (d.length : Int)) hv (by omega) (by omega)
      omega
    rw [if_neg c, T _ (by omega), Option.bind_some]
    dsimp only
    rw [S, Option.bind_some, Option.bind_some]
    dsimp only
    rw [I _ (by omega), Option.bind_some]
    dsimp only
    rw [EG _ (by omega), Option.bind_some, if_pos rfl, bne_self_eq_false, laws_FnExactGrammarOf.j0, if_neg (by decide), T _ (by omega), Option.bind_some]
    dsimp only
    rw [E, Option.bind_some, if_pos rfl, R, Option.bind_some, if_neg Rn, EG _ (by omega), Option.bind_some, if_pos rfl, bne_self_eq_false, laws_FnExactGrammarOf.j1, if_neg (by decide), M, Option.bind_some]
    dsimp only
    rw [H _ (by omega), Option.bind_some, if_neg (by omega), if_pos rfl, T _ (by omega), Option.bind_some]
    dsimp only
    rw [I _ (by omega), Option.bind_some]
    dsimp only
    rw [EG _ (by omega), Option.bind_some, if_pos rfl, bne_self_eq_false, laws_FnExactGrammarOf.j2, if_neg (by decide), H _ (by omega), Option.bind_some, if_neg (by omega), if_pos rfl]

end Go.Proofs.Ytijbhcalknfijaa.Pure
