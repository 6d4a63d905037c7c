/- The law FnExactTransposeMelody over lists alone. No condition. -/
import Derived.Test.YtnpifkjbnkfiaaaMx0
import Derived.Test.YtnpifkjbnkfiaaaMx12
import Derived.Test.YtnpifkjbnkfiaaaMx13
import Derived.Test.YtnpifkjbnkfiaaaMx14
import Derived.Test.YtnpifkjbnkfiaaaDone
namespace Go.Proofs.Ytnpifkjbnkfiaaa.Pure
open Go.RowKit Go.Proofs.Ytnpifkjbnkfiaaa.M Go.Proofs.YtnpifkjbnkfiaaaW.PrintWords Go.Proofs.YtnpifkjbnkfiaaaW.PrintLast
theorem traS_l0 (m : List S52) (x : Int) (hn : m.length ≤ 1048576) (d : Nat) : ∀ (k i : Nat), i + d = m.length → d + 1048577 < k → spec_TransposeMelody.l0 k x (part (traG x) m i) (i : Int) = some (doneN (m.map (traG x))) := by
  induction d with
  | zero =>
    intro k i hi hk
    obtain ⟨k, rfl⟩ := succ_of hk
    have hl := part_len (traG x) m i (by omega)
    obtain rfl : i = m.length := by omega
    rw [spec_TransposeMelody.l0, if_neg (by omega), part_all, specDone _ (by simpa using hn) k (by omega), Option.bind_some]
  | succ d ih =>
    intro k i hi hk
    obtain ⟨k, rfl⟩ := succ_of hk
    have hlt : i < m.length := by omega
    have hl := part_len (traG x) m i (by omega)
    rw [spec_TransposeMelody.l0, if_pos (by omega), if_pos (by omega), rdN_at (by omega), part_at (traG x) m i hlt, w64 (n := (i : Int) + 1) (by omega) (by omega), Int.toNat_natCast, show ((i : Int) + 1) = ((i + 1 : Nat) : Int) by omega]
    have := part_set (traG x) m i hlt
    rw [traG] at this
    rw [this]
    exact ih k (i + 1) (by omega) (by omega)
theorem transposemelody_both (m : List S52) (hn : m.length ≤ 1048576) (x : Int) : ∃ (w : List S52) (c : Int), w.length ≤ 1100000 ∧ ∀ k, 2200000 ≤ k → spec_TransposeMelody.f k m x = some (w, c) ∧ impl_TransposeMelody.f k m x = some (w, c) := by
  cases h : okN m with
  | false =>
    refine ⟨[], 1, by simp, fun k hk => ?_⟩
    rw [spec_TransposeMelody.f, impl_TransposeMelody.f, specOk m hn k (by omega), implOk m hn k (by omega), h]
    exact ⟨rfl, rfl⟩
  | true =>
    cases h2 : inB x (-35) 35 with
    | false =>
      refine ⟨[], 2, by simp, fun k hk => ?_⟩
      rw [spec_TransposeMelody.f, impl_TransposeMelody.f, specOk m hn k (by omega), implOk m hn k (by omega), h]
      simp only [Option.bind_some, if_true, spec_l09By.f, specIn, implIn, h2]
      exact ⟨rfl, rfl⟩
    | true =>
      have hd := doneN_len (m.map (traG x))
      refine ⟨(doneN (m.map (traG x))).1, (doneN (m.map (traG x))).2, by omega, fun k hk => ?_⟩
      rw [spec_TransposeMelody.f, impl_TransposeMelody.f, specOk m hn k (by omega), implOk m hn k (by omega), h]
      simp only [Option.bind_some, if_true, spec_l09By.f, specIn, implIn, h2, specOwn m hn]
      rw [if_pos (by omega), implDone]
      have := traS_l0 m x hn m.length k 0 (by omega) (by omega)
      rw [part_zero] at this
      exact ⟨this, rfl⟩
theorem FnExactTransposeMelody : laws_FnExactTransposeMelody.Pure := by
  intro l0 a1 h0 h1
  obtain ⟨k, hk⟩ : ∃ k, 2300000 ≤ k := ⟨_, Nat.le_refl _⟩
  refine ⟨k + 5, ?_⟩
  rw [laws_FnExactTransposeMelody.f, szN l0 _ h0.1 (by omega) (by omega), Option.bind_some]
  by_cases c : (1048576 : Int) - l0.length < 0
  · simp [c]
  · have hn : l0.length ≤ 1048576 := by omega
    have hn' : (l0.map cvN).length ≤ 1048576 := by simpa using hn
    obtain ⟨w, cd, hw, hb⟩ := transposemelody_both (l0.map cvN) hn' a1 
    have S := fun j hj => (hb j hj).1
    have I := fun j hj => (hb j hj).2
    have T := toN l0 hn
    have EN := eqN (l0.map cvN) (by omega)
    have MN := markN (l0.map cvN) (by omega)
    have E := eqN w (by omega)
    have M := markN w (by omega)
    have H := heldN w.length (by omega)
    have c1 : ¬ ((1 + 2 * ((l0.map cvN).length : Int)) < 0) := by omega
    have c2 : ¬ ((1 + 2 * (w.length : Int)) < 0) := by omega
    rw [if_neg c, if_neg c]
    generalize l0.map cvN = m at *
    rw [T (k + 5) (by omega)]
    simp only [Option.bind_some]
    rw [S (k + 5) (by omega), Option.bind_some, I (k + 5) (by omega), Option.bind_some]
    dsimp only
    rw [E (k + 5) (by omega), Option.bind_some, if_pos rfl, laws_FnExactTransposeMelody.j0, if_neg (by simp), T (k + 4) (by omega), Option.bind_some, EN (k + 4) (by omega), Option.bind_some, if_pos rfl, MN (k + 4) (by omega), Option.bind_some]
    dsimp only
    rw [if_neg c1, E (k + 4) (by omega), Option.bind_some, if_pos rfl, laws_FnExactTransposeMelody.j1, if_neg (by simp), M (k + 3) (by omega), Option.bind_some]
    dsimp only
    rw [H (k + 3) (by omega), Option.bind_some, if_neg c2, if_pos rfl, T (k + 3) (by omega), Option.bind_some, I (k + 3) (by omega), Option.bind_some]
    dsimp only
    rw [E (k + 3) (by omega), Option.bind_some, if_pos rfl, laws_FnExactTransposeMelody.j2, if_neg (by simp), H (k + 2) (by omega), Option.bind_some, if_neg c2, if_pos rfl]


end Go.Proofs.Ytnpifkjbnkfiaaa.Pure
