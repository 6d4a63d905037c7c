/- The law FnExactPitchesOf over lists alone. No condition. -/
import Derived.Test.YtbhmalpncnkmaaaMx0
import Derived.Test.YtbhmalpncnkmaaaMx80
import Derived.Test.YtbhmalpncnkmaaaMx81
import Derived.Test.YtbhmalpncnkmaaaMx82
import Derived.Test.YtbhmalpncnkmaaaMx83
import Derived.Test.YtbhmalpncnkmaaaMx84
import Derived.Test.YtbhmalpncnkmaaaMel
namespace Go.Proofs.Ytbhmalpncnkmaaa.Pure
open Go.RowKit Go.Proofs.Ytbhmalpncnkmaaa.M Go.Proofs.YtbhmalpncnkmaaaW.PrintWords Go.Proofs.YtbhmalpncnkmaaaW.PrintLast
theorem specPitches_l0 (x : List S72) (hn : x.length ≤ 1048576) (d : Nat) : ∀ (k i : Nat) (a : List Int), a.length ≤ i → i + d = x.length → d < k → spec_l09Pitches.l0 k x a (i : Int) = some (a ++ (x.drop i).map (·.f0)) := by
  induction d with
  | zero =>
    intro k i a ha hi hk
    obtain ⟨k, rfl⟩ := succ_of hk
    rw [spec_l09Pitches.l0, if_neg (by omega), List.drop_eq_nil_of_le (by omega)]
    simp
  | succ d ih =>
    intro k i a ha hi hk
    obtain ⟨k, rfl⟩ := succ_of hk
    have hlt : i < x.length := by omega
    rw [spec_l09Pitches.l0, if_pos (by omega), if_pos (by omega), rdN_at hlt, List.drop_eq_getElem_cons hlt, w64 (by omega) (by omega), if_pos (by omega)]
    have := ih k (i + 1) (a ++ [x[i].f0]) (by simp; omega) (by omega) (by omega)
    rw [show ((i : Int) + 1) = ((i + 1 : Nat) : Int) by omega, this, List.map_cons, List.append_assoc]
    rfl
theorem specPitches (x : List S72) (hn : x.length ≤ 1048576) (k : Nat) (hk : 1048577 ≤ k) : spec_l09Pitches.f k x = some (x.map (·.f0)) := by
  rw [spec_l09Pitches.f]
  have := specPitches_l0 x hn x.length k 0 [] (by simp) (by omega) (by omega)
  simpa using this
theorem implPitches_l0 (x : List S72) (hn : x.length ≤ 1048576) (d : Nat) : ∀ (k i : Nat) (a : List Int), a.length ≤ i → i + d = x.length → d < k → impl_pitchesOf.l0 k a x (x.length : Int) (i : Int) = some (a ++ (x.drop i).map (·.f0)) := by
  induction d with
  | zero =>
    intro k i a ha hi hk
    obtain ⟨k, rfl⟩ := succ_of hk
    rw [impl_pitchesOf.l0, if_neg (by omega), List.drop_eq_nil_of_le (by omega)]
    simp
  | succ d ih =>
    intro k i a ha hi hk
    obtain ⟨k, rfl⟩ := succ_of hk
    have hlt : i < x.length := by omega
    rw [impl_pitchesOf.l0, if_pos (by omega), if_pos (by omega), if_pos (by omega), rdN_at hlt, List.drop_eq_getElem_cons hlt, w64 (by omega) (by omega), if_pos (by omega)]
    have := ih k (i + 1) (a ++ [x[i].f0]) (by simp; omega) (by omega) (by omega)
    rw [show ((i : Int) + 1) = ((i + 1 : Nat) : Int) by omega, this, List.map_cons, List.append_assoc]
    rfl
theorem implPitches (x : List S72) (hn : x.length ≤ 1048576) (k : Nat) (hk : 1048577 ≤ k) : impl_pitchesOf.f k x = some (x.map (·.f0)) := by
  rw [impl_pitchesOf.f]
  have := implPitches_l0 x hn x.length k 0 [] (by simp) (by omega) (by omega)
  simpa using this
theorem pitchesof_both (x : List S72) (hn : x.length ≤ 1048576) : ∃ (w : List Int) (c : Int), w.length ≤ 1100000 ∧ ∀ k, 1100000 ≤ k → spec_PitchesOf.f k x = some (w, c) ∧ impl_PitchesOf.f k x = some (w, c) := by
  cases h : okN x with
  | false =>
    refine ⟨[], 1, by simp, fun k hk => ?_⟩
    rw [spec_PitchesOf.f, impl_PitchesOf.f, specOk x hn k (by omega), implOk x hn k (by omega), h]
    exact ⟨rfl, rfl⟩
  | true =>
    refine ⟨x.map (·.f0), 0, by simp; omega, fun k hk => ?_⟩
    rw [spec_PitchesOf.f, impl_PitchesOf.f, specOk x hn k (by omega), implOk x hn k (by omega), h]
    simp only [Option.bind_some, if_true, specPitches x hn k (by omega), implPitches x hn k (by omega), and_self]
theorem FnExactPitchesOf : laws_FnExactPitchesOf.Pure := by
  intro l0  h0 
  obtain ⟨k, hk⟩ : ∃ k, 1200000 ≤ k := ⟨_, Nat.le_refl _⟩
  refine ⟨k + 5, ?_⟩
  rw [laws_FnExactPitchesOf.f, szN l0 _ h0.1 (by omega) (by omega), Option.bind_some]
  by_cases c : (1048576 : Int) - l0.length < 0
  · simp [c]
  · have hn : l0.length ≤ 1048576 := by omega
    have hn' : (l0.map cvN).length ≤ 1048576 := by simpa using hn
    obtain ⟨w, cd, hw, hb⟩ := pitchesof_both (l0.map cvN) hn'  
    have S := fun j hj => (hb j hj).1
    have I := fun j hj => (hb j hj).2
    have T := toN l0 hn
    have EN := eqN (l0.map cvN) (by omega)
    have MN := markN (l0.map cvN) (by omega)
    have E := eqI w (by omega)
    have M := markI w (by omega)
    have H := heldI w.length (by omega)
    have c1 : ¬ ((1 + 2 * ((l0.map cvN).length : Int)) < 0) := by omega
    have c2 : ¬ ((1 + (w.length : Int)) < 0) := by omega
    rw [if_neg c, if_neg c]
    generalize l0.map cvN = m at *
    rw [T (k + 5) (by omega)]
    simp only [Option.bind_some]
    rw [S (k + 5) (by omega), Option.bind_some, I (k + 5) (by omega), Option.bind_some]
    dsimp only
    rw [E (k + 5) (by omega), Option.bind_some, if_pos rfl, laws_FnExactPitchesOf.j0, if_neg (by simp), T (k + 4) (by omega), Option.bind_some, EN (k + 4) (by omega), Option.bind_some, if_pos rfl, MN (k + 4) (by omega), Option.bind_some]
    dsimp only
    rw [if_neg c1, E (k + 4) (by omega), Option.bind_some, if_pos rfl, laws_FnExactPitchesOf.j1, if_neg (by simp), M (k + 3) (by omega), Option.bind_some]
    dsimp only
    rw [H (k + 3) (by omega), Option.bind_some, if_neg c2, if_pos rfl, T (k + 3) (by omega), Option.bind_some, I (k + 3) (by omega), Option.bind_some]
    dsimp only
    rw [E (k + 3) (by omega), Option.bind_some, if_pos rfl, laws_FnExactPitchesOf.j2, if_neg (by simp), H (k + 2) (by omega), Option.bind_some, if_neg c2, if_pos rfl]


end Go.Proofs.Ytbhmalpncnkmaaa.Pure
