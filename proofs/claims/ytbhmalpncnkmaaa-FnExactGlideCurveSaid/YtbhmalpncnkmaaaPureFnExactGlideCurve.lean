/- The law FnExactGlideCurve over lists alone. No condition. -/
import Derived.Test.YtbhmalpncnkmaaaMx0
import Derived.Test.YtbhmalpncnkmaaaMx31
import Derived.Test.YtbhmalpncnkmaaaMx33
import Derived.Test.YtbhmalpncnkmaaaMx34
import Derived.Test.YtbhmalpncnkmaaaMx37
import Derived.Test.YtbhmalpncnkmaaaMx41
import Derived.Test.YtbhmalpncnkmaaaMel
import Derived.Test.YtbhmalpncnkmaaaDiv
namespace Go.Proofs.Ytbhmalpncnkmaaa.Pure
open Go.RowKit Go.Proofs.Ytbhmalpncnkmaaa.M Go.Proofs.YtbhmalpncnkmaaaW.PrintWords Go.Proofs.YtbhmalpncnkmaaaW.PrintLast
theorem glide_bd (a b u n : Int) (ha : -2000 ≤ a ∧ a ≤ 3000) (hb : -2000 ≤ b ∧ b ≤ 3000) (hu : 0 ≤ u) (hun : u ≤ n) (hn : n ≤ 64) : (-2000 * 64 ≤ a * (n - u) ∧ a * (n - u) ≤ 3000 * 64) ∧ (-2000 * 64 ≤ b * u ∧ b * u ≤ 3000 * 64) := by
  have key : ∀ (x t : Int), -2000 ≤ x → x ≤ 3000 → 0 ≤ t → t ≤ 64 → -2000 * 64 ≤ x * t ∧ x * t ≤ 3000 * 64 := by
    intro x t h1 h2 h3 h4
    have e1 : -2000 * t ≤ x * t := Int.mul_le_mul_of_nonneg_right h1 h3
    have e2 : x * t ≤ 3000 * t := Int.mul_le_mul_of_nonneg_right h2 h3
    omega
  exact ⟨key a (n - u) ha.1 ha.2 (by omega) (by omega), key b u hb.1 hb.2 hu (by omega)⟩
theorem glide_l0 (a b n : Int) (ha : -2000 ≤ a ∧ a ≤ 3000) (hb : -2000 ≤ b ∧ b ≤ 3000) (hn : 1 ≤ n ∧ n ≤ 64) (d : Nat) : ∀ (i : Nat) (acc : List Int), (i : Int) + d = n → acc.length = i → ∃ w : List Int, w.length ≤ 64 ∧ ∀ k, d < k → spec_GlideCurve.l0 k a b n acc (i : Int) = some (w, 0) ∧ impl_GlideCurve.l0 k a b n acc n (i : Int) = some (w, 0) := by
  induction d with
  | zero =>
    intro i acc hi hl
    refine ⟨acc, by omega, fun k hk => ?_⟩
    obtain ⟨k, rfl⟩ := succ_of hk
    rw [spec_GlideCurve.l0, impl_GlideCurve.l0, if_neg (by omega), if_neg (by omega)]
    exact ⟨rfl, rfl⟩
  | succ d ih =>
    intro i acc hi hl
    have h := glide_bd a b i n ha hb (by omega) (by omega) (by omega)
    obtain ⟨w, hw, hk⟩ := ih (i + 1) (acc ++ [dv (a * (n - i) + b * i) n]) (by omega) (by simp; omega)
    refine ⟨w, hw, fun k hk' => ?_⟩
    obtain ⟨k, rfl⟩ := succ_of hk'
    rw [spec_GlideCurve.l0, impl_GlideCurve.l0, if_pos (by omega), if_pos (by omega), w64 (n := n - i) (by omega) (by omega), w64 (n := a * (n - i)) (by omega) (by omega), w64 (n := b * i) (by omega) (by omega), w64 (n := a * (n - i) + b * i) (by omega) (by omega), w64 (n := (i : Int) + 1) (by omega) (by omega), specDiv _ _ (by omega) (by omega) (by omega) (by omega), implDiv _ _ (by omega) (by omega) (by omega) (by omega), Option.bind_some, Option.bind_some, if_pos (by omega), if_pos (by omega)]
    exact hk k (by omega)
theorem specCents (a : Int) : spec_l10Cents.f a = some (inB a (-2000) 3000) := by unfold spec_l10Cents.f; rw [specIn]; rfl
theorem implCents (a : Int) : impl_curveNumber.f a = some (inB a (-2000) 3000) := by unfold impl_curveNumber.f; rw [implIn]; rfl
theorem glidecurve_both (a b n : Int) : ∃ (w : List Int) (c : Int), w.length ≤ 1100000 ∧ ∀ k, 1100000 ≤ k → spec_GlideCurve.f k a b n = some (w, c) ∧ impl_GlideCurve.f k a b n = some (w, c) := by
  by_cases h : inB a (-2000) 3000 = true ∧ inB b (-2000) 3000 = true ∧ inB n 1 64 = true
  · obtain ⟨h1, h2, h3⟩ := h
    have b3 := inB_true.1 h3
    obtain ⟨m, rfl⟩ := Int.eq_ofNat_of_zero_le (show 0 ≤ n by omega)
    obtain ⟨w, hw, hk⟩ := glide_l0 a b m (inB_true.1 h1) (inB_true.1 h2) b3 m 0 [] (by omega) rfl
    refine ⟨w, 0, by omega, fun k hk' => ?_⟩
    obtain ⟨k, rfl⟩ := succ_of (show 0 < k by omega)
    rw [spec_GlideCurve.f, impl_GlideCurve.f]
    simp only [specCents, implCents, specLen, implLen, h1, h2, h3, Option.bind_some, if_true, spec_GlideCurve.j0, impl_GlideCurve.j0, Bool.not_true, Bool.false_eq_true, if_false]
    exact hk k (by omega)
  · refine ⟨[], 2, by simp, fun k hk => ?_⟩
    obtain ⟨k, rfl⟩ := succ_of (show 0 < k by omega)
    rw [spec_GlideCurve.f, impl_GlideCurve.f]
    simp only [specCents, implCents, specLen, implLen, Option.bind_some, spec_GlideCurve.j0, impl_GlideCurve.j0]
    revert h
    cases inB a (-2000) 3000 <;> cases inB b (-2000) 3000 <;> cases inB n 1 64 <;> simp
theorem FnExactGlideCurve : laws_FnExactGlideCurve.Pure := by
  intro a0 a1 a2 h0 h1 h2
  obtain ⟨k, hk⟩ : ∃ k, 1200000 ≤ k := ⟨_, Nat.le_refl _⟩
  refine ⟨k + 5, ?_⟩
  obtain ⟨w, cd, hw, hb⟩ := glidecurve_both a0 a1 a2 
  have S := fun j hj => (hb j hj).1
  have I := fun j hj => (hb j hj).2
  have E := eqI w (by omega)
  have M := markI w (by omega)
  have H := heldI w.length (by omega)
  have c2 : ¬ ((1 + (w.length : Int)) < 0) := by omega
  rw [laws_FnExactGlideCurve.f]
  
  rw [S (k + 5) (by omega), Option.bind_some, I (k + 5) (by omega), Option.bind_some]
  dsimp only
  rw [E (k + 5) (by omega), Option.bind_some, if_pos rfl, laws_FnExactGlideCurve.j0, if_neg (by simp), M (k + 4) (by omega), Option.bind_some]
  dsimp only
  rw [H (k + 4) (by omega), Option.bind_some, if_neg c2, if_pos rfl, I (k + 4) (by omega), Option.bind_some]
  dsimp only
  rw [E (k + 4) (by omega), Option.bind_some, if_pos rfl, laws_FnExactGlideCurve.j1, if_neg (by simp), H (k + 3) (by omega), Option.bind_some, if_neg c2, if_pos rfl]


end Go.Proofs.Ytbhmalpncnkmaaa.Pure
