/- The law FnExactContourOf over lists alone. No condition. -/
import Derived.Test.YtbhmalpncnkmaaaMx0
import Derived.Test.YtbhmalpncnkmaaaMx51
import Derived.Test.YtbhmalpncnkmaaaMx52
import Derived.Test.YtbhmalpncnkmaaaMx53
import Derived.Test.YtbhmalpncnkmaaaMx54
import Derived.Test.YtbhmalpncnkmaaaMel
namespace Go.Proofs.Ytbhmalpncnkmaaa.Pure
open Go.RowKit Go.Proofs.Ytbhmalpncnkmaaa.M Go.Proofs.YtbhmalpncnkmaaaW.PrintWords Go.Proofs.YtbhmalpncnkmaaaW.PrintLast
theorem specC (x : List S72) (hn : x.length ≤ 48) (hv : ∀ y ∈ x, -12 ≤ y.f0 ∧ y.f0 ≤ 23 ∧ 1 ≤ y.f1 ∧ y.f1 ≤ 64) (d : Nat) : ∀ (i : Nat) (acc : List Int), 1 ≤ i → (i + d = x.length ∨ d = 0 ∧ x.length ≤ i) → acc.length ≤ i → ∃ w : List Int, w.length ≤ i + d ∧ ∀ k, d < k → spec_ContourOf.l0 k x acc (i : Int) = some (w, 0) ∧ impl_ContourOf.l0 k x acc (i : Int) = some (w, 0) := by
  induction d with
  | zero =>
    intro i acc h1 hi ha
    refine ⟨acc, by omega, fun k hk => ?_⟩
    obtain ⟨k, rfl⟩ := succ_of hk
    rw [spec_ContourOf.l0, impl_ContourOf.l0, if_neg (by omega), if_neg (by omega)]
    exact ⟨rfl, rfl⟩
  | succ d ih =>
    intro i acc h1 hi ha
    have hlt : i < x.length := by omega
    have hlt' : i - 1 < x.length := by omega
    have hx := hv x[i] (List.getElem_mem hlt)
    have hy := hv x[i - 1] (List.getElem_mem hlt')
    obtain ⟨w, hw, hk⟩ := ih (i + 1) (acc ++ [if x[i].f0 - x[i - 1].f0 > 0 then 1 else if x[i].f0 - x[i - 1].f0 < 0 then -1 else 0]) (by omega) (by omega) (by simp; omega)
    refine ⟨w, by omega, fun k hk' => ?_⟩
    obtain ⟨k, rfl⟩ := succ_of hk'
    have hk := hk k (by omega)
    rw [spec_ContourOf.l0, impl_ContourOf.l0]
    rw [w64 (n := (i : Int) - 1) (by omega) (by omega), show ((i : Int) - 1) = ((i - 1 : Nat) : Int) by omega, rdN_at hlt, rdN_at hlt', w64 (n := x[i].f0 - x[i - 1].f0) (by omega) (by omega), w64 (n := (i : Int) + 1) (by omega) (by omega)]
    rw [show ((i : Int) + 1) = ((i + 1 : Nat) : Int) by omega]
    simp only [if_pos (show (i : Int) < (x.length : Int) by omega), if_pos (show (0 : Int) ≤ (i : Int) by omega), if_pos (show (0 : Int) ≤ ((i - 1 : Nat) : Int) by omega), if_pos (show ((i - 1 : Nat) : Int) < (x.length : Int) by omega), if_pos (show acc.length < 17592186044416 by omega)]
    simp only [cmp_Compare_int64.f, cmp_isNaN_int64.f, bne_self_eq_false, Option.bind_some, Bool.false_eq_true, if_false]
    by_cases c1 : x[i].f0 - x[i - 1].f0 > 0
    · rw [if_pos c1] at hk
      rw [if_pos c1, if_neg (show ¬ x[i].f0 < x[i - 1].f0 by omega), if_pos (show x[i].f0 > x[i - 1].f0 by omega), Option.bind_some]
      exact hk
    · rw [if_neg c1] at hk
      rw [if_neg c1]
      by_cases c2 : x[i].f0 - x[i - 1].f0 < 0
      · rw [if_pos c2] at hk
        rw [if_pos c2, if_pos (show x[i].f0 < x[i - 1].f0 by omega), Option.bind_some]
        exact hk
      · rw [if_neg c2] at hk
        rw [if_neg c2, if_neg (show ¬ x[i].f0 < x[i - 1].f0 by omega), if_neg (show ¬ x[i].f0 > x[i - 1].f0 by omega), Option.bind_some]
        exact hk
theorem contourof_both (x : List S72) (hn : x.length ≤ 1048576) : ∃ (w : List Int) (c : Int), w.length ≤ 1100000 ∧ ∀ k, 1100000 ≤ k → spec_ContourOf.f k x = some (w, c) ∧ impl_ContourOf.f k x = some (w, c) := by
  cases h : okN x with
  | false =>
    refine ⟨[], 1, by simp, fun k hk => ?_⟩
    rw [spec_ContourOf.f, impl_ContourOf.f, specOk x hn k (by omega), implOk x hn k (by omega), h]
    exact ⟨rfl, rfl⟩
  | true =>
    have hl := okN_len h
    obtain ⟨w, hw, hk'⟩ := specC x hl (fun y hy => okN_at h hy) (x.length - 1) 1 [] (by omega) (by omega) (by simp)
    refine ⟨w, 0, by omega, fun k hk => ?_⟩
    rw [spec_ContourOf.f, impl_ContourOf.f, specOk x hn k (by omega), implOk x hn k (by omega), h]
    simp only [Option.bind_some, if_true]
    exact hk' k (by omega)
theorem FnExactContourOf : laws_FnExactContourOf.Pure := by
  intro l0  h0 
  obtain ⟨k, hk⟩ : ∃ k, 1200000 ≤ k := ⟨_, Nat.le_refl _⟩
  refine ⟨k + 5, ?_⟩
  rw [laws_FnExactContourOf.f, szN l0 _ h0.1 (by omega) (by omega), Option.bind_some]
  by_cases c : (1048576 : Int) - l0.length < 0
  · simp [c]
  · have hn : l0.length ≤ 1048576 := by omega
    have hn' : (l0.map cvN).length ≤ 1048576 := by simpa using hn
    obtain ⟨w, cd, hw, hb⟩ := contourof_both (l0.map cvN) hn'  
    have S := fun j hj => (hb j hj).1
    have I := fun j hj => (hb j hj).2
    have T := toN l0 hn
    have EN := eqN (l0.map cvN) (by omega)
    have MN := markN (l0.map cvN) (by omega)
    have E := eqI w (by omega)
    have M := markI w (by omega)
    have H := heldI w.length (by omega)
    have c1 : ¬ ((1 + 2 * ((l0.map cvN).length : Int)) < 0) := by omega
    have c2 : ¬ ((1 + (w.length : Int)) < 0) := by omega
    rw [if_neg c, if_neg c]
    generalize l0.map cvN = m at *
    rw [T (k + 5) (by omega)]
    simp only [Option.bind_some]
    rw [S (k + 5) (by omega), Option.bind_some, I (k + 5) (by omega), Option.bind_some]
    dsimp only
    rw [E (k + 5) (by omega), Option.bind_some, if_pos rfl, laws_FnExactContourOf.j0, if_neg (by simp), T (k + 4) (by omega), Option.bind_some, EN (k + 4) (by omega), Option.bind_some, if_pos rfl, MN (k + 4) (by omega), Option.bind_some]
    dsimp only
    rw [if_neg c1, E (k + 4) (by omega), Option.bind_some, if_pos rfl, laws_FnExactContourOf.j1, if_neg (by simp), M (k + 3) (by omega), Option.bind_some]
    dsimp only
    rw [H (k + 3) (by omega), Option.bind_some, if_neg c2, if_pos rfl, T (k + 3) (by omega), Option.bind_some, I (k + 3) (by omega), Option.bind_some]
    dsimp only
    rw [E (k + 3) (by omega), Option.bind_some, if_pos rfl, laws_FnExactContourOf.j2, if_neg (by simp), H (k + 2) (by omega), Option.bind_some, if_neg c2, if_pos rfl]


end Go.Proofs.Ytbhmalpncnkmaaa.Pure
