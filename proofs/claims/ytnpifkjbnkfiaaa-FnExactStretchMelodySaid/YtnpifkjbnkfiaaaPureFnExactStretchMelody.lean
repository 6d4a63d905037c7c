/- The law FnExactStretchMelody over lists alone. No condition. -/
import Derived.Test.YtnpifkjbnkfiaaaMx0
import Derived.Test.YtnpifkjbnkfiaaaMx15
import Derived.Test.YtnpifkjbnkfiaaaMx16
import Derived.Test.YtnpifkjbnkfiaaaMx17
import Derived.Test.YtnpifkjbnkfiaaaDone
namespace Go.Proofs.Ytnpifkjbnkfiaaa.Pure
open Go.RowKit Go.Proofs.Ytnpifkjbnkfiaaa.M Go.Proofs.YtnpifkjbnkfiaaaW.PrintWords Go.Proofs.YtnpifkjbnkfiaaaW.PrintLast
theorem lenT {a : Int} (h : inB a 1 64 = true) : 1 ≤ a ∧ a ≤ 64 := inB_true.1 h
theorem strS_l0 (m : List S52) (n q : Int) (hq : ¬ q = 0) (hn : m.length ≤ 1048576) (d : Nat) : ∀ (k i : Nat), i + d = m.length → d + 1048577 < k → spec_StretchMelody.l0 k n q (part (strG n q) m i) (i : Int) = some (if (m.drop i).all (strZ n q) = true then doneN (m.map (strG n q)) else ([], 6)) := by
  induction d with
  | zero =>
    intro k i hi hk
    obtain ⟨k, rfl⟩ := succ_of hk
    have hl := part_len (strG n q) m i (by omega)
    obtain rfl : i = m.length := by omega
    rw [spec_StretchMelody.l0, if_neg (by omega), part_all, specDone _ (by simpa using hn) k (by omega), Option.bind_some, List.drop_eq_nil_of_le (Nat.le_refl _), if_pos (by rfl)]
  | succ d ih =>
    intro k i hi hk
    obtain ⟨k, rfl⟩ := succ_of hk
    have hlt : i < m.length := by omega
    have hl := part_len (strG n q) m i (by omega)
    rw [spec_StretchMelody.l0, if_pos (by omega), if_pos (by omega), if_neg hq, rdN_at (by omega), part_at (strG n q) m i hlt, w64 (n := (i : Int) + 1) (by omega) (by omega), Int.toNat_natCast, show ((i : Int) + 1) = ((i + 1 : Nat) : Int) by omega, List.drop_eq_getElem_cons hlt, List.all_cons]
    have := part_set (strG n q) m i hlt
    rw [strG] at this
    rw [this, ih k (i + 1) (by omega) (by omega)]
    by_cases c : Int.tmod (wrap64 (m[i].f1 * n)) q = 0
    · rw [if_pos c, show strZ n q m[i] = true from by simp [strZ, c], Bool.true_and]
    · rw [if_neg c, show strZ n q m[i] = false from by simp [strZ, c], Bool.false_and, if_neg (by simp)]
theorem stretchmelody_both (m : List S52) (hn : m.length ≤ 1048576) (x y : Int) : ∃ (w : List S52) (c : Int), w.length ≤ 1100000 ∧ ∀ k, 2200000 ≤ k → spec_StretchMelody.f k m x y = some (w, c) ∧ impl_StretchMelody.f k m x y = some (w, c) := by
  cases h : okN m with
  | false =>
    refine ⟨[], 1, by simp, fun k hk => ?_⟩
    rw [spec_StretchMelody.f, impl_StretchMelody.f, specOk m hn k (by omega), implOk m hn k (by omega), h]
    exact ⟨rfl, rfl⟩
  | true =>
    by_cases h2 : inB x 1 64 = true ∧ inB y 1 64 = true
    · have hy : ¬ y = 0 := by have := lenT h2.2; omega
      have hd := doneN_len (m.map (strG x y))
      by_cases hz : m.all (strZ x y) = true
      · refine ⟨(doneN (m.map (strG x y))).1, (doneN (m.map (strG x y))).2, by omega, fun k hk => ?_⟩
        obtain ⟨k, rfl⟩ : ∃ j, k = j + 1 := ⟨k - 1, by omega⟩
        rw [spec_StretchMelody.f, impl_StretchMelody.f, specOk m hn _ (by omega), implOk m hn _ (by omega), h]
        simp only [Option.bind_some, if_true, specLen, implLen, h2.1, h2.2, hz]
        rw [if_pos (by omega), implDone, spec_StretchMelody.j0, if_neg (by simp), specOwn m hn, Option.bind_some]
        have := strS_l0 m x y hy hn m.length k 0 (by omega) (by omega)
        rw [part_zero, List.drop_zero, if_pos hz] at this
        exact ⟨this, rfl⟩
      · refine ⟨[], 6, by simp, fun k hk => ?_⟩
        obtain ⟨k, rfl⟩ : ∃ j, k = j + 1 := ⟨k - 1, by omega⟩
        rw [spec_StretchMelody.f, impl_StretchMelody.f, specOk m hn _ (by omega), implOk m hn _ (by omega), h]
        simp only [Option.bind_some, if_true, specLen, implLen, h2.1, h2.2]
        rw [if_neg hz, spec_StretchMelody.j0, if_neg (by simp), specOwn m hn, Option.bind_some]
        have := strS_l0 m x y hy hn m.length k 0 (by omega) (by omega)
        rw [part_zero, List.drop_zero, if_neg hz] at this
        exact ⟨this, rfl⟩
    · refine ⟨[], 2, by simp, fun k hk => ?_⟩
      obtain ⟨k, rfl⟩ : ∃ j, k = j + 1 := ⟨k - 1, by omega⟩
      rw [spec_StretchMelody.f, impl_StretchMelody.f, specOk m hn _ (by omega), implOk m hn _ (by omega), h]
      simp only [Option.bind_some, if_true, specLen, implLen, spec_StretchMelody.j0]
      revert h2
      cases inB x 1 64 <;> cases inB y 1 64 <;> simp
theorem FnExactStretchMelody : laws_FnExactStretchMelody.Pure := by
  intro l0 a1 a2 h0 h1 h2
  obtain ⟨k, hk⟩ : ∃ k, 2300000 ≤ k := ⟨_, Nat.le_refl _⟩
  refine ⟨k + 5, ?_⟩
  rw [laws_FnExactStretchMelody.f, szN l0 _ h0.1 (by omega) (by omega), Option.bind_some]
  by_cases c : (1048576 : Int) - l0.length < 0
  · simp [c]
  · have hn : l0.length ≤ 1048576 := by omega
    have hn' : (l0.map cvN).length ≤ 1048576 := by simpa using hn
    obtain ⟨w, cd, hw, hb⟩ := stretchmelody_both (l0.map cvN) hn' a1 a2 
    have S := fun j hj => (hb j hj).1
    have I := fun j hj => (hb j hj).2
    have T := toN l0 hn
    have EN := eqN (l0.map cvN) (by omega)
    have MN := markN (l0.map cvN) (by omega)
    have E := eqN w (by omega)
    have M := markN w (by omega)
    have H := heldN w.length (by omega)
    have c1 : ¬ ((1 + 2 * ((l0.map cvN).length : Int)) < 0) := by omega
    have c2 : ¬ ((1 + 2 * (w.length : Int)) < 0) := by omega
    rw [if_neg c, if_neg c]
    generalize l0.map cvN = m at *
    rw [T (k + 5) (by omega)]
    simp only [Option.bind_some]
    rw [S (k + 5) (by omega), Option.bind_some, I (k + 5) (by omega), Option.bind_some]
    dsimp only
    rw [E (k + 5) (by omega), Option.bind_some, if_pos rfl, laws_FnExactStretchMelody.j0, if_neg (by simp), T (k + 4) (by omega), Option.bind_some, EN (k + 4) (by omega), Option.bind_some, if_pos rfl, MN (k + 4) (by omega), Option.bind_some]
    dsimp only
    rw [if_neg c1, E (k + 4) (by omega), Option.bind_some, if_pos rfl, laws_FnExactStretchMelody.j1, if_neg (by simp), M (k + 3) (by omega), Option.bind_some]
    dsimp only
    rw [H (k + 3) (by omega), Option.bind_some, if_neg c2, if_pos rfl, T (k + 3) (by omega), Option.bind_some, I (k + 3) (by omega), Option.bind_some]
    dsimp only
    rw [E (k + 3) (by omega), Option.bind_some, if_pos rfl, laws_FnExactStretchMelody.j2, if_neg (by simp), H (k + 2) (by omega), Option.bind_some, if_neg c2, if_pos rfl]


end Go.Proofs.Ytnpifkjbnkfiaaa.Pure
