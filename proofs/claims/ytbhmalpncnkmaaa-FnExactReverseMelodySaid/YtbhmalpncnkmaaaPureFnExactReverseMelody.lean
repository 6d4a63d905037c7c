/- The law FnExactReverseMelody over lists alone. No condition. -/
import Derived.Test.YtbhmalpncnkmaaaMx0
import Derived.Test.YtbhmalpncnkmaaaMx30
import Derived.Test.YtbhmalpncnkmaaaMx31
import Derived.Test.YtbhmalpncnkmaaaMx32
import Derived.Test.YtbhmalpncnkmaaaMx34
import Derived.Test.YtbhmalpncnkmaaaMel
namespace Go.Proofs.Ytbhmalpncnkmaaa.Pure
open Go.RowKit Go.Proofs.Ytbhmalpncnkmaaa.M Go.Proofs.YtbhmalpncnkmaaaW.PrintWords Go.Proofs.YtbhmalpncnkmaaaW.PrintLast
theorem revS_l0 (x : List S72) (hn : x.length ≤ 1048576) (d : Nat) : ∀ (k : Nat) (acc : List S72), d ≤ x.length → acc = (x.drop d).reverse → d < k → spec_ReverseMelody.l0 k x acc ((d : Int) - 1) = some (x.reverse, 0) := by
  induction d with
  | zero =>
    intro k acc hd ha hk
    obtain ⟨k, rfl⟩ := succ_of hk
    rw [spec_ReverseMelody.l0, if_neg (by omega), ha]
    simp
  | succ d ih =>
    intro k acc hd ha hk
    obtain ⟨k, rfl⟩ := succ_of hk
    have hlt : d < x.length := by omega
    have hal : acc.length ≤ 1048576 := by rw [ha]; simp; omega
    rw [spec_ReverseMelody.l0, show (((d + 1 : Nat) : Int) - 1) = (d : Int) by omega, if_pos (by omega), if_pos (by omega), if_pos (by omega), if_pos (by omega), rdN_at hlt, w64 (by omega) (by omega)]
    exact ih k _ (by omega) (by rw [ha, List.drop_eq_getElem_cons hlt, List.reverse_cons]) (by omega)
theorem revI_l0 (n : Nat) (hn : n ≤ 1048576) (d : Nat) : ∀ (k i : Nat) (x : List S72), x.length = n → n - 2 * i ≤ d → d < k → ∃ r : List S72, impl_Note_111.l0 k x (i : Int) ((n : Int) - 1 - i) = some r ∧ r.length = n ∧ ∀ p, p < n → r[p]? = if p < i ∨ n - 1 - i < p then x[p]? else x[n - 1 - p]? := by
  induction d with
  | zero =>
    intro k i x hx hd hk
    obtain ⟨k, rfl⟩ := succ_of hk
    refine ⟨x, by rw [impl_Note_111.l0, if_neg (by omega)], hx, fun p hp => ?_⟩
    split
    · rfl
    · rw [show n - 1 - p = p by omega]
  | succ d ih =>
    intro k i x hx hd hk
    obtain ⟨k, rfl⟩ := succ_of hk
    by_cases c : (i : Int) < (n : Int) - 1 - i
    · have h1 : i < x.length := by omega
      have h2 : n - 1 - i < x.length := by omega
      obtain ⟨r, hr, hl, hp⟩ := ih k (i + 1) ((x.set i x[n - 1 - i]).set (n - 1 - i) x[i]) (by simpa using hx) (by omega) (by omega)
      refine ⟨r, ?_, hl, fun p hpn => ?_⟩
      · rw [impl_Note_111.l0, if_pos c, if_pos (by omega), if_pos (by omega), if_pos (by omega), if_pos (by omega), show ((n : Int) - 1 - (i : Int)) = ((n - 1 - i : Nat) : Int) by omega, rdN_at h1, rdN_at h2, Int.toNat_natCast, Int.toNat_natCast, w64 (n := (i : Int) + 1) (by omega) (by omega), w64 (n := ((n - 1 - i : Nat) : Int) - 1) (by omega) (by omega)]
        rw [show ((i : Int) + 1) = ((i + 1 : Nat) : Int) by omega, show (((n - 1 - i : Nat) : Int) - 1) = (n : Int) - 1 - ((i + 1 : Nat) : Int) by omega]
        exact hr
      · rw [hp p hpn]
        simp only [List.getElem?_set, List.length_set]
        have e1 : x[i]? = some x[i] := List.getElem?_eq_getElem h1
        have e2 : x[n - 1 - i]? = some x[n - 1 - i] := List.getElem?_eq_getElem h2
        by_cases q1 : p = i
        · subst q1
          rw [if_pos (Or.inl (by omega)), if_neg (by omega), if_pos rfl, if_pos h1, if_neg (by omega), e2]
        · by_cases q2 : p = n - 1 - i
          · subst q2
            rw [if_pos (Or.inr (by omega)), if_pos rfl, if_pos (by omega), if_neg (by omega), show n - 1 - (n - 1 - i) = i by omega, e1]
          · by_cases q3 : p < i ∨ n - 1 - i < p
            · rw [if_pos (by omega), if_neg (by omega), if_neg (by omega), if_pos q3]
            · rw [if_neg (by omega), if_neg (by omega), if_neg (by omega), if_neg q3]
    · refine ⟨x, by rw [impl_Note_111.l0, if_neg c], hx, fun p hp => ?_⟩
      split
      · rfl
      · rw [show n - 1 - p = p by omega]
theorem revI (x : List S72) (hn : x.length ≤ 1048576) (k : Nat) (hk : 1048577 ≤ k) : impl_Note_111.f k x = some x.reverse := by
  rw [impl_Note_111.f, w64 (by omega) (by omega)]
  obtain ⟨r, hr, hl, hp⟩ := revI_l0 x.length hn x.length k 0 x rfl (by omega) (by omega)
  rw [show (x.length : Int) - 1 = (x.length : Int) - 1 - ((0 : Nat) : Int) by omega]
  rw [show impl_Note_111.l0 k x 0 ((x.length : Int) - 1 - ((0 : Nat) : Int)) = some r from hr]
  congr 1
  apply List.ext_getElem?
  intro p
  by_cases h : p < x.length
  · rw [hp p h, if_neg (by omega), List.getElem?_reverse h]
  · rw [List.getElem?_eq_none (by omega), List.getElem?_eq_none (by simp; omega)]
theorem reversemelody_both (x : List S72) (hn : x.length ≤ 1048576) : ∃ (w : List S72) (c : Int), w.length ≤ 1100000 ∧ ∀ k, 1100000 ≤ k → spec_ReverseMelody.f k x = some (w, c) ∧ impl_ReverseMelody.f k x = some (w, c) := by
  cases h : okN x with
  | false =>
    refine ⟨[], 1, by simp, fun k hk => ?_⟩
    rw [spec_ReverseMelody.f, impl_ReverseMelody.f, specOk x hn k (by omega), implOk x hn k (by omega), h]
    exact ⟨rfl, rfl⟩
  | true =>
    have hl := okN_len h
    refine ⟨x.reverse, 0, by simp; omega, fun k hk => ?_⟩
    have s := revS_l0 x hn x.length k [] (by omega) (by simp) (by omega)
    rw [spec_ReverseMelody.f, impl_ReverseMelody.f, specOk x hn k (by omega), implOk x hn k (by omega), h]
    simp only [Option.bind_some, if_true, impl_Note_110.f]
    rw [w64 (by omega) (by omega), s, if_pos (by omega), Option.bind_some, revI x hn k (by omega)]
    exact ⟨rfl, rfl⟩
theorem FnExactReverseMelody : laws_FnExactReverseMelody.Pure := by
  intro l0  h0 
  obtain ⟨k, hk⟩ : ∃ k, 1200000 ≤ k := ⟨_, Nat.le_refl _⟩
  refine ⟨k + 5, ?_⟩
  rw [laws_FnExactReverseMelody.f, szN l0 _ h0.1 (by omega) (by omega), Option.bind_some]
  by_cases c : (1048576 : Int) - l0.length < 0
  · simp [c]
  · have hn : l0.length ≤ 1048576 := by omega
    have hn' : (l0.map cvN).length ≤ 1048576 := by simpa using hn
    obtain ⟨w, cd, hw, hb⟩ := reversemelody_both (l0.map cvN) hn'  
    have S := fun j hj => (hb j hj).1
    have I := fun j hj => (hb j hj).2
    have T := toN l0 hn
    have EN := eqN (l0.map cvN) (by omega)
    have MN := markN (l0.map cvN) (by omega)
    have E := eqN w (by omega)
    have M := markN w (by omega)
    have H := heldN w.length (by omega)
    have c1 : ¬ ((1 + 2 * ((l0.map cvN).length : Int)) < 0) := by omega
    have c2 : ¬ ((1 + 2 * (w.length : Int)) < 0) := by omega
    rw [if_neg c, if_neg c]
    generalize l0.map cvN = m at *
    rw [T (k + 5) (by omega)]
    simp only [Option.bind_some]
    rw [S (k + 5) (by omega), Option.bind_some, I (k + 5) (by omega), Option.bind_some]
    dsimp only
    rw [E (k + 5) (by omega), Option.bind_some, if_pos rfl, laws_FnExactReverseMelody.j0, if_neg (by simp), T (k + 4) (by omega), Option.bind_some, EN (k + 4) (by omega), Option.bind_some, if_pos rfl, MN (k + 4) (by omega), Option.bind_some]
    dsimp only
    rw [if_neg c1, E (k + 4) (by omega), Option.bind_some, if_pos rfl, laws_FnExactReverseMelody.j1, if_neg (by simp), M (k + 3) (by omega), Option.bind_some]
    dsimp only
    rw [H (k + 3) (by omega), Option.bind_some, if_neg c2, if_pos rfl, T (k + 3) (by omega), Option.bind_some, I (k + 3) (by omega), Option.bind_some]
    dsimp only
    rw [E (k + 3) (by omega), Option.bind_some, if_pos rfl, laws_FnExactReverseMelody.j2, if_neg (by simp), H (k + 2) (by omega), Option.bind_some, if_neg c2, if_pos rfl]


end Go.Proofs.Ytbhmalpncnkmaaa.Pure
