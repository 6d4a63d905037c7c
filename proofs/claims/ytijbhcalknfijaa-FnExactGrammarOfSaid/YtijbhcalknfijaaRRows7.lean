/- Copy, comparison and measure of rows of rows and of ragas, as the laws make them. No condition. -/
import Derived.Test.YtijbhcalknfijaaM7x0
import Derived.Test.YtijbhcalknfijaaM7x1
import Derived.Test.YtijbhcalknfijaaM7x7
import Derived.Test.YtijbhcalknfijaaTo7
namespace Go.Proofs.Ytijbhcalknfijaa.Pure
open Go.RowKit Go.Proofs.Ytijbhcalknfijaa.M7 Go.Proofs.YtijbhcalknfijaaW.PrintWords Go.Proofs.YtijbhcalknfijaaW.PrintLast
theorem rdR_at {x : List (List Int)} {j : Nat} (h : j < x.length) : rd_L2 x (j : Int) = x[j] := by
  simp [rd_L2, List.getD_eq_getElem?_getD, List.getElem?_eq_getElem h]
theorem szR_l0 (l : List (List Int)) (hn : l.length ≤ 1048576) (hv : ∀ x ∈ l, x.length ≤ maxLen) (d : Nat) : ∀ (k i : Nat) (a : Int), i + d = l.length → d < k → 0 ≤ a → a ≤ 1048576 → ∃ t, laws_szInt64SS.l0 k l a (i : Int) = some t ∧ (¬ t < 0 → ∀ j, i ≤ j → (h : j < l.length) → l[j].length ≤ 1048576) := by
  induction d with
  | zero =>
    intro k i a hi hk _ _
    obtain ⟨k, rfl⟩ := succ_of hk
    exact ⟨a, by rw [laws_szInt64SS.l0, if_neg (by omega)], fun _ j h1 h2 => by omega⟩
  | succ d ih =>
    intro k i a hi hk h0 h1
    obtain ⟨k, rfl⟩ := succ_of hk
    have hlt : i < l.length := by omega
    have hm := hv l[i] (List.getElem_mem hlt)
    unfold maxLen at hm
    rw [laws_szInt64SS.l0, if_pos (by omega), if_pos (by omega), w64 (n := (i : Int) + 1) (by omega) (by omega), laws_szInt64S.f, rdR_at hlt, w64 (n := a - (l[i].length : Int)) (by omega) (by omega)]
    rw [show ((i : Int) + 1) = ((i + 1 : Nat) : Int) by omega]
    by_cases h : a - (l[i].length : Int) < 0
    · rw [if_pos h]
      exact ⟨-1, rfl, fun h => absurd (by decide) h⟩
    · rw [if_neg h, Option.bind_some, if_neg h]
      obtain ⟨t, ht, hg⟩ := ih k (i + 1) (a - (l[i].length : Int)) (by omega) (by omega) (by omega) (by omega)
      refine ⟨t, ht, fun hn j h1 h2 => ?_⟩
      by_cases e : j = i
      · subst e; omega
      · exact hg hn j (by omega) h2
theorem szR (l : List (List Int)) (h : l.length ≤ maxLen) (hv : ∀ x ∈ l, x.length ≤ maxLen) (a : Int) (ha : 0 ≤ a) (ha2 : a ≤ 1048576) (k : Nat) (hk : 1048577 ≤ k) : ∃ t, laws_szInt64SS.f k l a = some t ∧ (¬ t < 0 → l.length ≤ 1048576 ∧ ∀ x ∈ l, x.length ≤ 1048576) := by
  unfold maxLen at h
  rw [laws_szInt64SS.f, w64 (by omega) (by omega)]
  by_cases c : a - (l.length : Int) < 0
  · rw [if_pos c]
    exact ⟨-1, rfl, fun h => absurd (by decide) h⟩
  · rw [if_neg c]
    obtain ⟨t, ht, hg⟩ := szR_l0 l (by omega) hv l.length k 0 (a - (l.length : Int)) (by omega) (by omega) (by omega) (by omega)
    refine ⟨t, ht, fun hn => ⟨by omega, fun x hx => ?_⟩⟩
    obtain ⟨j, hj, rfl⟩ := List.getElem_of_mem hx
    exact hg hn j (by omega) hj
theorem toR_l0 (l : List (List Int)) (hn : l.length ≤ 1048576) (hv : ∀ x ∈ l, x.length ≤ 1048576) (d : Nat) : ∀ (y : List (List Int)) (k i : Nat), y.length = l.length → i + d = l.length → d + 1048577 ≤ k → y.take i = l.take i →
    laws_toInt64SS.l0 k l y (i : Int) = some l := by
  induction d with
  | zero =>
    intro y k i hy hi hk ht
    obtain ⟨k, rfl⟩ := succ_of (show 0 < k by omega)
    rw [laws_toInt64SS.l0, if_neg (by omega)]
    rw [List.take_of_length_le (by omega), List.take_of_length_le (by omega)] at ht
    rw [ht]
  | succ d ih =>
    intro y k i hy hi hk ht
    obtain ⟨k, rfl⟩ := succ_of (show 0 < k by omega)
    have hlt : i < l.length := by omega
    rw [laws_toInt64SS.l0, if_pos (by omega), if_pos (by omega), rdR_at hlt, toI l[i] (hv _ (List.getElem_mem hlt)) k (by omega), Option.bind_some, if_pos (by omega), w64 (by omega) (by omega), Int.toNat_natCast]
    exact ih (y.set i l[i]) k (i + 1) (by simpa using hy) (by omega) (by omega) (by
      rw [take_set_snoc _ _ _ (by omega), ht, List.take_succ_eq_append_getElem (by omega)])
theorem toR (l : List (List Int)) (hn : l.length ≤ 1048576) (hv : ∀ x ∈ l, x.length ≤ 1048576) (k : Nat) (hk : 2100000 ≤ k) : laws_toInt64SS.f k l = some l := by
  rw [laws_toInt64SS.f, if_pos (by omega), if_pos (by omega)]
  exact toR_l0 l hn hv l.length _ k 0 (by simp) (by omega) (by omega) (by simp)
theorem eqR (l : List (List Int)) (hn : l.length ≤ 1048576) (hv : ∀ x ∈ l, x.length ≤ 1048576) (k : Nat) (hk : 2100000 ≤ k) : laws_eqInt64SS.f k l l = some true := by
  have h : ∀ (d k i : Nat), i + d = l.length → d + 1048578 ≤ k → laws_eqInt64SS.l0 k l l (i : Int) = some true := by
    intro d
    induction d with
    | zero =>
      intro k i hi hk
      obtain ⟨k, rfl⟩ := succ_of (show 0 < k by omega)
      rw [laws_eqInt64SS.l0, if_neg (by omega)]
    | succ d ih =>
      intro k i hi hk
      obtain ⟨k, rfl⟩ := succ_of (show 0 < k by omega)
      have hlt : i < l.length := by omega
      have hm := hv l[i] (List.getElem_mem hlt)
      rw [laws_eqInt64SS.l0, if_pos (by omega), if_pos (by omega), if_pos (by omega), rdR_at hlt, eqI l[i] (by omega) k (by omega), Option.bind_some, if_pos rfl, w64 (by omega) (by omega)]
      exact ih k (i + 1) (by omega) (by omega)
  rw [laws_eqInt64SS.f, if_pos rfl]
  exact h l.length k 0 (by omega) (by omega)
theorem szI (l : List Int) (h : l.length ≤ maxLen) (a : Int) (ha : 0 ≤ a) (ha2 : a ≤ 1048576) : laws_szInt64S.f l a = some (if a - (l.length : Int) < 0 then -1 else a - (l.length : Int)) := by
  unfold maxLen at h
  rw [laws_szInt64S.f, w64 (by omega) (by omega)]
  by_cases c : a - (l.length : Int) < 0
  · rw [if_pos c, if_pos c]
  · rw [if_neg c, if_neg c]
theorem szRg (nm : ByteArray) (u d : List Int) (st wk : Int) (fb : List (List Int)) (h0 : nm.size ≤ maxLen) (h1 : u.length ≤ maxLen) (h2 : d.length ≤ maxLen) (h3 : fb.length ≤ maxLen) (hv : ∀ x ∈ fb, x.length ≤ maxLen) (k : Nat) (hk : 1048577 ≤ k) : ∃ t, laws_szRaga.f k nm u d st wk fb 1048576 = some t ∧ (¬ t < 0 → u.length ≤ 1048576 ∧ d.length ≤ 1048576 ∧ fb.length ≤ 1048576 ∧ ∀ x ∈ fb, x.length ≤ 1048576) := by
  unfold maxLen at h0
  have no : (-1 : Int) < 0 := by decide
  rw [laws_szRaga.f, w64 (by omega) (by omega)]
  by_cases c0 : (1048576 : Int) - (nm.size : Int) < 0
  · rw [if_pos c0]
    exact ⟨-1, rfl, fun h => absurd no h⟩
  · rw [if_neg c0, szI u h1 _ (by omega) (by omega), Option.bind_some]
    by_cases c1 : (1048576 : Int) - (nm.size : Int) - (u.length : Int) < 0
    · rw [if_pos c1, if_pos no]
      exact ⟨-1, rfl, fun h => absurd no h⟩
    · rw [if_neg c1, if_neg c1, szI d h2 _ (by omega) (by omega), Option.bind_some]
      by_cases c2 : (1048576 : Int) - (nm.size : Int) - (u.length : Int) - (d.length : Int) < 0
      · rw [if_pos c2, if_pos no]
        exact ⟨-1, rfl, fun h => absurd no h⟩
      · rw [if_neg c2, if_neg c2]
        obtain ⟨t, ht, hg⟩ := szR fb h3 hv ((1048576 : Int) - (nm.size : Int) - (u.length : Int) - (d.length : Int)) (by omega) (by omega) k hk
        rw [ht, Option.bind_some]
        by_cases c3 : t < 0
        · rw [if_pos c3]
          exact ⟨-1, rfl, fun h => absurd no h⟩
        · rw [if_neg c3]
          have := hg c3
          exact ⟨t, rfl, fun _ => ⟨by omega, by omega, this.1, this.2⟩⟩
theorem toRg (nm : ByteArray) (u d : List Int) (st wk : Int) (fb : List (List Int)) (h1 : u.length ≤ 1048576) (h2 : d.length ≤ 1048576) (h3 : fb.length ≤ 1048576) (hv : ∀ x ∈ fb, x.length ≤ 1048576) (k : Nat) (hk : 2100000 ≤ k) : laws_toRaga.f k nm u d st wk fb = some (nm, u, d, st, wk, fb) := by
  rw [laws_toRaga.f, toI u h1 k (by omega), toI d h2 k (by omega), toR fb h3 hv k hk]
  rfl
theorem eqRg (nm : ByteArray) (u d : List Int) (st wk : Int) (fb : List (List Int)) (h1 : u.length ≤ 1048576) (h2 : d.length ≤ 1048576) (h3 : fb.length ≤ 1048576) (hv : ∀ x ∈ fb, x.length ≤ 1048576) (k : Nat) (hk : 2100000 ≤ k) : laws_eqRaga.f k nm u d st wk fb nm u d st wk fb = some true := by
  rw [laws_eqRaga.f, if_pos rfl, eqI u (by omega) k (by omega), eqI d (by omega) k (by omega), eqR fb h3 hv k hk]
  simp

end Go.Proofs.Ytijbhcalknfijaa.Pure
