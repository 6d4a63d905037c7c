/- Plain facts on rows of items, and on orders of their numbers, in the reference and in the program. No condition. -/
import Derived.Test.YtnnblnbepnfbhaaM3x0
import Derived.Test.YtnnblnbepnfbhaaM3x1
import Derived.Test.YtnnblnbepnfbhaaM3x2
import Derived.Test.YtnnblnbepnfbhaaM3x3
import Derived.Test.YtnnblnbepnfbhaaM3x6
import Derived.Test.YtnnblnbepnfbhaaM3x11
import Derived.Test.YtnnblnbepnfbhaaFits
namespace Go.Proofs.Ytnnblnbepnfbhaa.Pure
open Go.RowKit Go.Proofs.Ytnnblnbepnfbhaa.M3 Go.Proofs.YtnnblnbepnfbhaaW.PrintWords Go.Proofs.YtnnblnbepnfbhaaW.PrintLast
theorem rdM_at {x : List S23} {j : Nat} (h : j < x.length) : rd_T23 x (j : Int) = x[j] := by
  simp [rd_T23, List.getD_eq_getElem?_getD, List.getElem?_eq_getElem h]
def cvM (x : S23) : S26 := ⟨x.f0, x.f1, x.f2, x.f3, x.f4, x.f5⟩
theorem szM_l0 (l : List S23) (hn : l.length ≤ 1048576) (d : Nat) : ∀ (k i : Nat) (a : Int), i + d = l.length → d < k → ∃ t, laws_szItemS.l0 k l a (i : Int) = some t := by
  induction d with
  | zero =>
    intro k i a hi hk
    obtain ⟨k, rfl⟩ := succ_of hk
    exact ⟨a, by rw [laws_szItemS.l0, if_neg (by omega)]⟩
  | succ d ih =>
    intro k i a hi hk
    obtain ⟨k, rfl⟩ := succ_of hk
    rw [laws_szItemS.l0, if_pos (by omega), if_pos (by omega), w64 (n := (i : Int) + 1) (by omega) (by omega), laws_szItem.f]
    rw [show ((i : Int) + 1) = ((i + 1 : Nat) : Int) by omega]
    by_cases h : wrap64 (a - (((rd_T23 l (i : Int)).f0).size : Int)) < 0
    · rw [if_pos h]
      exact ⟨-1, rfl⟩
    · rw [if_neg h, Option.bind_some, if_neg h]
      exact ih k (i + 1) _ (by omega) (by omega)
theorem szM (l : List S23) (h : l.length ≤ maxLen) (k : Nat) (hk : 1048577 ≤ k) : ∃ t, laws_szItemS.f k l 1048576 = some t ∧ (¬ t < 0 → l.length ≤ 1048576) := by
  unfold maxLen at h
  rw [laws_szItemS.f, w64 (by omega) (by omega)]
  by_cases c : (1048576 : Int) - l.length < 0
  · rw [if_pos c]
    exact ⟨-1, rfl, fun h => absurd (by decide) h⟩
  · rw [if_neg c]
    obtain ⟨t, ht⟩ := szM_l0 l (by omega) l.length k 0 (1048576 - l.length) (by omega) (by omega)
    exact ⟨t, ht, fun _ => by omega⟩
theorem toM_l0 (l : List S23) (hn : l.length ≤ 1048576) (d : Nat) : ∀ (y : List S26) (k i : Nat), y.length = l.length → i + d = l.length → d < k → y.take i = (l.take i).map cvM →
    laws_toItemS.l0 k l y (i : Int) = some (l.map cvM) := by
  induction d with
  | zero =>
    intro y k i hy hi hk ht
    obtain ⟨k, rfl⟩ := succ_of hk
    rw [laws_toItemS.l0, if_neg (by omega)]
    rw [List.take_of_length_le (by omega), List.take_of_length_le (by omega)] at ht
    rw [ht]
  | succ d ih =>
    intro y k i hy hi hk ht
    obtain ⟨k, rfl⟩ := succ_of hk
    rw [laws_toItemS.l0, if_pos (by omega), if_pos (by omega)]
    simp only [laws_toItem.f, Option.bind_some]
    rw [if_pos (by omega), w64 (by omega) (by omega)]
    have := ih (y.set i (cvM l[i])) k (i + 1) (by simpa using hy) (by omega) (by omega) (by
      rw [take_set_snoc _ _ _ (by omega), ht, List.take_succ_eq_append_getElem (by omega), List.map_append]
      rfl)
    rw [rdM_at (by omega), Int.toNat_natCast]
    exact this
theorem toM (l : List S23) (hn : l.length ≤ 1048576) (k : Nat) (hk : 1048577 ≤ k) : laws_toItemS.f k l = some (l.map cvM) := by
  rw [laws_toItemS.f, if_pos (by omega), if_pos (by omega)]
  exact toM_l0 l hn l.length _ k 0 (by simp) (by omega) (by omega) (by simp)
theorem eqM_l0 (d : Nat) : ∀ (x : List S26) (k i : Nat), x.length ≤ 4611686018427387904 → i + d = x.length → d < k → laws_eqItemS.l0 k x x (i : Int) = some true := by
  induction d with
  | zero =>
    intro x k i hn hi hk
    obtain ⟨k, rfl⟩ := succ_of hk
    rw [laws_eqItemS.l0, if_neg (by omega)]
  | succ d ih =>
    intro x k i hn hi hk
    obtain ⟨k, rfl⟩ := succ_of hk
    rw [laws_eqItemS.l0, if_pos (by omega), if_pos (by omega), if_pos (by omega)]
    simp only [laws_eqItem.f, if_true, Option.bind_some]
    rw [w64 (by omega) (by omega)]
    exact ih x k (i + 1) hn (by omega) (by omega)
theorem eqM (x : List S26) (hn : x.length ≤ 4611686018427387904) (k : Nat) (hk : x.length < k) : laws_eqItemS.f k x x = some true := by
  rw [laws_eqItemS.f, if_pos rfl]
  exact eqM_l0 x.length x k 0 hn (by omega) hk
def itR (x : S26) : Bool := itB x.f0 x.f1 x.f2 x.f3 x.f4 x.f5
def chkM (x : List S26) : Nat → Nat → Bool
  | 0, _ => true
  | d + 1, i => itR (rd_T26 x (i : Int)) && (if i = 0 then true else Op.bytesLess ((rd_T26 x ((i - 1 : Nat) : Int)).f0.toList) ((rd_T26 x (i : Int)).f0.toList)) && chkM x d (i + 1)
def okM (x : List S26) : Bool := chkM x x.length 0 && decide (x.length ≤ 12)
theorem specOkM_l0 (x : List S26) (hn : x.length ≤ 1048576) (d : Nat) : ∀ (k i : Nat), i + d = x.length → d + 13 ≤ k → spec_l08Ok.l0 k x (i : Int) = some (chkM x d i && decide (x.length ≤ 12)) := by
  induction d with
  | zero =>
    intro k i hi hk
    obtain ⟨k, rfl⟩ := succ_of (show 0 < k by omega)
    rw [spec_l08Ok.l0, if_neg (by omega), chkM, Bool.true_and]
    congr 1
    rw [decide_eq_decide]
    omega
  | succ d ih =>
    intro k i hi hk
    obtain ⟨k, rfl⟩ := succ_of (show 0 < k by omega)
    have := ih k (i + 1) (by omega) (by omega)
    rw [spec_l08Ok.l0, if_pos (by omega), if_pos (by omega), specOne _ _ _ _ _ _ k (by omega), Option.bind_some, chkM, w64 (n := (i : Int) + 1) (by omega) (by omega), w64 (n := (i : Int) - 1) (by omega) (by omega)]
    rw [show ((i : Int) + 1) = ((i + 1 : Nat) : Int) by omega, this]
    change (if itR (rd_T26 x (i : Int)) = true then _ else _) = _
    cases itR (rd_T26 x (i : Int)) with
    | false => simp
    | true =>
      rw [if_pos rfl, Bool.true_and]
      by_cases h0 : i = 0
      · rw [if_neg (by omega), if_pos h0, Bool.true_and]
      · rw [if_pos (by omega), if_neg h0, if_pos (by omega), if_pos (by omega), show (i : Int) - 1 = ((i - 1 : Nat) : Int) by omega]
        cases Op.bytesLess ((rd_T26 x ((i - 1 : Nat) : Int)).f0.toList) ((rd_T26 x (i : Int)).f0.toList) <;> simp
theorem implOkM_l0 (x : List S26) (hn : x.length ≤ 1048576) (d : Nat) : ∀ (k i : Nat), i + d = x.length → d + 13 ≤ k → impl_ValidItems.l0 k x x (x.length : Int) (i : Int) = some (chkM x d i) := by
  induction d with
  | zero =>
    intro k i hi hk
    obtain ⟨k, rfl⟩ := succ_of (show 0 < k by omega)
    rw [impl_ValidItems.l0, if_neg (by omega), chkM]
  | succ d ih =>
    intro k i hi hk
    obtain ⟨k, rfl⟩ := succ_of (show 0 < k by omega)
    have := ih k (i + 1) (by omega) (by omega)
    rw [impl_ValidItems.l0, if_pos (by omega), if_pos (by omega), if_pos (by omega), implOne _ _ _ _ _ _ k (by omega), Option.bind_some, chkM, w64 (n := (i : Int) + 1) (by omega) (by omega), w64 (n := (i : Int) - 1) (by omega) (by omega)]
    rw [show ((i : Int) + 1) = ((i + 1 : Nat) : Int) by omega, this]
    change (if itR (rd_T26 x (i : Int)) = true then _ else _) = _
    cases itR (rd_T26 x (i : Int)) with
    | false => simp
    | true =>
      rw [if_pos rfl, Bool.true_and]
      by_cases h0 : i = 0
      · rw [if_neg (by omega), if_pos h0, Bool.true_and]
      · rw [if_pos (by omega), if_neg h0, if_pos (by omega), if_pos (by omega), show (i : Int) - 1 = ((i - 1 : Nat) : Int) by omega]
        cases Op.bytesLess ((rd_T26 x ((i - 1 : Nat) : Int)).f0.toList) ((rd_T26 x (i : Int)).f0.toList) <;> simp
theorem specOkM (x : List S26) (hn : x.length ≤ 1048576) (k : Nat) (hk : 1048600 ≤ k) : spec_l08Ok.f k x = some (okM x) := by
  rw [spec_l08Ok.f]
  exact specOkM_l0 x hn x.length k 0 (by omega) (by omega)
theorem implOkM (x : List S26) (hn : x.length ≤ 1048576) (k : Nat) (hk : 1048600 ≤ k) : impl_ValidItems.f k x = some (okM x) := by
  rw [impl_ValidItems.f, okM]
  by_cases h : (x.length : Int) > 12
  · rw [if_pos h]
    simp [show ¬ x.length ≤ 12 by omega]
  · rw [if_neg h]
    have := implOkM_l0 x hn x.length k 0 (by omega) (by omega)
    rw [show ((0 : Nat) : Int) = 0 from rfl] at this
    rw [this]
    simp [show x.length ≤ 12 by omega]
theorem chkM_at (x : List S26) (d : Nat) : ∀ (i j : Nat), chkM x d i = true → i ≤ j → j < i + d → itR (rd_T26 x (j : Int)) = true := by
  induction d with
  | zero => intro i j _ h1 h2; omega
  | succ d ih =>
    intro i j h h1 h2
    rw [chkM, Bool.and_eq_true, Bool.and_eq_true] at h
    by_cases e : j = i
    · subst e; exact h.1.1
    · exact ih (i + 1) j h.2 (by omega) (by omega)
theorem okM_at {x : List S26} (h : okM x = true) {j : Int} (h0 : 0 ≤ j) (h1 : j < x.length) : itR (rd_T26 x j) = true := by
  rw [okM, Bool.and_eq_true] at h
  have := chkM_at x x.length 0 j.toNat h.1 (by omega) (by omega)
  rwa [Int.toNat_of_nonneg h0] at this

end Go.Proofs.Ytnnblnbepnfbhaa.Pure
