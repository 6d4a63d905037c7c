/- Plain facts on the fitting of an item to a minute and a season, in the reference and in the program. No condition. -/
import Derived.Test.YtnnblnbepnfbhaaM3x0
import Derived.Test.YtnnblnbepnfbhaaM3x15
import Derived.Test.YtnnblnbepnfbhaaM3x17
import Derived.Test.YtnnblnbepnfbhaaItem
namespace Go.Proofs.Ytnnblnbepnfbhaa.Pure
open Go.RowKit Go.Proofs.Ytnnblnbepnfbhaa.M3 Go.Proofs.YtnnblnbepnfbhaaW.PrintWords Go.Proofs.YtnnblnbepnfbhaaW.PrintLast
def fitsT (a b m : Int) : Bool := if a < b then decide (a ≤ m ∧ m < b) else decide (m ≥ a ∨ m < b)
def fitsB (a b c m z : Int) : Bool := if c ≠ -1 ∧ c ≠ z then false else fitsT a b m
theorem tail_ (x y : Bool) (a b m : Int) (h : y = fitsT a b m) : (if x = true then some false else if a < b then (if m ≥ a then some (decide (m < b)) else some false) else (if m ≥ a then some true else some (decide (m < b)))) = some (if x = true then false else y) := by
  subst h
  unfold fitsT
  cases x <;> by_cases h1 : a < b <;> by_cases h2 : m ≥ a <;> by_cases h3 : m < b <;> simp [h1, h2, h3] <;> omega
theorem specFits (s : ByteArray) (a b c d e m z : Int) (hc : -1 ≤ c) (hm : 0 ≤ m ∧ m ≤ 1439) (k : Nat) (hk : 1 ≤ k) : spec_l08Fits.f k s a b c d e m z = some (fitsB a b c m z) := by
  obtain ⟨k, rfl⟩ := succ_of (show 0 < k by omega)
  have hj : ∀ m x, spec_l08Fits.j0 (k + 1) m x s a b c d e = (if x = true then some false else if a < b then (if m ≥ a then some (decide (m < b)) else some false) else (if m ≥ a then some true else some (decide (m < b)))) := fun _ _ => rfl
  have ht : Int.tmod m 1440 = m := Int.tmod_eq_of_lt hm.1 (by omega)
  rw [spec_l08Fits.f, ht, hj, hj, tail_ _ _ a b m rfl, tail_ _ _ a b m rfl]
  unfold fitsB
  by_cases h1 : c ≥ 0
  · rw [if_pos h1]
    by_cases h2 : c = z <;> simp [h2, show c ≠ -1 by omega]
  · rw [if_neg h1]
    simp [show c = -1 by omega]
theorem implFits (s : ByteArray) (a b c d e m z : Int) (k : Nat) (hk : 1 ≤ k) : impl_Item_fits.f k s a b c d e m z = some (fitsB a b c m z) := by
  obtain ⟨k, rfl⟩ := succ_of (show 0 < k by omega)
  have hj : ∀ m x, impl_Item_fits.j0 (k + 1) m x s a b c d e = (if x = true then some false else if a < b then (if m ≥ a then some (decide (m < b)) else some false) else (if m ≥ a then some true else some (decide (m < b)))) := fun _ _ => rfl
  rw [impl_Item_fits.f, hj, hj, tail_ _ _ a b m rfl, tail_ _ _ a b m rfl]
  unfold fitsB
  by_cases h1 : c = -1
  · rw [if_pos h1]
    simp [h1]
  · rw [if_neg h1]
    by_cases h2 : c = z <;> simp [h1, h2]
theorem itB_c {s : ByteArray} {a b c d e : Int} (h : itB s a b c d e = true) : -1 ≤ c ∧ c ≤ 5 := by
  simp only [itB, Bool.and_eq_true, inB_true] at h
  exact h.1.1.2
theorem itB_a {s : ByteArray} {a b c d e : Int} (h : itB s a b c d e = true) : 0 ≤ a ∧ a ≤ 1439 := by
  simp only [itB, Bool.and_eq_true, inB_true] at h
  exact h.1.1.1.1.1.2

end Go.Proofs.Ytnnblnbepnfbhaa.Pure
