/- Worth and end of an order of items, in the reference and in the program. No condition. -/
import Derived.Test.YtnnblnbepnfbhaaM3x0
import Derived.Test.YtnnblnbepnfbhaaM3x9
import Derived.Test.YtnnblnbepnfbhaaM3x13
import Derived.Test.YtnnblnbepnfbhaaM3x15
import Derived.Test.YtnnblnbepnfbhaaM3x16
import Derived.Test.YtnnblnbepnfbhaaM3x17
import Derived.Test.YtnnblnbepnfbhaaItems
namespace Go.Proofs.Ytnnblnbepnfbhaa.Pure
open Go.RowKit Go.Proofs.Ytnnblnbepnfbhaa.M3 Go.Proofs.YtnnblnbepnfbhaaW.PrintWords Go.Proofs.YtnnblnbepnfbhaaW.PrintLast
theorem fitsT_ (s : ByteArray) (a b c d e t z : Int) (hc : -1 ≤ c) (k : Nat) (hk : 1 ≤ k) : spec_l08Fits.f k s a b c d e t z = some (fitsB a b c (Int.tmod t 1440) z) := by
  obtain ⟨k, rfl⟩ := succ_of (show 0 < k by omega)
  have hj : ∀ m x, spec_l08Fits.j0 (k + 1) m x s a b c d e = (if x = true then some false else if a < b then (if m ≥ a then some (decide (m < b)) else some false) else (if m ≥ a then some true else some (decide (m < b)))) := fun _ _ => rfl
  rw [spec_l08Fits.f, hj, hj]
  generalize Int.tmod t 1440 = m
  rw [tail_ _ _ a b m rfl, tail_ _ _ a b m rfl]
  unfold fitsB
  by_cases h1 : c ≥ 0
  · rw [if_pos h1]
    by_cases h2 : c = z <;> simp [h2, show c ≠ -1 by omega]
  · rw [if_neg h1]
    simp [show c = -1 by omega]
theorem worth_l0 (x : List S26) (y : List Int) (hm : y.length ≤ 1048576) (h : okO x.length y = true) (d : Nat) : ∀ (i : Nat) (a : Int), i + d = y.length → ∃ w : Int, ∀ k, d < k → spec_l08Worth.l0 k x y a (i : Int) = some w ∧ impl_WorthOf.l0 k x a y (y.length : Int) (i : Int) = some (w, 0) := by
  induction d with
  | zero =>
    intro i a hi
    refine ⟨a, fun k hk => ?_⟩
    obtain ⟨k, rfl⟩ := succ_of hk
    rw [spec_l08Worth.l0, impl_WorthOf.l0, if_neg (by omega), if_neg (by omega)]
    exact ⟨rfl, rfl⟩
  | succ d ih =>
    intro i a hi
    have hr := okO_at h (j := i) (by omega)
    obtain ⟨w, hw⟩ := ih (i + 1) (wrap64 (a + (rd_T26 x (rd y (i : Int))).f5)) (by omega)
    refine ⟨w, fun k hk => ?_⟩
    obtain ⟨k, rfl⟩ := succ_of hk
    have hw := hw k (by omega)
    rw [spec_l08Worth.l0, impl_WorthOf.l0, w64 (n := (i : Int) + 1) (by omega) (by omega), show ((i : Int) + 1) = ((i + 1 : Nat) : Int) by omega]
    rw [if_pos (by omega), if_pos (by omega), if_pos hr.1, if_pos hr.2]
    rw [if_pos (by omega), if_pos (by omega), if_pos (by omega), if_pos hr.1, if_pos hr.2]
    exact hw
theorem end_l0 (x : List S26) (y : List Int) (z : Int) (hm : y.length ≤ 1048576) (hx : okM x = true) (h : okO x.length y = true) (d : Nat) : ∀ (i : Nat) (a : Int), i + d = y.length → ∃ w : Int × Bool, ∀ k, d + 2 ≤ k → spec_l08End.l0 k x y z a (i : Int) = some w ∧ impl_endOf.l0 k x a z y (y.length : Int) (i : Int) = some w := by
  induction d with
  | zero =>
    intro i a hi
    refine ⟨(a, true), fun k hk => ?_⟩
    obtain ⟨k, rfl⟩ := succ_of (show 0 < k by omega)
    rw [spec_l08End.l0, impl_endOf.l0, if_neg (by omega), if_neg (by omega)]
    exact ⟨rfl, rfl⟩
  | succ d ih =>
    intro i a hi
    have hr := okO_at h (j := i) (by omega)
    have hv := itB_c (okM_at hx hr.1 hr.2)
    obtain ⟨w, hw⟩ := ih (i + 1) (wrap64 (a + (rd_T26 x (rd y (i : Int))).f4)) (by omega)
    cases hf : fitsB (rd_T26 x (rd y (i : Int))).f1 (rd_T26 x (rd y (i : Int))).f2 (rd_T26 x (rd y (i : Int))).f3 (Int.tmod a 1440) z with
    | false =>
      refine ⟨(0, false), fun k hk => ?_⟩
      obtain ⟨k, rfl⟩ := succ_of (show 0 < k by omega)
      rw [spec_l08End.l0, impl_endOf.l0, fitsT_ _ _ _ _ _ _ _ _ hv.1 k (by omega), implFits _ _ _ _ _ _ _ _ k (by omega), hf]
      rw [if_pos (by omega), if_pos (by omega), if_pos hr.1, if_pos hr.2]
      rw [if_pos (by omega), if_pos (by omega), if_pos (by omega), if_pos hr.1, if_pos hr.2]
      exact ⟨rfl, rfl⟩
    | true =>
      refine ⟨w, fun k hk => ?_⟩
      obtain ⟨k, rfl⟩ := succ_of (show 0 < k by omega)
      have hw := hw k (by omega)
      rw [spec_l08End.l0, impl_endOf.l0, fitsT_ _ _ _ _ _ _ _ _ hv.1 k (by omega), implFits _ _ _ _ _ _ _ _ k (by omega), hf, w64 (n := (i : Int) + 1) (by omega) (by omega), show ((i : Int) + 1) = ((i + 1 : Nat) : Int) by omega]
      rw [if_pos (by omega), if_pos (by omega), if_pos hr.1, if_pos hr.2]
      rw [if_pos (by omega), if_pos (by omega), if_pos (by omega), if_pos hr.1, if_pos hr.2]
      exact hw

end Go.Proofs.Ytnnblnbepnfbhaa.Pure
