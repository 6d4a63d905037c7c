/- Plain facts on orders of the numbers of items, in the reference and in the program. No condition. -/
import Derived.Test.YtnnblnbepnfbhaaM3x0
import Derived.Test.YtnnblnbepnfbhaaM3x7
import Derived.Test.YtnnblnbepnfbhaaM3x8
import Derived.Test.YtnnblnbepnfbhaaM3x12
import Derived.Test.YtnnblnbepnfbhaaItemRows
namespace Go.Proofs.Ytnnblnbepnfbhaa.Pure
open Go.RowKit Go.Proofs.Ytnnblnbepnfbhaa.M3 Go.Proofs.YtnnblnbepnfbhaaW.PrintWords Go.Proofs.YtnnblnbepnfbhaaW.PrintLast
def hasD (x : List Int) (a : Int) : Nat → Nat → Bool
  | 0, _ => false
  | d + 1, i => if rd x (i : Int) = a then true else hasD x a d (i + 1)
def hasB (x : List Int) (a : Int) : Bool := hasD x a x.length 0
theorem specHas (x : List Int) (a : Int) (hn : x.length ≤ 1048576) (k : Nat) (hk : x.length < k) : spec_l00Has.f k x a = some (hasB x a) := by
  have h : ∀ (d k i : Nat), i + d = x.length → d < k → spec_l00Has.l0 k x a (i : Int) = some (hasD x a d i) := by
    intro d
    induction d with
    | zero =>
      intro k i hi hk
      obtain ⟨k, rfl⟩ := succ_of hk
      rw [spec_l00Has.l0, if_neg (by omega), hasD]
    | succ d ih =>
      intro k i hi hk
      obtain ⟨k, rfl⟩ := succ_of hk
      rw [spec_l00Has.l0, if_pos (by omega), if_pos (by omega), hasD, w64 (by omega) (by omega), show ((i : Int) + 1) = ((i + 1 : Nat) : Int) by omega, ih k (i + 1) (by omega) (by omega)]
      split <;> rfl
  exact h x.length k 0 (by omega) hk
theorem implHas (x : List Int) (a : Int) (hn : x.length ≤ 1048576) (k : Nat) (hk : x.length < k) : slices_Contains_int64_int64.f k x a = some (hasB x a) := by
  have h : ∀ (d k i : Nat), i + d = x.length → d < k → ∃ r : Int, slices_Index_int64_int64.l0 k x a (x.length : Int) (i : Int) = some r ∧ decide (r ≥ 0) = hasD x a d i := by
    intro d
    induction d with
    | zero =>
      intro k i hi hk
      obtain ⟨k, rfl⟩ := succ_of hk
      rw [slices_Index_int64_int64.l0, if_neg (by omega)]
      exact ⟨-1, rfl, rfl⟩
    | succ d ih =>
      intro k i hi hk
      obtain ⟨k, rfl⟩ := succ_of hk
      rw [slices_Index_int64_int64.l0, if_pos (by omega), if_pos (by omega), if_pos (by omega), hasD, w64 (by omega) (by omega), show ((i : Int) + 1) = ((i + 1 : Nat) : Int) by omega]
      by_cases e : a = rd x (i : Int)
      · rw [if_pos e, if_pos e.symm]
        exact ⟨_, rfl, decide_eq_true (by omega)⟩
      · rw [if_neg e, if_neg (fun h => e h.symm)]
        exact ih k (i + 1) (by omega) (by omega)
  obtain ⟨r, h1, h2⟩ := h x.length k 0 (by omega) hk
  rw [slices_Contains_int64_int64.f, slices_Index_int64_int64.f]
  rw [show ((0 : Nat) : Int) = 0 from rfl] at h1
  rw [h1, Option.bind_some, h2]
  rfl
def chkO (n : Nat) (y : List Int) : Nat → Nat → Bool
  | 0, _ => true
  | d + 1, i => inB (rd y (i : Int)) 0 ((n : Int) - 1) && !(hasB (y.take i) (rd y (i : Int))) && chkO n y d (i + 1)
def okO (n : Nat) (y : List Int) : Bool := chkO n y y.length 0
theorem specOrd (x : List S26) (y : List Int) (hn : x.length ≤ 1048576) (hm : y.length ≤ 1048576) (k : Nat) (hk : 2100000 ≤ k) : spec_l08Order.f k x y = some (okO x.length y) := by
  have h : ∀ (d k i : Nat), i + d = y.length → d + 1048578 ≤ k → spec_l08Order.l0 k x y (i : Int) = some (chkO x.length y d i) := by
    intro d
    induction d with
    | zero =>
      intro k i hi hk
      obtain ⟨k, rfl⟩ := succ_of (show 0 < k by omega)
      rw [spec_l08Order.l0, if_neg (by omega), chkO]
    | succ d ih =>
      intro k i hi hk
      obtain ⟨k, rfl⟩ := succ_of (show 0 < k by omega)
      rw [spec_l08Order.l0, if_pos (by omega), if_pos (by omega), specIn, Option.bind_some, chkO, w64 (n := (x.length : Int) - 1) (by omega) (by omega), w64 (n := (i : Int) + 1) (by omega) (by omega), show ((i : Int) + 1) = ((i + 1 : Nat) : Int) by omega, ih k (i + 1) (by omega) (by omega), Int.toNat_natCast, if_pos (show (i : Int) ≤ (y.length : Int) by omega), specHas (y.take i) _ (by rw [List.length_take]; omega) k (by rw [List.length_take]; omega), Option.bind_some]
      cases inB (rd y (i : Int)) 0 ((x.length : Int) - 1) <;> cases hasB (y.take i) (rd y (i : Int)) <;> simp
  exact h y.length k 0 (by omega) (by omega)
theorem implOrd (x : List S26) (y : List Int) (hn : x.length ≤ 1048576) (hm : y.length ≤ 1048576) (k : Nat) (hk : 2100000 ≤ k) : impl_Item_92.f k x y = some (okO x.length y) := by
  have h : ∀ (d k i : Nat), i + d = y.length → d + 1048578 ≤ k → impl_Item_92.l0 k x y y (y.length : Int) (i : Int) = some (chkO x.length y d i) := by
    intro d
    induction d with
    | zero =>
      intro k i hi hk
      obtain ⟨k, rfl⟩ := succ_of (show 0 < k by omega)
      rw [impl_Item_92.l0, if_neg (by omega), chkO]
    | succ d ih =>
      intro k i hi hk
      obtain ⟨k, rfl⟩ := succ_of (show 0 < k by omega)
      rw [impl_Item_92.l0, if_pos (by omega), if_pos (by omega), if_pos (by omega), impl_Item_107.f, implIn, Option.bind_some, Option.bind_some, chkO, w64 (n := (x.length : Int) - 1) (by omega) (by omega), w64 (n := (i : Int) + 1) (by omega) (by omega), show ((i : Int) + 1) = ((i + 1 : Nat) : Int) by omega, ih k (i + 1) (by omega) (by omega), Int.toNat_natCast, if_pos (show (i : Int) ≤ (y.length : Int) by omega), implHas (y.take i) _ (by rw [List.length_take]; omega) k (by rw [List.length_take]; omega), Option.bind_some]
      cases inB (rd y (i : Int)) 0 ((x.length : Int) - 1) <;> cases hasB (y.take i) (rd y (i : Int)) <;> simp
  exact h y.length k 0 (by omega) (by omega)
theorem chkO_at (n : Nat) (y : List Int) (d : Nat) : ∀ (i j : Nat), chkO n y d i = true → i ≤ j → j < i + d → 0 ≤ rd y (j : Int) ∧ rd y (j : Int) < n := by
  induction d with
  | zero => intro i j _ h1 h2; omega
  | succ d ih =>
    intro i j h h1 h2
    rw [chkO, Bool.and_eq_true, Bool.and_eq_true, inB_true] at h
    by_cases e : j = i
    · subst e; omega
    · exact ih (i + 1) j h.2 (by omega) (by omega)
theorem okO_at {n : Nat} {y : List Int} (h : okO n y = true) {j : Nat} (h1 : j < y.length) : 0 ≤ rd y (j : Int) ∧ rd y (j : Int) < n :=
  chkO_at n y y.length 0 j h (by omega) (by omega)

end Go.Proofs.Ytnnblnbepnfbhaa.Pure
