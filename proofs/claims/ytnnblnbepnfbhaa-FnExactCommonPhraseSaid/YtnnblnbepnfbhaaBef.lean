/- Order of two rows of numbers, in the reference and in the program. No condition. -/
import Derived.Test.YtnnblnbepnfbhaaM2x0
import Derived.Test.YtnnblnbepnfbhaaM2x18
import Derived.Test.YtnnblnbepnfbhaaM2x20
import Derived.Test.YtnnblnbepnfbhaaM2x21
import Derived.Test.YtnnblnbepnfbhaaOcc
import Derived.Test.YtnnblnbepnfbhaaPTo
namespace Go.Proofs.Ytnnblnbepnfbhaa.Pure
open Go.RowKit Go.Proofs.Ytnnblnbepnfbhaa.M2 Go.Proofs.YtnnblnbepnfbhaaW.PrintWords Go.Proofs.YtnnblnbepnfbhaaW.PrintLast
/-- Order of two rows: the first is before the second. -/
def bef (x y : List Int) : Nat → Nat → Bool
  | 0, _ => decide (x.length < y.length)
  | d + 1, i => if i < y.length then (if rd x (i : Int) = rd y (i : Int) then bef x y d (i + 1) else decide (rd x (i : Int) < rd y (i : Int))) else decide (x.length < y.length)
def befB (x y : List Int) : Bool := bef x y x.length 0
theorem specBef (x y : List Int) (hx : x.length ≤ 1048576) (hy : y.length ≤ 1048576) (k : Nat) (hk : 2100000 ≤ k) : spec_l06Before.f k x y = some (befB x y) := by
  have h : ∀ (d k i : Nat), i + d = x.length → 2 * d + 2 ≤ k → spec_l06Before.l0 k x y (i : Int) = some (bef x y d i) := by
    have hj : ∀ k (i : Int) b, spec_l06Before.j1 (k + 1) x y i b = if b = true then (if 0 ≤ i then (if i < (x.length : Int) then (if i < (y.length : Int) then (if (rd x i) = (rd y i) then (spec_l06Before.l0 k x y (wrap64 (i + 1))) else (some (decide ((rd x i) < (rd y i))))) else (none)) else (none)) else (none)) else (some (decide ((x.length : Int) < (y.length : Int)))) := fun _ _ _ => rfl
    intro d
    induction d with
    | zero =>
      intro k i hi hk
      obtain ⟨k, rfl⟩ := succ_of (show 0 < k by omega)
      obtain ⟨k, rfl⟩ := succ_of (show 0 < k by omega)
      rw [spec_l06Before.l0, if_neg (by omega), hj, if_neg (by simp), bef]
      congr 1
      rw [decide_eq_decide]
      omega
    | succ d ih =>
      intro k i hi hk
      obtain ⟨k, rfl⟩ := succ_of (show 0 < k by omega)
      obtain ⟨k, rfl⟩ := succ_of (show 0 < k by omega)
      rw [spec_l06Before.l0, if_pos (by omega), hj, bef]
      by_cases c : i < y.length
      · rw [decide_eq_true (show (i : Int) < (y.length : Int) by omega), if_pos rfl, if_pos (by omega), if_pos (by omega), if_pos (by omega), if_pos c, w64 (by omega) (by omega), show ((i : Int) + 1) = ((i + 1 : Nat) : Int) by omega, ih k (i + 1) (by omega) (by omega)]
        split <;> rfl
      · rw [decide_eq_false (show ¬ (i : Int) < (y.length : Int) by omega), if_neg (by simp), if_neg c]
        congr 1
        rw [decide_eq_decide]
        omega
  exact h x.length k 0 (by omega) (by omega)
theorem implCmp (x y : List Int) (hx : x.length ≤ 1048576) (hy : y.length ≤ 1048576) (k : Nat) (hk : 2100000 ≤ k) : ∃ r : Int, slices_Compare_int64_int64.f k x y = some r ∧ decide (r ≥ 0) = !(befB x y) := by
  have h : ∀ (d k i : Nat), i + d = x.length → d + 2 ≤ k → i ≤ y.length → ∃ r : Int, slices_Compare_int64_int64.l0 k x y x (x.length : Int) (i : Int) = some r ∧ decide (r ≥ 0) = !(bef x y d i) := by
    intro d
    induction d with
    | zero =>
      intro k i hi hk hy
      obtain ⟨k, rfl⟩ := succ_of (show 0 < k by omega)
      rw [slices_Compare_int64_int64.l0, if_neg (by omega), bef]
      by_cases c : x.length < y.length
      · rw [if_pos (by omega), decide_eq_true c]
        exact ⟨-1, rfl, rfl⟩
      · rw [if_neg (by omega), decide_eq_false c]
        exact ⟨0, rfl, rfl⟩
    | succ d ih =>
      intro k i hi hk hyy
      obtain ⟨k, rfl⟩ := succ_of (show 0 < k by omega)
      rw [slices_Compare_int64_int64.l0, if_pos (by omega), if_pos (by omega), if_pos (by omega), bef]
      by_cases c : i < y.length
      · rw [if_neg (by omega), if_pos (by omega), if_pos c, w64 (by omega) (by omega), show ((i : Int) + 1) = ((i + 1 : Nat) : Int) by omega]
        by_cases e : rd x (i : Int) = rd y (i : Int)
        · rw [if_pos e]
          obtain ⟨r, h1, h2⟩ := ih k (i + 1) (by omega) (by omega) (by omega)
          refine ⟨r, ?_, h2⟩
          rw [e, show cmp_Compare_int64.f (rd y (i : Int)) (rd y (i : Int)) = some 0 from by simp [cmp_Compare_int64.f, cmp_isNaN_int64.f], Option.bind_some, if_pos rfl, h1]
        · rw [if_neg e]
          by_cases g : rd x (i : Int) < rd y (i : Int)
          · rw [decide_eq_true g]
            refine ⟨-1, ?_, rfl⟩
            rw [show cmp_Compare_int64.f (rd x (i : Int)) (rd y (i : Int)) = some (-1) from by simp [cmp_Compare_int64.f, cmp_isNaN_int64.f, g], Option.bind_some, if_neg (by decide)]
          · rw [decide_eq_false g]
            refine ⟨1, ?_, rfl⟩
            rw [show cmp_Compare_int64.f (rd x (i : Int)) (rd y (i : Int)) = some 1 from by simp [cmp_Compare_int64.f, cmp_isNaN_int64.f, g, show rd x (i : Int) > rd y (i : Int) by omega], Option.bind_some, if_neg (by decide)]
      · rw [if_pos (by omega), if_neg c, decide_eq_false (by omega)]
        exact ⟨1, rfl, rfl⟩
  exact h x.length k 0 (by omega) (by omega) (by omega)

end Go.Proofs.Ytnnblnbepnfbhaa.Pure
