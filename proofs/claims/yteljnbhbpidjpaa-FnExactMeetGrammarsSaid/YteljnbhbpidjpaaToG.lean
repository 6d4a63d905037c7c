/- A copy of a list of whole numbers, as the laws make it. No condition. -/
import Derived.Test.YteljnbhbpidjpaaGx0
import Derived.Test.YteljnbhbpidjpaaGx9
import Derived.Test.YteljnbhbpidjpaaBaseG
namespace Go.Proofs.Yteljnbhbpidjpaa.Pure
open Go.RowKit Go.Proofs.Yteljnbhbpidjpaa.G Go.Proofs.YteljnbhbpidjpaaW.PrintWords Go.Proofs.YteljnbhbpidjpaaW.PrintLast
theorem toI_l0 (l : List Int) (hn : l.length ≤ 1048576) (d : Nat) : ∀ (y : List Int) (k i : Nat), y.length = l.length → i + d = l.length → d < k → y.take i = l.take i → laws_toInt64S.l0 k l y (i : Int) = some l := by
  induction d with
  | zero =>
    intro y k i hy hi hk ht
    obtain ⟨k, rfl⟩ := succ_of hk
    rw [laws_toInt64S.l0, if_neg (by omega)]
    rw [List.take_of_length_le (by omega), List.take_of_length_le (by omega)] at ht
    rw [ht]
  | succ d ih =>
    intro y k i hy hi hk ht
    obtain ⟨k, rfl⟩ := succ_of hk
    rw [laws_toInt64S.l0, if_pos (by omega), if_pos (by omega), if_pos (by omega), w64 (by omega) (by omega)]
    have := ih (y.set i l[i]) k (i + 1) (by simpa using hy) (by omega) (by omega) (by
      rw [take_set_snoc _ _ _ (by omega), ht, List.take_succ_eq_append_getElem (by omega)])
    rw [rd_at (by omega), Int.toNat_natCast]
    exact this
theorem toI (l : List Int) (hn : l.length ≤ 1048576) (k : Nat) (hk : 1048577 ≤ k) : laws_toInt64S.f k l = some l := by
  rw [laws_toInt64S.f, if_pos (by omega), if_pos (by omega)]
  exact toI_l0 l hn l.length _ k 0 (by simp) (by omega) (by omega) (by simp)

end Go.Proofs.Yteljnbhbpidjpaa.Pure
