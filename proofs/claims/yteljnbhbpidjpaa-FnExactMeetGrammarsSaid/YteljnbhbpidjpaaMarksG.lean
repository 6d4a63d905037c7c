/- Marks on whole numbers. No condition. -/
import Derived.Test.YteljnbhbpidjpaaGx0
import Derived.Test.YteljnbhbpidjpaaGx20
import Derived.Test.YteljnbhbpidjpaaGx21
import Derived.Test.YteljnbhbpidjpaaBaseG
namespace Go.Proofs.Yteljnbhbpidjpaa.Pure
open Go.RowKit Go.Proofs.Yteljnbhbpidjpaa.G Go.Proofs.YteljnbhbpidjpaaW.PrintWords Go.Proofs.YteljnbhbpidjpaaW.PrintLast
def mks (a : Int) (d : Nat) : List Int := (List.range d).map fun j : Nat => a + j
theorem mks_succ (a : Int) (d : Nat) : mks a (d + 1) = a :: mks (a + 1) d := by
  simp only [mks, List.range_succ_eq_map, List.map_cons, List.map_map]
  congr 1
  · simp
  · apply List.map_congr_left
    intro j _
    simp only [Function.comp, Nat.succ_eq_add_one]
    omega
theorem markI_l0 (d : Nat) : ∀ (x : List Int) (a : Int) (k i : Nat), x.length ≤ 1152921504606846976 → 0 ≤ a → a + d ≤ 4611686018427387904 → i + d = x.length → d < k →
    laws_markInt64S.l0 k x a (i : Int) = some (a + d, x.take i ++ mks a d) := by
  induction d with
  | zero =>
    intro x a k i hn h0 ha hi hk
    obtain ⟨k, rfl⟩ := succ_of hk
    rw [laws_markInt64S.l0, if_neg (by omega)]
    rw [List.take_of_length_le (by omega)]
    simp [mks]
  | succ d ih =>
    intro x a k i hn h0 ha hi hk
    obtain ⟨k, rfl⟩ := succ_of hk
    rw [laws_markInt64S.l0, if_pos (by omega), if_pos (by omega), w64 (n := a + 1) (by omega) (by omega), w64 (by omega) (by omega)]
    have := ih (x.set (i : Int).toNat a) (a + 1) k (i + 1) (by simpa using hn) (by omega) (by omega) (by simp; omega) (by omega)
    rw [show ((i : Int) + 1) = ((i + 1 : Nat) : Int) by omega, this, Int.toNat_natCast, take_set_snoc _ _ _ (by omega), mks_succ, List.append_assoc]
    simp
    omega
theorem heldI_l0 (d : Nat) : ∀ (x y : List Int) (a : Int) (k i : Nat), x = y ++ mks a d → y.length = i → i + d ≤ 1152921504606846976 → 0 ≤ a → a + d ≤ 4611686018427387904 → d < k →
    laws_heldInt64S.l0 k x a (i : Int) = some (a + d) := by
  induction d with
  | zero =>
    intro x y a k i hx hy hn h0 ha hk
    obtain ⟨k, rfl⟩ := succ_of hk
    have : x.length = i := by rw [hx]; simp [mks, hy]
    rw [laws_heldInt64S.l0, if_neg (by omega)]
    simp
  | succ d ih =>
    intro x y a k i hx hy hn h0 ha hk
    obtain ⟨k, rfl⟩ := succ_of hk
    have hl : x.length = i + (d + 1) := by rw [hx]; simp [mks, hy]
    have hr : rd x (i : Int) = a := by
      rw [rd_at (by omega)]
      subst hx hy
      rw [List.getElem_append_right (Nat.le_refl _)]
      simp [mks_succ]
    rw [laws_heldInt64S.l0, if_pos (by omega), if_pos (by omega), if_pos hr, w64 (n := a + 1) (by omega) (by omega), w64 (by omega) (by omega)]
    have := ih x (y ++ [a]) (a + 1) k (i + 1) (by rw [hx, mks_succ]; simp) (by simp [hy]) (by omega) (by omega) (by omega) (by omega)
    rw [show ((i : Int) + 1) = ((i + 1 : Nat) : Int) by omega, this]
    congr 1
    omega
theorem markI (x : List Int) (hn : x.length ≤ 1152921504606846976) (k : Nat) (hk : x.length < k) : laws_markInt64S.f k x 1 = some (1 + (x.length : Int), mks 1 x.length) := by
  rw [laws_markInt64S.f]
  have := markI_l0 x.length x 1 k 0 hn (by omega) (by omega) (by omega) hk
  simpa using this
theorem heldI (n : Nat) (hn : n ≤ 1152921504606846976) (k : Nat) (hk : n < k) : laws_heldInt64S.f k (mks 1 n) 1 = some (1 + (n : Int)) := by
  rw [laws_heldInt64S.f]
  exact heldI_l0 n (mks 1 n) [] 1 k 0 rfl rfl (by omega) (by omega) (by omega) hk

end Go.Proofs.Yteljnbhbpidjpaa.Pure
