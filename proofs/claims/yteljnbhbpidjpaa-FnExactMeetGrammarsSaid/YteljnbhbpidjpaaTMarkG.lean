/- Marks on arcs, and that they hold. No condition. -/
import Derived.Test.YteljnbhbpidjpaaGx0
import Derived.Test.YteljnbhbpidjpaaGx20
import Derived.Test.YteljnbhbpidjpaaGx21
import Derived.Test.YteljnbhbpidjpaaGx22
import Derived.Test.YteljnbhbpidjpaaOkGG
import Derived.Test.YteljnbhbpidjpaaMarksG
namespace Go.Proofs.Yteljnbhbpidjpaa.Pure
open Go.RowKit Go.Proofs.Yteljnbhbpidjpaa.G Go.Proofs.YteljnbhbpidjpaaW.PrintWords Go.Proofs.YteljnbhbpidjpaaW.PrintLast
def mksA (a : Int) (d : Nat) : List S68 := (List.range d).map fun j : Nat => ⟨a + 3 * j, a + 3 * j + 1, a + 3 * j + 2⟩
theorem mksA_len (a : Int) (d : Nat) : (mksA a d).length = d := by simp [mksA]
theorem mksA_succ (a : Int) (d : Nat) : mksA a (d + 1) = ⟨a, a + 1, a + 2⟩ :: mksA (a + 3) d := by
  simp only [mksA, List.range_succ_eq_map, List.map_cons, List.map_map]
  congr 1
  · simp
  · apply List.map_congr_left
    intro j _
    simp only [Function.comp, Nat.succ_eq_add_one]
    congr 1 <;> omega
theorem take_set_s {α : Type} (x : List α) (i : Nat) (a : α) (h : i < x.length) : (x.set i a).take (i + 1) = x.take i ++ [a] := by
  rw [List.take_succ_eq_append_getElem (by simpa using h)]
  congr 1
  · rw [List.take_set_of_le (Nat.le_refl _)]
  · simp
theorem markA2_l0 (d : Nat) : ∀ (x : List S68) (a : Int) (k i : Nat), x.length ≤ 1048576 → 0 ≤ a → a + 3 * d ≤ 4611686018427387904 → i + d = x.length → d < k →
    laws_markArcS.l0 k x a (i : Int) = some (a + 3 * d, x.take i ++ mksA a d) := by
  induction d with
  | zero =>
    intro x a k i hn h0 ha hi hk
    obtain ⟨k, rfl⟩ := succ_of hk
    rw [laws_markArcS.l0, if_neg (by omega), List.take_of_length_le (by omega)]
    simp [mksA]
  | succ d ih =>
    intro x a k i hn h0 ha hi hk
    obtain ⟨k, rfl⟩ := succ_of hk
    have hlt : i < x.length := by omega
    rw [laws_markArcS.l0, if_pos (by omega), if_pos (by omega), Option.bind_some, Option.bind_some, w64 (n := a + 1) (by omega) (by omega), w64 (n := a + 1 + 1) (by omega) (by omega), w64 (n := a + 1 + 1 + 1) (by omega) (by omega), w64 (n := (i : Int) + 1) (by omega) (by omega), show ((i : Int) + 1) = ((i + 1 : Nat) : Int) by omega, Int.toNat_natCast]
    have r1 : ∀ (y : List S68) (z : S68), i < y.length → rd_T68 (y.set i z) (i : Int) = z := by
      intro y z hy
      rw [rdA_at (by rw [List.length_set]; exact hy), List.getElem_set_self]
    rw [r1 x _ hlt, r1 _ _ (by rw [List.length_set]; exact hlt), List.set_set, List.set_set]
    have := ih (x.set i ⟨a, a + 1, a + 1 + 1⟩) (a + 1 + 1 + 1) k (i + 1) (by simpa using hn) (by omega) (by omega) (by rw [List.length_set]; omega) (by omega)
    rw [this, take_set_s x i _ hlt, mksA_succ, List.append_assoc, show a + 1 + 1 + 1 = a + 3 by omega, show a + 1 + 1 = a + 2 by omega]
    congr 2
    omega
theorem heldA_l0 (d : Nat) : ∀ (x y : List S68) (a : Int) (k i : Nat), x = y ++ mksA a d → y.length = i → i + d ≤ 1048576 → 0 ≤ a → a + 3 * d ≤ 4611686018427387904 → d < k →
    laws_heldArcS.l0 k x a (i : Int) = some (a + 3 * d) := by
  induction d with
  | zero =>
    intro x y a k i hx hy hn h0 ha hk
    obtain ⟨k, rfl⟩ := succ_of hk
    have : x.length = i := by rw [hx]; simp [mksA, hy]
    rw [laws_heldArcS.l0, if_neg (by omega)]
    simp
  | succ d ih =>
    intro x y a k i hx hy hn h0 ha hk
    obtain ⟨k, rfl⟩ := succ_of hk
    have hl : x.length = i + (d + 1) := by rw [hx]; simp [mksA, hy]
    have hr : rd_T68 x (i : Int) = ⟨a, a + 1, a + 2⟩ := by
      rw [rdA_at (by omega)]
      subst hx hy
      rw [List.getElem_append_right (Nat.le_refl _)]
      simp [mksA_succ]
    rw [laws_heldArcS.l0, if_pos (by omega), if_pos (by omega), hr, w64 (n := a + 1) (by omega) (by omega), w64 (n := a + 1 + 1) (by omega) (by omega), w64 (n := a + 1 + 1 + 1) (by omega) (by omega), if_pos rfl, if_pos rfl, if_pos (by dsimp only; omega), w64 (n := (i : Int) + 1) (by omega) (by omega)]
    have := ih x (y ++ [⟨a, a + 1, a + 2⟩]) (a + 1 + 1 + 1) k (i + 1) (by rw [hx, mksA_succ, List.append_assoc, show a + 1 + 1 + 1 = a + 3 by omega]; rfl) (by simp [hy]) (by omega) (by omega) (by omega) (by omega)
    rw [show ((i : Int) + 1) = ((i + 1 : Nat) : Int) by omega, this]
    congr 1
    omega
theorem markI3 (x : List Int) (a : Int) (hn : x.length ≤ 1048576) (h0 : 0 ≤ a) (h1 : a ≤ 100000000) (k : Nat) (hk : x.length < k) : laws_markInt64S.f k x a = some (a + (x.length : Int), mks a x.length) := by
  rw [laws_markInt64S.f]
  have := markI_l0 x.length x a k 0 (by omega) h0 (by omega) (by omega) hk
  simpa using this
theorem markG2 (s t : Int) (f : List Int) (l : List S68) (hf : f.length ≤ 1048576) (hn : l.length ≤ 1048576) (k : Nat) (hk : 1048577 ≤ k) : laws_markGrammar.f k s t f l 1 = some (1 + (f.length : Int) + 3 * (l.length : Int), mks 1 f.length, mksA (1 + (f.length : Int)) l.length) := by
  rw [laws_markGrammar.f, markI3 f 1 hf (by omega) (by omega) k (by omega), Option.bind_some]
  dsimp only
  have e := markA2_l0 l.length l (1 + (f.length : Int)) k 0 hn (by omega) (by omega) (by omega) (by omega)
  rw [laws_markArcS.f, show (0 : Int) = ((0 : Nat) : Int) from rfl, e, Option.bind_some, List.take_zero, List.nil_append]
theorem heldG2 (s t : Int) (n m : Nat) (hf : n ≤ 1048576) (hn : m ≤ 1048576) (k : Nat) (hk : 1048577 ≤ k) : laws_heldGrammar.f k s t (mks 1 n) (mksA (1 + (n : Int)) m) 1 = some (1 + (n : Int) + 3 * (m : Int)) := by
  rw [laws_heldGrammar.f, heldI n (by omega) k (by omega), Option.bind_some, if_neg (by omega), laws_heldArcS.f, show (0 : Int) = ((0 : Nat) : Int) from rfl, heldA_l0 m (mksA (1 + (n : Int)) m) [] _ k 0 rfl rfl (by omega) (by omega) (by omega) (by omega), Option.bind_some, if_neg (by omega)]
end Go.Proofs.Yteljnbhbpidjpaa.Pure
