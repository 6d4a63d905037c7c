/- Plain facts on lists and rounds: what a law's own helpers (copy, compare, mark, check the marks) compute. No condition. -/
import Derived.Test.YtnpifkjbnkfiaaaMx0
import Derived.Test.YtnpifkjbnkfiaaaMx1
import Derived.Test.YtnpifkjbnkfiaaaMx3
import Derived.Test.YtnpifkjbnkfiaaaMx4
import Derived.Test.YtnpifkjbnkfiaaaMx7
import Derived.Test.YtnpifkjbnkfiaaaMx8
import Derived.Test.YtnpifkjbnkfiaaaMx9
import Derived.Test.YtnpifkjbnkfiaaaMx10
import Derived.Test.YtnpifkjbnkfiaaaMx46
import Derived.Test.YtnpifkjbnkfiaaaMx48
namespace Go.Proofs.Ytnpifkjbnkfiaaa.Pure
open Go.RowKit Go.Proofs.Ytnpifkjbnkfiaaa.M Go.Proofs.YtnpifkjbnkfiaaaW.PrintWords Go.Proofs.YtnpifkjbnkfiaaaW.PrintLast
theorem w64 {n : Int} (h : -9223372036854775808 ≤ n) (h' : n ≤ 9223372036854775807) : wrap64 n = n := by unfold wrap64; omega
theorem wfi {n : Int} (h : (Lit.int .i64 n).wf = true) : -9223372036854775808 ≤ n ∧ n ≤ 9223372036854775807 := by
  have h2 : IntKind.i64.min ≤ n ∧ n ≤ IntKind.i64.max := by simpa [Lit.wf] using h
  have e1 : IntKind.i64.min = -9223372036854775808 := by decide
  have e2 : IntKind.i64.max = 9223372036854775807 := by decide
  omega
theorem succ_of {n k : Nat} (h : n < k) : ∃ m, k = m + 1 := ⟨k - 1, by omega⟩
theorem rd_at {x : List Int} {j : Nat} (h : j < x.length) : rd x (j : Int) = x[j] := by
  simp [rd, List.getD_eq_getElem?_getD, List.getElem?_eq_getElem h]
theorem take_set_snoc {α : Type} (x : List α) (i : Nat) (a : α) (h : i < x.length) : (x.set i a).take (i + 1) = x.take i ++ [a] := by
  rw [List.take_succ_eq_append_getElem (by simpa using h)]
  rw [List.take_set, List.set_eq_of_length_le (by rw [List.length_take]; omega)]
  simp
/-- The int helpers. -/
theorem eqI_l0 (d : Nat) : ∀ (x : List Int) (k i : Nat), x.length ≤ 4611686018427387904 → i + d = x.length → d < k → laws_eqInt64S.l0 k x x (i : Int) = some true := by
  induction d with
  | zero =>
    intro x k i hn hi hk
    obtain ⟨k, rfl⟩ := succ_of hk
    rw [laws_eqInt64S.l0, if_neg (by omega)]
  | succ d ih =>
    intro x k i hn hi hk
    obtain ⟨k, rfl⟩ := succ_of hk
    rw [laws_eqInt64S.l0, if_pos (by omega), if_pos (by omega), if_pos (by omega), if_pos rfl, w64 (by omega) (by omega)]
    exact ih x k (i + 1) hn (by omega) (by omega)
theorem eqI (x : List Int) (hn : x.length ≤ 4611686018427387904) (k : Nat) (hk : x.length < k) : laws_eqInt64S.f k x x = some true := by
  rw [laws_eqInt64S.f, if_pos rfl]
  exact eqI_l0 x.length x k 0 hn (by omega) hk
def mks (a : Int) (d : Nat) : List Int := (List.range d).map fun j : Nat => a + j
theorem mks_succ (a : Int) (d : Nat) : mks a (d + 1) = a :: mks (a + 1) d := by
  simp only [mks, List.range_succ_eq_map, List.map_cons, List.map_map]
  congr 1
  · simp
  · apply List.map_congr_left
    intro j _
    simp only [Function.comp, Nat.succ_eq_add_one]
    omega
theorem markI_l0 (d : Nat) : ∀ (x : List Int) (a : Int) (k i : Nat), x.length ≤ 1152921504606846976 → 0 ≤ a → a + d ≤ 4611686018427387904 → i + d = x.length → d < k →
    laws_markInt64S.l0 k x a (i : Int) = some (a + d, x.take i ++ mks a d) := by
  induction d with
  | zero =>
    intro x a k i hn h0 ha hi hk
    obtain ⟨k, rfl⟩ := succ_of hk
    rw [laws_markInt64S.l0, if_neg (by omega)]
    rw [List.take_of_length_le (by omega)]
    simp [mks]
  | succ d ih =>
    intro x a k i hn h0 ha hi hk
    obtain ⟨k, rfl⟩ := succ_of hk
    rw [laws_markInt64S.l0, if_pos (by omega), if_pos (by omega), w64 (n := a + 1) (by omega) (by omega), w64 (by omega) (by omega)]
    have := ih (x.set (i : Int).toNat a) (a + 1) k (i + 1) (by simpa using hn) (by omega) (by omega) (by simp; omega) (by omega)
    rw [show ((i : Int) + 1) = ((i + 1 : Nat) : Int) by omega, this, Int.toNat_natCast, take_set_snoc _ _ _ (by omega), mks_succ, List.append_assoc]
    simp
    omega
theorem heldI_l0 (d : Nat) : ∀ (x y : List Int) (a : Int) (k i : Nat), x = y ++ mks a d → y.length = i → i + d ≤ 1152921504606846976 → 0 ≤ a → a + d ≤ 4611686018427387904 → d < k →
    laws_heldInt64S.l0 k x a (i : Int) = some (a + d) := by
  induction d with
  | zero =>
    intro x y a k i hx hy hn h0 ha hk
    obtain ⟨k, rfl⟩ := succ_of hk
    have : x.length = i := by rw [hx]; simp [mks, hy]
    rw [laws_heldInt64S.l0, if_neg (by omega)]
    simp
  | succ d ih =>
    intro x y a k i hx hy hn h0 ha hk
    obtain ⟨k, rfl⟩ := succ_of hk
    have hl : x.length = i + (d + 1) := by rw [hx]; simp [mks, hy]
    have hr : rd x (i : Int) = a := by
      rw [rd_at (by omega)]
      subst hx hy
      rw [List.getElem_append_right (Nat.le_refl _)]
      simp [mks_succ]
    rw [laws_heldInt64S.l0, if_pos (by omega), if_pos (by omega), if_pos hr, w64 (n := a + 1) (by omega) (by omega), w64 (by omega) (by omega)]
    have := ih x (y ++ [a]) (a + 1) k (i + 1) (by rw [hx, mks_succ]; simp) (by simp [hy]) (by omega) (by omega) (by omega) (by omega)
    rw [show ((i : Int) + 1) = ((i + 1 : Nat) : Int) by omega, this]
    congr 1
    omega
theorem markI (x : List Int) (hn : x.length ≤ 1152921504606846976) (k : Nat) (hk : x.length < k) : laws_markInt64S.f k x 1 = some (1 + (x.length : Int), mks 1 x.length) := by
  rw [laws_markInt64S.f]
  have := markI_l0 x.length x 1 k 0 hn (by omega) (by omega) (by omega) hk
  simpa using this
theorem heldI (n : Nat) (hn : n ≤ 1152921504606846976) (k : Nat) (hk : n < k) : laws_heldInt64S.f k (mks 1 n) 1 = some (1 + (n : Int)) := by
  rw [laws_heldInt64S.f]
  exact heldI_l0 n (mks 1 n) [] 1 k 0 rfl rfl (by omega) (by omega) (by omega) hk

/-- The helpers on notes. -/
theorem rdN_at {x : List S52} {j : Nat} (h : j < x.length) : rd_T52 x (j : Int) = x[j] := by
  simp [rd_T52, List.getD_eq_getElem?_getD, List.getElem?_eq_getElem h]
theorem rdL_at {x : List S55} {j : Nat} (h : j < x.length) : rd_T55 x (j : Int) = x[j] := by
  simp [rd_T55, List.getD_eq_getElem?_getD, List.getElem?_eq_getElem h]
def cvN (x : S55) : S52 := ⟨x.f0, x.f1⟩
theorem szN (l : List S55) (a : Int) (h : l.length ≤ maxLen) (h0 : 0 ≤ a) (h1 : a ≤ 1048576) : laws_szNoteS.f l a = some (if a - l.length < 0 then -1 else a - l.length) := by
  unfold maxLen at h
  rw [laws_szNoteS.f, w64 (by omega) (by omega)]
  split <;> rfl
theorem toN_l0 (l : List S55) (hn : l.length ≤ 1048576) (d : Nat) : ∀ (y : List S52) (k i : Nat), y.length = l.length → i + d = l.length → d < k → y.take i = (l.take i).map cvN →
    laws_toNoteS.l0 k l y (i : Int) = some (l.map cvN) := by
  induction d with
  | zero =>
    intro y k i hy hi hk ht
    obtain ⟨k, rfl⟩ := succ_of hk
    rw [laws_toNoteS.l0, if_neg (by omega)]
    rw [List.take_of_length_le (by omega), List.take_of_length_le (by omega)] at ht
    rw [ht]
  | succ d ih =>
    intro y k i hy hi hk ht
    obtain ⟨k, rfl⟩ := succ_of hk
    rw [laws_toNoteS.l0, if_pos (by omega), if_pos (by omega)]
    simp only [laws_toNote.f, Option.bind_some]
    rw [if_pos (by omega), w64 (by omega) (by omega)]
    have := ih (y.set i (cvN l[i])) k (i + 1) (by simpa using hy) (by omega) (by omega) (by
      rw [take_set_snoc _ _ _ (by omega), ht, List.take_succ_eq_append_getElem (by omega), List.map_append]
      rfl)
    rw [rdL_at (by omega), Int.toNat_natCast]
    exact this
theorem toN (l : List S55) (hn : l.length ≤ 1048576) (k : Nat) (hk : 1048577 ≤ k) : laws_toNoteS.f k l = some (l.map cvN) := by
  rw [laws_toNoteS.f, if_pos (by omega), if_pos (by omega)]
  exact toN_l0 l hn l.length _ k 0 (by simp) (by omega) (by omega) (by simp)
theorem eqN_l0 (d : Nat) : ∀ (x : List S52) (k i : Nat), x.length ≤ 4611686018427387904 → i + d = x.length → d < k → laws_eqNoteS.l0 k x x (i : Int) = some true := by
  induction d with
  | zero =>
    intro x k i hn hi hk
    obtain ⟨k, rfl⟩ := succ_of hk
    rw [laws_eqNoteS.l0, if_neg (by omega)]
  | succ d ih =>
    intro x k i hn hi hk
    obtain ⟨k, rfl⟩ := succ_of hk
    rw [laws_eqNoteS.l0, if_pos (by omega), if_pos (by omega), if_pos (by omega)]
    simp only [laws_eqNote.f, if_true, Option.bind_some]
    rw [w64 (by omega) (by omega)]
    exact ih x k (i + 1) hn (by omega) (by omega)
theorem eqN (x : List S52) (hn : x.length ≤ 4611686018427387904) (k : Nat) (hk : x.length < k) : laws_eqNoteS.f k x x = some true := by
  rw [laws_eqNoteS.f, if_pos rfl]
  exact eqN_l0 x.length x k 0 hn (by omega) hk
def mksN (a : Int) (d : Nat) : List S52 := (List.range d).map fun j : Nat => ⟨a + 2 * j, a + 2 * j + 1⟩
theorem mksN_succ (a : Int) (d : Nat) : mksN a (d + 1) = ⟨a, a + 1⟩ :: mksN (a + 2) d := by
  simp only [mksN, List.range_succ_eq_map, List.map_cons, List.map_map]
  congr 1
  · simp
  · apply List.map_congr_left
    intro j _
    simp only [Function.comp, Nat.succ_eq_add_one]
    rw [show a + 2 * ((j + 1 : Nat) : Int) = a + 2 + 2 * (j : Int) by omega]
theorem markN_l0 (d : Nat) : ∀ (x : List S52) (a : Int) (k i : Nat), x.length ≤ 1152921504606846976 → 0 ≤ a → a + 2 * d ≤ 4611686018427387904 → i + d = x.length → d < k →
    laws_markNoteS.l0 k x a (i : Int) = some (a + 2 * d, x.take i ++ mksN a d) := by
  induction d with
  | zero =>
    intro x a k i hn h0 ha hi hk
    obtain ⟨k, rfl⟩ := succ_of hk
    rw [laws_markNoteS.l0, if_neg (by omega)]
    rw [List.take_of_length_le (by omega)]
    simp [mksN]
  | succ d ih =>
    intro x a k i hn h0 ha hi hk
    obtain ⟨k, rfl⟩ := succ_of hk
    rw [laws_markNoteS.l0, if_pos (by omega), if_pos (by omega)]
    simp only [Option.bind_some, Int.toNat_natCast]
    rw [w64 (n := a + 1) (by omega) (by omega), w64 (n := a + 1 + 1) (by omega) (by omega), w64 (by omega) (by omega), show rd_T52 (x.set i ⟨a, (rd_T52 x i).f1⟩) (i : Int) = ⟨a, (rd_T52 x i).f1⟩ from by rw [rdN_at (by simp; omega)]; simp]
    simp only [List.set_set]
    have := ih (x.set i ⟨a, a + 1⟩) (a + 1 + 1) k (i + 1) (by simpa using hn) (by omega) (by omega) (by simp; omega) (by omega)
    rw [show ((i : Int) + 1) = ((i + 1 : Nat) : Int) by omega, this, take_set_snoc _ _ _ (by omega), mksN_succ, List.append_assoc]
    rw [show a + 1 + 1 = a + 2 by omega]
    simp
    omega
theorem heldN_l0 (d : Nat) : ∀ (x y : List S52) (a : Int) (k i : Nat), x = y ++ mksN a d → y.length = i → i + d ≤ 1152921504606846976 → 0 ≤ a → a + 2 * d ≤ 4611686018427387904 → d < k →
    laws_heldNoteS.l0 k x a (i : Int) = some (a + 2 * d) := by
  induction d with
  | zero =>
    intro x y a k i hx hy hn h0 ha hk
    obtain ⟨k, rfl⟩ := succ_of hk
    have : x.length = i := by rw [hx]; simp [mksN, hy]
    rw [laws_heldNoteS.l0, if_neg (by omega)]
    simp
  | succ d ih =>
    intro x y a k i hx hy hn h0 ha hk
    obtain ⟨k, rfl⟩ := succ_of hk
    have hl : x.length = i + (d + 1) := by rw [hx]; simp [mksN, hy]
    have hr : rd_T52 x (i : Int) = ⟨a, a + 1⟩ := by
      rw [rdN_at (by omega)]
      subst hx hy
      rw [List.getElem_append_right (Nat.le_refl _)]
      simp [mksN_succ]
    rw [laws_heldNoteS.l0, if_pos (by omega), if_pos (by omega), hr, if_pos rfl, w64 (n := a + 1) (by omega) (by omega), if_pos rfl, w64 (n := a + 1 + 1) (by omega) (by omega), w64 (by omega) (by omega)]
    have := ih x (y ++ [⟨a, a + 1⟩]) (a + 1 + 1) k (i + 1) (by rw [hx, mksN_succ, show a + 1 + 1 = a + 2 by omega]; simp) (by simp [hy]) (by omega) (by omega) (by omega) (by omega)
    rw [show ((i : Int) + 1) = ((i + 1 : Nat) : Int) by omega, this]
    congr 1
    omega
theorem markN (x : List S52) (hn : x.length ≤ 1152921504606846976) (k : Nat) (hk : x.length < k) : laws_markNoteS.f k x 1 = some (1 + 2 * (x.length : Int), mksN 1 x.length) := by
  rw [laws_markNoteS.f]
  have := markN_l0 x.length x 1 k 0 hn (by omega) (by omega) (by omega) hk
  simpa using this
theorem heldN (n : Nat) (hn : n ≤ 1152921504606846976) (k : Nat) (hk : n < k) : laws_heldNoteS.f k (mksN 1 n) 1 = some (1 + 2 * (n : Int)) := by
  rw [laws_heldNoteS.f]
  exact heldN_l0 n (mksN 1 n) [] 1 k 0 rfl rfl (by omega) (by omega) (by omega) hk

end Go.Proofs.Ytnpifkjbnkfiaaa.Pure
