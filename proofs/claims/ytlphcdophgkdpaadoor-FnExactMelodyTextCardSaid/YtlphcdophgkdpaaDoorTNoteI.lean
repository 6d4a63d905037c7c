/- Plain facts on whole numbers and lists. No condition. -/
import Derived.Test.YtlphcdophgkdpaaDoorIx0
import Derived.Test.YtlphcdophgkdpaaDoorIx10
import Derived.Test.YtlphcdophgkdpaaDoorIx13
import Derived.Test.YtlphcdophgkdpaaDoorIx16
import Derived.Test.YtlphcdophgkdpaaDoorIx17
namespace Go.Proofs.YtlphcdophgkdpaaDoor.Pure
open Go.RowKit Go.Proofs.YtlphcdophgkdpaaDoor.I Go.Proofs.YtlphcdophgkdpaaDoorW.PrintWords Go.Proofs.YtlphcdophgkdpaaDoorW.PrintLast
theorem w64 {n : Int} (h : -9223372036854775808 ≤ n) (h' : n ≤ 9223372036854775807) : wrap64 n = n := by unfold wrap64; omega
theorem wfi {n : Int} (h : (Lit.int .i64 n).wf = true) : -9223372036854775808 ≤ n ∧ n ≤ 9223372036854775807 := by
  have h2 : IntKind.i64.min ≤ n ∧ n ≤ IntKind.i64.max := by simpa [Lit.wf] using h
  have e1 : IntKind.i64.min = -9223372036854775808 := by decide
  have e2 : IntKind.i64.max = 9223372036854775807 := by decide
  omega
theorem succ_of {n k : Nat} (h : n < k) : ∃ m, k = m + 1 := ⟨k - 1, by omega⟩
theorem rd_at {x : List Int} {j : Nat} (h : j < x.length) : rd x (j : Int) = x[j] := by
  simp [rd, List.getD_eq_getElem?_getD, List.getElem?_eq_getElem h]
theorem take_set_snoc {α : Type} (x : List α) (i : Nat) (a : α) (h : i < x.length) : (x.set i a).take (i + 1) = x.take i ++ [a] := by
  rw [List.take_succ_eq_append_getElem (by simpa using h)]
  rw [List.take_set, List.set_eq_of_length_le (by rw [List.length_take]; omega)]
  simp
/-- The helpers on notes. -/
theorem rdN_at {x : List S102} {j : Nat} (h : j < x.length) : rd_T102 x (j : Int) = x[j] := by
  simp [rd_T102, List.getD_eq_getElem?_getD, List.getElem?_eq_getElem h]
theorem rdL_at {x : List S104} {j : Nat} (h : j < x.length) : rd_T104 x (j : Int) = x[j] := by
  simp [rd_T104, List.getD_eq_getElem?_getD, List.getElem?_eq_getElem h]
def cvN (x : S104) : S102 := ⟨x.f0, x.f1⟩
theorem szN (l : List S104) (a : Int) (h : l.length ≤ maxLen) (h0 : 0 ≤ a) (h1 : a ≤ 1048576) : laws_szNoteS.f l a = some (if a - l.length < 0 then -1 else a - l.length) := by
  unfold maxLen at h
  rw [laws_szNoteS.f, w64 (by omega) (by omega)]
  split <;> rfl
theorem toN_l0 (l : List S104) (hn : l.length ≤ 1048576) (d : Nat) : ∀ (y : List S102) (k i : Nat), y.length = l.length → i + d = l.length → d < k → y.take i = (l.take i).map cvN →
    laws_toNoteS.l0 k l y (i : Int) = some (l.map cvN) := by
  induction d with
  | zero =>
    intro y k i hy hi hk ht
    obtain ⟨k, rfl⟩ := succ_of hk
    rw [laws_toNoteS.l0, if_neg (by omega)]
    rw [List.take_of_length_le (by omega), List.take_of_length_le (by omega)] at ht
    rw [ht]
  | succ d ih =>
    intro y k i hy hi hk ht
    obtain ⟨k, rfl⟩ := succ_of hk
    rw [laws_toNoteS.l0, if_pos (by omega), if_pos (by omega)]
    simp only [laws_toNote.f, Option.bind_some]
    rw [if_pos (by omega), w64 (by omega) (by omega)]
    have := ih (y.set i (cvN l[i])) k (i + 1) (by simpa using hy) (by omega) (by omega) (by
      rw [take_set_snoc _ _ _ (by omega), ht, List.take_succ_eq_append_getElem (by omega), List.map_append]
      rfl)
    rw [rdL_at (by omega), Int.toNat_natCast]
    exact this
theorem toN (l : List S104) (hn : l.length ≤ 1048576) (k : Nat) (hk : 1048577 ≤ k) : laws_toNoteS.f k l = some (l.map cvN) := by
  rw [laws_toNoteS.f, if_pos (by omega), if_pos (by omega)]
  exact toN_l0 l hn l.length _ k 0 (by simp) (by omega) (by omega) (by simp)
theorem eqN_l0 (d : Nat) : ∀ (x : List S102) (k i : Nat), x.length ≤ 4611686018427387904 → i + d = x.length → d < k → laws_eqNoteS.l0 k x x (i : Int) = some true := by
  induction d with
  | zero =>
    intro x k i hn hi hk
    obtain ⟨k, rfl⟩ := succ_of hk
    rw [laws_eqNoteS.l0, if_neg (by omega)]
  | succ d ih =>
    intro x k i hn hi hk
    obtain ⟨k, rfl⟩ := succ_of hk
    rw [laws_eqNoteS.l0, if_pos (by omega), if_pos (by omega), if_pos (by omega)]
    simp only [laws_eqNote.f, if_true, Option.bind_some]
    rw [w64 (by omega) (by omega)]
    exact ih x k (i + 1) hn (by omega) (by omega)
theorem eqN (x : List S102) (hn : x.length ≤ 4611686018427387904) (k : Nat) (hk : x.length < k) : laws_eqNoteS.f k x x = some true := by
  rw [laws_eqNoteS.f, if_pos rfl]
  exact eqN_l0 x.length x k 0 hn (by omega) hk
end Go.Proofs.YtlphcdophgkdpaaDoor.Pure
