/- A melody that is checked at the end: what the reference and the program answer; a list whose elements are changed one after another. No condition. -/
import Derived.Test.YtnpifkjbnkfiaaaMx0
import Derived.Test.YtnpifkjbnkfiaaaMx2
import Derived.Test.YtnpifkjbnkfiaaaMx6
import Derived.Test.YtnpifkjbnkfiaaaMel
namespace Go.Proofs.Ytnpifkjbnkfiaaa.Pure
open Go.RowKit Go.Proofs.Ytnpifkjbnkfiaaa.M Go.Proofs.YtnpifkjbnkfiaaaW.PrintWords Go.Proofs.YtnpifkjbnkfiaaaW.PrintLast
def doneN (x : List S52) : List S52 × Int := if x.all noteOk = true then (if x.length > 48 then ([], 5) else (x, 0)) else ([], 6)
theorem doneN_len (x : List S52) : (doneN x).1.length ≤ 48 := by
  unfold doneN
  split
  · split
    · simp
    · simp only; omega
  · simp
theorem implDone (x : List S52) : impl_checkedMelody.f x = some (doneN x) := by
  have e : ∀ y : S52, nOk y = noteOk y := fun _ => rfl
  unfold impl_checkedMelody.f doneN
  rw [show x.all nOk = x.all noteOk from by congr 1]
  split
  · split <;> rfl
  · rfl
theorem specDone_l0 (x : List S52) (hn : x.length ≤ 1048576) (d : Nat) : ∀ (k i : Nat), i + d = x.length → d < k → spec_l09Done.l0 k x (i : Int) = some (if (x.drop i).all noteOk = true then (if x.length > 48 then ([], 5) else (x, 0)) else ([], 6)) := by
  induction d with
  | zero =>
    intro k i hi hk
    obtain ⟨k, rfl⟩ := succ_of hk
    rw [spec_l09Done.l0, if_neg (by omega), List.drop_eq_nil_of_le (by omega)]
    by_cases c : x.length > 48
    · rw [if_pos (by omega), if_pos (by rfl), if_pos c]
    · rw [if_neg (by omega), if_pos (by rfl), if_neg c]
  | succ d ih =>
    intro k i hi hk
    obtain ⟨k, rfl⟩ := succ_of hk
    have hlt : i < x.length := by omega
    rw [spec_l09Done.l0, if_pos (by omega), if_pos (by omega), rdN_at hlt, List.drop_eq_getElem_cons hlt, List.all_cons, w64 (by omega) (by omega)]
    have := ih k (i + 1) (by omega) (by omega)
    rw [show ((i : Int) + 1) = ((i + 1 : Nat) : Int) by omega]
    simp only [specPitch, specLen, Option.bind_some, this, noteOk]
    by_cases h1 : inB x[i].f0 (-12) 23 = true <;> by_cases h2 : inB x[i].f1 1 64 = true <;> simp [h1, h2]
theorem specDone (x : List S52) (hn : x.length ≤ 1048576) (k : Nat) (hk : 1048577 ≤ k) : spec_l09Done.f k x = some (doneN x) := by
  rw [spec_l09Done.f]
  have := specDone_l0 x hn x.length k 0 (by omega) (by omega)
  rw [List.drop_zero] at this
  exact this
theorem specOwn (x : List S52) (hn : x.length ≤ 1048576) : spec_l09Own.f x = some x := by
  rw [spec_l09Own.f, Option.bind_some, if_pos (by simp; omega)]
  rfl
/-- A list of which the first i elements are changed. -/
def part {α : Type} (g : α → α) (m : List α) (i : Nat) : List α := (m.take i).map g ++ m.drop i
theorem part_zero {α : Type} (g : α → α) (m : List α) : part g m 0 = m := by simp [part]
theorem part_all {α : Type} (g : α → α) (m : List α) : part g m m.length = m.map g := by simp [part]
theorem part_len {α : Type} (g : α → α) (m : List α) (i : Nat) (h : i ≤ m.length) : (part g m i).length = m.length := by simp [part]; omega
theorem part_at {α : Type} (g : α → α) (m : List α) (i : Nat) (h : i < m.length) (h2 : i < (part g m i).length) : (part g m i)[i] = m[i] := by
  simp only [part]
  rw [List.getElem_append_right (by simp; omega)]
  simp [List.length_take, Nat.min_eq_left (Nat.le_of_lt h)]
theorem part_set {α : Type} (g : α → α) (m : List α) (i : Nat) (h : i < m.length) : (part g m i).set i (g m[i]) = part g m (i + 1) := by
  simp only [part]
  rw [List.set_append_right _ _ (by simp; omega), List.take_succ_eq_append_getElem h, List.map_append, List.append_assoc]
  congr 1
  rw [List.length_map, List.length_take, Nat.min_eq_left (Nat.le_of_lt h), Nat.sub_self, List.drop_eq_getElem_cons h]
  rfl
theorem okN_all {m : List S52} (h : okN m = true) : m.all noteOk = true := by
  simp only [okN, Bool.and_eq_true] at h
  exact h.1

end Go.Proofs.Ytnpifkjbnkfiaaa.Pure
