/- Plain facts on the tests of pitches, lengths and melodies, in the reference and in the program. No condition. -/
import Derived.Test.YtlmeijlandogaaaGreatDoorRx0
import Derived.Test.YtlmeijlandogaaaGreatDoorRx4
import Derived.Test.YtlmeijlandogaaaGreatDoorRx6
import Derived.Test.YtlmeijlandogaaaGreatDoorRx8
import Derived.Test.YtlmeijlandogaaaGreatDoorRx9
import Derived.Test.YtlmeijlandogaaaGreatDoorRx10
import Derived.Test.YtlmeijlandogaaaGreatDoorBaseR
namespace Go.Proofs.YtlmeijlandogaaaGreatDoor.Pure
open Go.RowKit Go.Proofs.YtlmeijlandogaaaGreatDoor.R Go.Proofs.YtlmeijlandogaaaGreatDoorW.PrintWords Go.Proofs.YtlmeijlandogaaaGreatDoorW.PrintLast
def inB (a lo hi : Int) : Bool := decide (lo ≤ a ∧ a ≤ hi)
theorem specIn (a lo hi : Int) : spec_l00In.f a lo hi = some (inB a lo hi) := by
  unfold spec_l00In.f inB
  by_cases h : a ≥ lo
  · rw [if_pos h]; congr 1; rw [decide_eq_decide]; exact ⟨fun h2 => ⟨h, h2⟩, fun h2 => h2.2⟩
  · rw [if_neg h]; congr 1; symm; rw [decide_eq_false_iff_not]; exact fun h2 => h h2.1
theorem implIn (a lo hi : Int) : impl_within.f a lo hi = some (inB a lo hi) := specIn a lo hi
theorem specPitch (a : Int) : spec_l03Pitch.f a = some (inB a (-12) 23) := by unfold spec_l03Pitch.f; rw [specIn]; rfl
theorem implPitch (a : Int) : impl_pitchOk.f a = some (inB a (-12) 23) := by unfold impl_pitchOk.f; rw [implIn]; rfl
theorem specLen (a : Int) : spec_l09Length.f a = some (inB a 1 64) := by unfold spec_l09Length.f; rw [specIn]; rfl
theorem implLen (a : Int) : impl_lengthOk.f a = some (inB a 1 64) := by unfold impl_lengthOk.f; rw [implIn]; rfl
theorem inB_true {a lo hi : Int} : inB a lo hi = true ↔ lo ≤ a ∧ a ≤ hi := by simp [inB]
theorem inB_false {a lo hi : Int} : inB a lo hi = false ↔ ¬ (lo ≤ a ∧ a ≤ hi) := by simp [inB]
def noteOk (x : S34) : Bool := inB x.f0 (-12) 23 && inB x.f1 1 64
def okN (m : List S34) : Bool := m.all noteOk && decide (m.length ≤ 48)
theorem specOk_l0 (x : List S34) (hn : x.length ≤ 1048576) (d : Nat) : ∀ (k i : Nat), i + d = x.length → d < k → spec_l09Ok.l0 k x (i : Int) = some ((x.drop i).all noteOk && decide (x.length ≤ 48)) := by
  induction d with
  | zero =>
    intro k i hi hk
    obtain ⟨k, rfl⟩ := succ_of hk
    rw [spec_l09Ok.l0, if_neg (by omega), List.drop_eq_nil_of_le (by omega)]
    simp only [List.all_nil, Bool.true_and]
    congr 1
    rw [decide_eq_decide]
    omega
  | succ d ih =>
    intro k i hi hk
    obtain ⟨k, rfl⟩ := succ_of hk
    have hlt : i < x.length := by omega
    rw [spec_l09Ok.l0, if_pos (by omega), if_pos (by omega), rdN_at hlt, List.drop_eq_getElem_cons hlt, List.all_cons, w64 (by omega) (by omega)]
    have := ih k (i + 1) (by omega) (by omega)
    rw [show ((i : Int) + 1) = ((i + 1 : Nat) : Int) by omega]
    simp only [specPitch, specLen, Option.bind_some, this, noteOk]
    cases inB x[i].f0 (-12) 23 <;> cases inB x[i].f1 1 64 <;> simp
theorem specOk (x : List S34) (hn : x.length ≤ 1048576) (k : Nat) (hk : 1048577 ≤ k) : spec_l09Ok.f k x = some (okN x) := by
  rw [spec_l09Ok.f]
  have := specOk_l0 x hn x.length k 0 (by omega) (by omega)
  simpa [okN] using this
theorem implOk_l0 (x : List S34) (hn : x.length ≤ 1048576) (d : Nat) : ∀ (k i : Nat), i + d = x.length → d < k → impl_ValidMelody.l0 k x (x.length : Int) (i : Int) = some ((x.drop i).all noteOk) := by
  induction d with
  | zero =>
    intro k i hi hk
    obtain ⟨k, rfl⟩ := succ_of hk
    rw [impl_ValidMelody.l0, if_neg (by omega), List.drop_eq_nil_of_le (by omega)]
    rfl
  | succ d ih =>
    intro k i hi hk
    obtain ⟨k, rfl⟩ := succ_of hk
    have hlt : i < x.length := by omega
    rw [impl_ValidMelody.l0, if_pos (by omega), if_pos (by omega), if_pos (by omega), rdN_at hlt, List.drop_eq_getElem_cons hlt, List.all_cons, w64 (by omega) (by omega)]
    have := ih k (i + 1) (by omega) (by omega)
    rw [show ((i : Int) + 1) = ((i + 1 : Nat) : Int) by omega]
    simp only [implPitch, implLen, Option.bind_some, this, noteOk]
    cases inB x[i].f0 (-12) 23 <;> cases inB x[i].f1 1 64 <;> simp
theorem implOk (x : List S34) (hn : x.length ≤ 1048576) (k : Nat) (hk : 1048577 ≤ k) : impl_ValidMelody.f k x = some (okN x) := by
  rw [impl_ValidMelody.f]
  by_cases h : (x.length : Int) > 48
  · rw [if_pos h]
    have : decide (x.length ≤ 48) = false := by rw [decide_eq_false_iff_not]; omega
    simp [okN, this]
  · rw [if_neg h]
    have := implOk_l0 x hn x.length k 0 (by omega) (by omega)
    have h2 : decide (x.length ≤ 48) = true := by rw [decide_eq_true_iff]; omega
    simpa [okN, h2] using this
theorem okN_len {m : List S34} (h : okN m = true) : m.length ≤ 48 := by
  simp only [okN, Bool.and_eq_true, decide_eq_true_eq] at h
  exact h.2
theorem okN_at {m : List S34} (h : okN m = true) {x : S34} (hx : x ∈ m) : -12 ≤ x.f0 ∧ x.f0 ≤ 23 ∧ 1 ≤ x.f1 ∧ x.f1 ≤ 64 := by
  simp only [okN, Bool.and_eq_true, List.all_eq_true] at h
  have := h.1 x hx
  simp only [noteOk, Bool.and_eq_true, inB_true] at this
  exact ⟨this.1.1, this.1.2, this.2.1, this.2.2⟩

end Go.Proofs.YtlmeijlandogaaaGreatDoor.Pure
