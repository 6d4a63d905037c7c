/- Plain facts on the tests of names, minutes and items, in the reference and in the program. No condition. -/
import Derived.Test.YtlmeijlandogaaaDoorRx0
import Derived.Test.YtlmeijlandogaaaDoorRx1
import Derived.Test.YtlmeijlandogaaaDoorRx3
import Derived.Test.YtlmeijlandogaaaDoorRx4
import Derived.Test.YtlmeijlandogaaaDoorRx5
import Derived.Test.YtlmeijlandogaaaDoorRx7
import Derived.Test.YtlmeijlandogaaaDoorRx11
import Derived.Test.YtlmeijlandogaaaDoorRx12
import Derived.Test.YtlmeijlandogaaaDoorBaseR
namespace Go.Proofs.YtlmeijlandogaaaDoor.Pure
open Go.RowKit Go.Proofs.YtlmeijlandogaaaDoor.R Go.Proofs.YtlmeijlandogaaaDoorW.PrintWords Go.Proofs.YtlmeijlandogaaaDoorW.PrintLast
theorem loop_ne (s : ByteArray) (d : Nat) : ∀ (i : Nat) (r : List UInt8), r ≠ [] → s.size - i = d → ByteArray.toList.loop s i r ≠ [] := by
  induction d with
  | zero =>
    intro i r hr hi
    rw [ByteArray.toList.loop, if_neg (by omega)]
    simpa using hr
  | succ d ih =>
    intro i r hr hi
    rw [ByteArray.toList.loop, if_pos (by omega)]
    exact ih (i + 1) _ (by simp) (by omega)
theorem toList_nil (s : ByteArray) : s.toList = [] ↔ s.size = 0 := by
  rw [ByteArray.toList, ByteArray.toList.loop]
  by_cases h : 0 < s.size
  · rw [if_pos h]
    constructor
    · intro h2
      exact absurd h2 (loop_ne s (s.size - 1) 1 _ (by simp) rfl)
    · intro h2
      omega
  · rw [if_neg h]
    exact ⟨fun _ => by omega, fun _ => rfl⟩
def inB (a lo hi : Int) : Bool := decide (lo ≤ a ∧ a ≤ hi)
theorem specIn (a lo hi : Int) : spec_l00In.f a lo hi = some (inB a lo hi) := by
  unfold spec_l00In.f inB
  by_cases h : a ≥ lo
  · rw [if_pos h]; congr 1; rw [decide_eq_decide]; exact ⟨fun h2 => ⟨h, h2⟩, fun h2 => h2.2⟩
  · rw [if_neg h]; congr 1; symm; rw [decide_eq_false_iff_not]; exact fun h2 => h h2.1
theorem implIn (a lo hi : Int) : impl_within.f a lo hi = some (inB a lo hi) := specIn a lo hi
theorem inB_true {a lo hi : Int} : inB a lo hi = true ↔ lo ≤ a ∧ a ≤ hi := by simp [inB]
theorem inB_false {a lo hi : Int} : inB a lo hi = false ↔ ¬ (lo ≤ a ∧ a ≤ hi) := by simp [inB]
def chB (c : Int) : Bool := decide ((97 ≤ c ∧ c ≤ 122) ∨ (48 ≤ c ∧ c ≤ 57))
def chk (s : ByteArray) : Nat → Nat → Bool
  | 0, _ => true
  | d + 1, i => chB (bt s (i : Int)) && chk s d (i + 1)
theorem specName_l0 (s : ByteArray) (hn : s.size ≤ 10) (d : Nat) : ∀ (k i : Nat), i + d = s.size → d < k → spec_l01Name.l0 k s (i : Int) = some (chk s d i) := by
  induction d with
  | zero =>
    intro k i hi hk
    obtain ⟨k, rfl⟩ := succ_of hk
    rw [spec_l01Name.l0, if_neg (by omega)]
    rfl
  | succ d ih =>
    intro k i hi hk
    obtain ⟨k, rfl⟩ := succ_of hk
    rw [spec_l01Name.l0, if_pos (by omega), if_pos (by omega), w64 (by omega) (by omega)]
    have := ih k (i + 1) (by omega) (by omega)
    rw [show ((i : Int) + 1) = ((i + 1 : Nat) : Int) by omega, chk]
    simp only [spec_l01Small.f, spec_l01Digit.f, this]
    generalize bt s (i : Int) = c
    by_cases h1 : c ≥ 97 <;> by_cases h2 : c ≤ 122 <;> by_cases h3 : c ≥ 48 <;> by_cases h4 : c ≤ 57 <;> first | (exfalso; omega) | (simp [h1, h2, h3, h4, chB]; done) | (simp [h1, h2, h3, h4, chB]; omega)
theorem implName_l0 (s : ByteArray) (hn : s.size ≤ 10) (d : Nat) : ∀ (k i : Nat), i + d = s.size → d < k → impl_onlyNameBytes.l0 k s (s.size : Int) (i : Int) = some (chk s d i) := by
  induction d with
  | zero =>
    intro k i hi hk
    obtain ⟨k, rfl⟩ := succ_of hk
    rw [impl_onlyNameBytes.l0, if_neg (by omega)]
    rfl
  | succ d ih =>
    intro k i hi hk
    obtain ⟨k, rfl⟩ := succ_of hk
    rw [impl_onlyNameBytes.l0, if_pos (by omega), if_pos (by omega), if_pos (by omega), w64 (by omega) (by omega)]
    have := ih k (i + 1) (by omega) (by omega)
    rw [show ((i : Int) + 1) = ((i + 1 : Nat) : Int) by omega, chk]
    simp only [this]
    generalize bt s (i : Int) = c
    by_cases h1 : c < 97 <;> by_cases h2 : c > 122 <;> by_cases h3 : c < 48 <;> by_cases h4 : c > 57 <;> first | (exfalso; omega) | (rw [show chB c = true from by simp [chB]; omega]; simp [h1, h2, h3, h4]; done) | (rw [show chB c = false from by simp [chB]; omega]; simp [h1, h2, h3, h4]; done)
def nameB (s : ByteArray) : Bool := decide (1 ≤ s.size ∧ s.size ≤ 10) && decide (97 ≤ bt s 0 ∧ bt s 0 ≤ 122) && chk s s.size 0
theorem specName (s : ByteArray) (k : Nat) (hk : 12 ≤ k) : spec_l01Name.f k s = some (nameB s) := by
  obtain ⟨k, rfl⟩ := succ_of (show 0 < k by omega)
  have hj : ∀ b, spec_l01Name.j0 (k + 1) s b = if b = true then some false else spec_l01Name.l0 k s 0 := fun _ => rfl
  rw [spec_l01Name.f]
  simp only [toList_nil, hj]
  by_cases h0 : s.size = 0
  · rw [if_pos h0]
    simp [nameB, h0]
  · rw [if_neg h0]
    by_cases h1 : (s.size : Int) > 10
    · rw [if_pos h1]
      simp [nameB, show ¬ (s.size ≤ 10) by omega]
    · rw [if_neg h1, if_pos (by omega)]
      have h := specName_l0 s (by omega) s.size k 0 (by omega) (by omega)
      rw [show ((0 : Nat) : Int) = 0 from rfl] at h
      rw [nameB, decide_eq_true (p := 1 ≤ s.size ∧ s.size ≤ 10) (by omega)]
      simp only [spec_l01Small.f]
      generalize bt s 0 = c
      by_cases h2 : c ≥ 97 <;> by_cases h3 : c ≤ 122 <;> simp [h2, h3, h]
theorem implName (s : ByteArray) (k : Nat) (hk : 12 ≤ k) : impl_IsName.f k s = some (nameB s) := by
  rw [impl_IsName.f]
  by_cases h0 : s.size = 0
  · rw [if_pos (by omega)]
    simp [nameB, h0]
  · rw [if_neg (by omega)]
    by_cases h1 : (s.size : Int) > 10
    · rw [if_pos h1]
      simp [nameB, show ¬ (s.size ≤ 10) by omega]
    · rw [if_neg h1, if_pos (by omega), impl_onlyNameBytes.f]
      have h := implName_l0 s (by omega) s.size k 0 (by omega) (by omega)
      rw [show ((0 : Nat) : Int) = 0 from rfl] at h
      rw [nameB, decide_eq_true (p := 1 ≤ s.size ∧ s.size ≤ 10) (by omega), h]
      generalize bt s 0 = c
      by_cases h2 : c < 97 <;> by_cases h3 : c > 122 <;> first | (exfalso; omega) | (rw [show decide (97 ≤ c ∧ c ≤ 122) = true from by simp; omega]; simp [h2, h3]; done) | (rw [show decide (97 ≤ c ∧ c ≤ 122) = false from by simp; omega]; simp [h2, h3]; done)
def itB (s : ByteArray) (a b c d e : Int) : Bool := nameB s && inB a 0 1439 && inB b 0 1439 && decide (a ≠ b) && inB c (-1) 5 && inB d 1 240 && inB e 0 1000
theorem specOne (s : ByteArray) (a b c d e : Int) (k : Nat) (hk : 12 ≤ k) : spec_l08One.f k s a b c d e = some (itB s a b c d e) := by
  rw [spec_l08One.f, specName s k hk, itB]
  simp only [spec_l08Minute.f, specIn, Option.bind_some]
  by_cases h : a = b <;> cases nameB s <;> cases inB a 0 1439 <;> cases inB b 0 1439 <;> cases inB c (-1) 5 <;> cases inB d 1 240 <;> cases inB e 0 1000 <;> simp [h]
theorem implOne (s : ByteArray) (a b c d e : Int) (k : Nat) (hk : 12 ≤ k) : impl_ValidItem.f k s a b c d e = some (itB s a b c d e) := by
  rw [impl_ValidItem.f, implName s k hk, itB]
  simp only [impl_minuteOk.f, implIn, Option.bind_some]
  by_cases h : a = b <;> cases nameB s <;> cases inB a 0 1439 <;> cases inB b 0 1439 <;> cases inB c (-1) 5 <;> cases inB d 1 240 <;> cases inB e 0 1000 <;> simp [h]

end Go.Proofs.YtlmeijlandogaaaDoor.Pure
