/- Plain facts on the tests of names and on members of a list, in the reference and in the program. No condition. -/
import Derived.Test.YtijbhcalknfijaaM7x0
import Derived.Test.YtijbhcalknfijaaM7x7
import Derived.Test.YtijbhcalknfijaaM7x12
import Derived.Test.YtijbhcalknfijaaM7x19
import Derived.Test.YtijbhcalknfijaaBase7
namespace Go.Proofs.Ytijbhcalknfijaa.Pure
open Go.RowKit Go.Proofs.Ytijbhcalknfijaa.M7 Go.Proofs.YtijbhcalknfijaaW.PrintWords Go.Proofs.YtijbhcalknfijaaW.PrintLast
theorem loop_ne (s : ByteArray) (d : Nat) : ∀ (i : Nat) (r : List UInt8), r ≠ [] → s.size - i = d → ByteArray.toList.loop s i r ≠ [] := by
  induction d with
  | zero =>
    intro i r hr hi
    rw [ByteArray.toList.loop, if_neg (by omega)]
    simpa using hr
  | succ d ih =>
    intro i r hr hi
    rw [ByteArray.toList.loop, if_pos (by omega)]
    exact ih (i + 1) _ (by simp) (by omega)
theorem toList_nil (s : ByteArray) : s.toList = [] ↔ s.size = 0 := by
  rw [ByteArray.toList, ByteArray.toList.loop]
  by_cases h : 0 < s.size
  · rw [if_pos h]
    constructor
    · intro h2
      exact absurd h2 (loop_ne s (s.size - 1) 1 _ (by simp) rfl)
    · intro h2
      omega
  · rw [if_neg h]
    exact ⟨fun _ => by omega, fun _ => rfl⟩
def inB (a lo hi : Int) : Bool := decide (lo ≤ a ∧ a ≤ hi)
theorem specIn (a lo hi : Int) : spec_l00In.f a lo hi = some (inB a lo hi) := by
  unfold spec_l00In.f inB
  by_cases h : a ≥ lo
  · rw [if_pos h]; congr 1; rw [decide_eq_decide]; exact ⟨fun h2 => ⟨h, h2⟩, fun h2 => h2.2⟩
  · rw [if_neg h]; congr 1; symm; rw [decide_eq_false_iff_not]; exact fun h2 => h h2.1
theorem implIn (a lo hi : Int) : impl_within.f a lo hi = some (inB a lo hi) := specIn a lo hi
theorem inB_true {a lo hi : Int} : inB a lo hi = true ↔ lo ≤ a ∧ a ≤ hi := by simp [inB]
theorem inB_false {a lo hi : Int} : inB a lo hi = false ↔ ¬ (lo ≤ a ∧ a ≤ hi) := by simp [inB]
def chB (c : Int) : Bool := decide ((97 ≤ c ∧ c ≤ 122) ∨ (48 ≤ c ∧ c ≤ 57))
def chk (s : ByteArray) : Nat → Nat → Bool
  | 0, _ => true
  | d + 1, i => chB (bt s (i : Int)) && chk s d (i + 1)
theorem specName_l0 (s : ByteArray) (hn : s.size ≤ 10) (d : Nat) : ∀ (k i : Nat), i + d = s.size → d < k → spec_l01Name.l0 k s (i : Int) = some (chk s d i) := by
  induction d with
  | zero =>
    intro k i hi hk
    obtain ⟨k, rfl⟩ := succ_of hk
    rw [spec_l01Name.l0, if_neg (by omega)]
    rfl
  | succ d ih =>
    intro k i hi hk
    obtain ⟨k, rfl⟩ := succ_of hk
    rw [spec_l01Name.l0, if_pos (by omega), if_pos (by omega), w64 (by omega) (by omega)]
    have := ih k (i + 1) (by omega) (by omega)
    rw [show ((i : Int) + 1) = ((i + 1 : Nat) : Int) by omega, chk]
    simp only [spec_l01Small.f, spec_l01Digit.f, this]
    generalize bt s (i : Int) = c
    by_cases h1 : c ≥ 97 <;> by_cases h2 : c ≤ 122 <;> by_cases h3 : c ≥ 48 <;> by_cases h4 : c ≤ 57 <;> first | (exfalso; omega) | (simp [h1, h2, h3, h4, chB]; done) | (simp [h1, h2, h3, h4, chB]; omega)
theorem implName_l0 (s : ByteArray) (hn : s.size ≤ 10) (d : Nat) : ∀ (k i : Nat), i + d = s.size → d < k → impl_onlyNameBytes.l0 k s (s.size : Int) (i : Int) = some (chk s d i) := by
  induction d with
  | zero =>
    intro k i hi hk
    obtain ⟨k, rfl⟩ := succ_of hk
    rw [impl_onlyNameBytes.l0, if_neg (by omega)]
    rfl
  | succ d ih =>
    intro k i hi hk
    obtain ⟨k, rfl⟩ := succ_of hk
    rw [impl_onlyNameBytes.l0, if_pos (by omega), if_pos (by omega), if_pos (by omega), w64 (by omega) (by omega)]
    have := ih k (i + 1) (by omega) (by omega)
    rw [show ((i : Int) + 1) = ((i + 1 : Nat) : Int) by omega, chk]
    simp only [this]
    generalize bt s (i : Int) = c
    by_cases h1 : c < 97 <;> by_cases h2 : c > 122 <;> by_cases h3 : c < 48 <;> by_cases h4 : c > 57 <;> first | (exfalso; omega) | (rw [show chB c = true from by simp [chB]; omega]; simp [h1, h2, h3, h4]; done) | (rw [show chB c = false from by simp [chB]; omega]; simp [h1, h2, h3, h4]; done)
def nameB (s : ByteArray) : Bool := decide (1 ≤ s.size ∧ s.size ≤ 10) && decide (97 ≤ bt s 0 ∧ bt s 0 ≤ 122) && chk s s.size 0
theorem specName (s : ByteArray) (k : Nat) (hk : 12 ≤ k) : spec_l01Name.f k s = some (nameB s) := by
  obtain ⟨k, rfl⟩ := succ_of (show 0 < k by omega)
  have hj : ∀ b, spec_l01Name.j0 (k + 1) s b = if b = true then some false else spec_l01Name.l0 k s 0 := fun _ => rfl
  rw [spec_l01Name.f]
  simp only [toList_nil, hj]
  by_cases h0 : s.size = 0
  · rw [if_pos h0]
    simp [nameB, h0]
  · rw [if_neg h0]
    by_cases h1 : (s.size : Int) > 10
    · rw [if_pos h1]
      simp [nameB, show ¬ (s.size ≤ 10) by omega]
    · rw [if_neg h1, if_pos (by omega)]
      have h := specName_l0 s (by omega) s.size k 0 (by omega) (by omega)
      rw [show ((0 : Nat) : Int) = 0 from rfl] at h
      rw [nameB, decide_eq_true (p := 1 ≤ s.size ∧ s.size ≤ 10) (by omega)]
      simp only [spec_l01Small.f]
      generalize bt s 0 = c
      by_cases h2 : c ≥ 97 <;> by_cases h3 : c ≤ 122 <;> simp [h2, h3, h]
theorem implName (s : ByteArray) (k : Nat) (hk : 12 ≤ k) : impl_IsName.f k s = some (nameB s) := by
  rw [impl_IsName.f]
  by_cases h0 : s.size = 0
  · rw [if_pos (by omega)]
    simp [nameB, h0]
  · rw [if_neg (by omega)]
    by_cases h1 : (s.size : Int) > 10
    · rw [if_pos h1]
      simp [nameB, show ¬ (s.size ≤ 10) by omega]
    · rw [if_neg h1, if_pos (by omega), impl_onlyNameBytes.f]
      have h := implName_l0 s (by omega) s.size k 0 (by omega) (by omega)
      rw [show ((0 : Nat) : Int) = 0 from rfl] at h
      rw [nameB, decide_eq_true (p := 1 ≤ s.size ∧ s.size ≤ 10) (by omega), h]
      generalize bt s 0 = c
      by_cases h2 : c < 97 <;> by_cases h3 : c > 122 <;> first | (exfalso; omega) | (rw [show decide (97 ≤ c ∧ c ≤ 122) = true from by simp; omega]; simp [h2, h3]; done) | (rw [show decide (97 ≤ c ∧ c ≤ 122) = false from by simp; omega]; simp [h2, h3]; done)
/-- Members. -/
def hasL (f : List Int) (s : Int) : Bool := f.any (· == s)
theorem hasL_cons (a : Int) (l : List Int) (s : Int) : hasL (a :: l) s = (a == s || hasL l s) := rfl
theorem has_i0 (f : List Int) (s : Int) (hn : f.length ≤ 1048576) (d : Nat) : ∀ (k i : Nat), i + d = f.length → d < k → ∃ r : Int, slices_Index_int64_int64.l0 k f s (f.length : Int) (i : Int) = some r ∧ decide (r ≥ 0) = hasL (f.drop i) s := by
  induction d with
  | zero =>
    intro k i hi hk
    obtain ⟨k, rfl⟩ := succ_of hk
    rw [slices_Index_int64_int64.l0, if_neg (by omega), List.drop_eq_nil_of_le (by omega)]
    exact ⟨-1, rfl, rfl⟩
  | succ d ih =>
    intro k i hi hk
    obtain ⟨k, rfl⟩ := succ_of hk
    have hlt : i < f.length := by omega
    obtain ⟨r, e2, e3⟩ := ih k (i + 1) (by omega) (by omega)
    rw [slices_Index_int64_int64.l0]
    simp only [if_pos (show (i : Int) < (f.length : Int) by omega), if_pos (show (0 : Int) ≤ (i : Int) by omega)]
    rw [rd_at hlt, w64 (by omega) (by omega), show ((i : Int) + 1) = ((i + 1 : Nat) : Int) by omega, e2, List.drop_eq_getElem_cons hlt, hasL_cons]
    by_cases c : f[i] = s
    · rw [if_pos c.symm]
      refine ⟨(i : Int), rfl, ?_⟩
      simp [c]
    · rw [if_neg (fun e => c e.symm)]
      refine ⟨r, rfl, ?_⟩
      rw [e3]
      simp [c]
theorem implCont (f : List Int) (s : Int) (hn : f.length ≤ 1048576) (k : Nat) (hk : 1048577 ≤ k) : slices_Contains_int64_int64.f k f s = some (hasL f s) := by
  obtain ⟨r, e2, e3⟩ := has_i0 f s hn f.length k 0 (by omega) (by omega)
  rw [List.drop_zero] at e3
  rw [slices_Contains_int64_int64.f, slices_Index_int64_int64.f, show slices_Index_int64_int64.l0 k f s (f.length : Int) 0 = _ from e2, Option.bind_some, e3]
theorem specHas_l0 (f : List Int) (s : Int) (hn : f.length ≤ 1048576) (d : Nat) : ∀ (k i : Nat), i + d = f.length → d < k → spec_l00Has.l0 k f s (i : Int) = some (hasL (f.drop i) s) := by
  induction d with
  | zero =>
    intro k i hi hk
    obtain ⟨k, rfl⟩ := succ_of hk
    rw [spec_l00Has.l0, if_neg (by omega), List.drop_eq_nil_of_le (by omega)]
    rfl
  | succ d ih =>
    intro k i hi hk
    obtain ⟨k, rfl⟩ := succ_of hk
    have hlt : i < f.length := by omega
    rw [spec_l00Has.l0, if_pos (by omega), if_pos (by omega), rd_at hlt, w64 (by omega) (by omega), show ((i : Int) + 1) = ((i + 1 : Nat) : Int) by omega, ih k (i + 1) (by omega) (by omega), List.drop_eq_getElem_cons hlt, hasL_cons]
    by_cases c : f[i] = s
    · rw [if_pos c]
      simp [c]
    · rw [if_neg c]
      simp [c]
theorem specHas (f : List Int) (s : Int) (hn : f.length ≤ 1048576) (k : Nat) (hk : 1048577 ≤ k) : spec_l00Has.f k f s = some (hasL f s) := by
  have h := specHas_l0 f s hn f.length k 0 (by omega) (by omega)
  rw [List.drop_zero] at h
  exact h
def toneL (u d : List Int) (x : Int) : Bool := hasL u x || hasL d x
theorem specTone (nm : ByteArray) (u d : List Int) (st wk : Int) (fb : List (List Int)) (x : Int) (hu : u.length ≤ 1048576) (hd : d.length ≤ 1048576) (k : Nat) (hk : 1048577 ≤ k) : spec_l05Tone.f k nm u d st wk fb x = some (toneL u d x) := by
  rw [spec_l05Tone.f, specHas u x hu k hk, specHas d x hd k hk, toneL]
  cases hasL u x <;> simp
theorem implTone (nm : ByteArray) (u d : List Int) (st wk : Int) (fb : List (List Int)) (x : Int) (hu : u.length ≤ 1048576) (hd : d.length ≤ 1048576) (k : Nat) (hk : 1048577 ≤ k) : impl_Raga_hasTone.f k nm u d st wk fb x = some (toneL u d x) := by
  rw [impl_Raga_hasTone.f, implCont u x hu k hk, implCont d x hd k hk, toneL]
  cases hasL u x <;> simp

end Go.Proofs.Ytijbhcalknfijaa.Pure
