/- Plain facts on scales and on forbidden pairs, in the reference and in the program. No condition. -/
import Derived.Test.YtijbhcalknfijaaM7x0
import Derived.Test.YtijbhcalknfijaaM7x7
import Derived.Test.YtijbhcalknfijaaM7x12
import Derived.Test.YtijbhcalknfijaaM7x19
import Derived.Test.YtijbhcalknfijaaM7x25
import Derived.Test.YtijbhcalknfijaaRNm7
namespace Go.Proofs.Ytijbhcalknfijaa.Pure
open Go.RowKit Go.Proofs.Ytijbhcalknfijaa.M7 Go.Proofs.YtijbhcalknfijaaW.PrintWords Go.Proofs.YtijbhcalknfijaaW.PrintLast
def riB (l : List Int) : Nat → Nat → Bool
  | 0, _ => true
  | d + 1, i => inB (rd l (i : Int)) 0 11 && (if i = 0 then true else decide (rd l ((i - 1 : Nat) : Int) < rd l (i : Int))) && riB l d (i + 1)
def icB (l : List Int) : Nat → Nat → Bool
  | 0, _ => true
  | d + 1, i => decide (rd l ((i - 1 : Nat) : Int) < rd l (i : Int)) && icB l d (i + 1)
theorem specRi_l0 (l : List Int) (hn : l.length ≤ 1048576) (d : Nat) : ∀ (k i : Nat), i + d = l.length → d < k → spec_l00Rises.l0 k l 0 11 (i : Int) = some (riB l d i) := by
  induction d with
  | zero =>
    intro k i hi hk
    obtain ⟨k, rfl⟩ := succ_of hk
    rw [spec_l00Rises.l0, if_neg (by omega)]
    rfl
  | succ d ih =>
    intro k i hi hk
    obtain ⟨k, rfl⟩ := succ_of hk
    have := ih k (i + 1) (by omega) (by omega)
    rw [spec_l00Rises.l0, if_pos (by omega), if_pos (by omega), w64 (show -9223372036854775808 ≤ (i : Int) + 1 by omega) (by omega), show ((i : Int) + 1) = ((i + 1 : Nat) : Int) by omega, this, specIn, Option.bind_some, riB]
    cases inB (rd l (i : Int)) 0 11
    · simp
    · by_cases h0 : i = 0
      · subst h0
        simp
      · rw [if_pos rfl, if_pos (show (i : Int) > 0 by omega), w64 (by omega) (by omega), if_pos (by omega), if_pos (by omega), show ((i : Int) - 1) = ((i - 1 : Nat) : Int) by omega]
        simp only [if_neg h0, Bool.true_and]
        by_cases c : rd l ((i - 1 : Nat) : Int) ≥ rd l (i : Int)
        · simp [c, show ¬ (rd l ((i - 1 : Nat) : Int) < rd l (i : Int)) by omega]
        · simp [c, show (rd l ((i - 1 : Nat) : Int) < rd l (i : Int)) by omega]
theorem implIc_l0 (l : List Int) (hn : l.length ≤ 1048576) (d : Nat) : ∀ (k i : Nat), 1 ≤ i → i + d = l.length → d < k → impl_increasing.l0 k l (i : Int) = some (icB l d i) := by
  induction d with
  | zero =>
    intro k i h1 hi hk
    obtain ⟨k, rfl⟩ := succ_of hk
    rw [impl_increasing.l0, if_neg (by omega)]
    rfl
  | succ d ih =>
    intro k i h1 hi hk
    obtain ⟨k, rfl⟩ := succ_of hk
    have := ih k (i + 1) (by omega) (by omega) (by omega)
    rw [impl_increasing.l0, if_pos (by omega), if_pos (by omega), w64 (show -9223372036854775808 ≤ (i : Int) - 1 by omega) (by omega), w64 (show -9223372036854775808 ≤ (i : Int) + 1 by omega) (by omega), if_pos (by omega), if_pos (by omega), show ((i : Int) + 1) = ((i + 1 : Nat) : Int) by omega, show ((i : Int) - 1) = ((i - 1 : Nat) : Int) by omega, this, icB]
    by_cases c : rd l (i : Int) ≤ rd l ((i - 1 : Nat) : Int)
    · simp [c, show ¬ (rd l ((i - 1 : Nat) : Int) < rd l (i : Int)) by omega]
    · simp [c, show (rd l ((i - 1 : Nat) : Int) < rd l (i : Int)) by omega]
theorem riB_true (l : List Int) (d : Nat) : ∀ i, riB l d i = true ↔ ∀ j, i ≤ j → j < i + d → (0 ≤ rd l (j : Int) ∧ rd l (j : Int) ≤ 11) ∧ (0 < j → rd l ((j - 1 : Nat) : Int) < rd l (j : Int)) := by
  induction d with
  | zero => intro i; simp only [riB, true_iff]; intro j h1 h2; omega
  | succ d ih =>
    intro i
    rw [riB, Bool.and_eq_true, Bool.and_eq_true, ih (i + 1), inB_true]
    constructor
    · rintro ⟨⟨h1, h2⟩, h3⟩ j hj hk
      by_cases e : j = i
      · subst e
        refine ⟨h1, fun h0 => ?_⟩
        rw [if_neg (by omega)] at h2
        exact of_decide_eq_true h2
      · exact h3 j (by omega) (by omega)
    · intro h
      have h0 := h i (Nat.le_refl _) (by omega)
      refine ⟨⟨h0.1, ?_⟩, fun j h1 h2 => h j (by omega) (by omega)⟩
      split
      · rfl
      · exact decide_eq_true (h0.2 (by omega))
theorem icB_true (l : List Int) (d : Nat) : ∀ i, icB l d i = true ↔ ∀ j, i ≤ j → j < i + d → rd l ((j - 1 : Nat) : Int) < rd l (j : Int) := by
  induction d with
  | zero => intro i; simp only [icB, true_iff]; intro j h1 h2; omega
  | succ d ih =>
    intro i
    rw [icB, Bool.and_eq_true, ih (i + 1), decide_eq_true_iff]
    constructor
    · rintro ⟨h1, h3⟩ j hj hk
      by_cases e : j = i
      · subst e
        exact h1
      · exact h3 j (by omega) (by omega)
    · intro h
      exact ⟨h i (Nat.le_refl _) (by omega), fun j h1 h2 => h j (by omega) (by omega)⟩
theorem up_of (f : Nat → Int) (n : Nat) (h : ∀ j, 1 ≤ j → j < n → f (j - 1) < f j) (d : Nat) : ∀ a, a + d < n → f a ≤ f (a + d) := by
  induction d with
  | zero => intro a _; simp
  | succ d ih =>
    intro a ha
    have h1 := ih a (by omega)
    have h2 := h (a + d + 1) (by omega) (by omega)
    rw [Nat.add_sub_cancel] at h2
    rw [show a + (d + 1) = a + d + 1 by omega]
    omega
def scB (l : List Int) : Bool := decide (5 ≤ l.length) && riB l l.length 0 && decide (rd l 0 = 0)
theorem specSc (l : List Int) (hn : l.length ≤ 1048576) (k : Nat) (hk : 1048577 ≤ k) : spec_l03Scale.f k l = some (scB l) := by
  rw [spec_l03Scale.f, scB]
  by_cases h : (l.length : Int) ≥ 5
  · have e := specRi_l0 l hn l.length k 0 (by omega) (by omega)
    rw [if_pos h, spec_l00Rises.f, show spec_l00Rises.l0 k l 0 11 0 = _ from e, Option.bind_some, decide_eq_true (show 5 ≤ l.length by omega)]
    cases riB l l.length 0
    · simp
    · rw [if_pos rfl, if_pos (by omega)]
      simp only [Bool.true_and]
      congr 1
  · rw [if_neg h, decide_eq_false (show ¬ 5 ≤ l.length by omega)]
    simp
theorem implSc (l : List Int) (hn : l.length ≤ 1048576) (k : Nat) (hk : 1048577 ≤ k) : impl_ValidScale.f k l = some (scB l) := by
  rw [impl_ValidScale.f, scB]
  by_cases h : (l.length : Int) ≥ 5
  · have e := implIc_l0 l hn (l.length - 1) k 1 (by omega) (by omega) (by omega)
    rw [if_pos h, if_pos (by omega), decide_eq_true (show 5 ≤ l.length by omega)]
    by_cases h0 : rd l 0 = 0
    · rw [if_pos h0, impl_increasing.f, show impl_increasing.l0 k l 1 = _ from e, Option.bind_some, decide_eq_true h0, Bool.true_and, Bool.and_true]
      by_cases hi : icB l (l.length - 1) 1 = true
      · rw [if_pos hi, w64 (by omega) (by omega), if_pos (by omega), if_pos (by omega)]
        congr 1
        rw [Bool.eq_iff_iff, decide_eq_true_iff, riB_true]
        have hi2 := (icB_true l _ 1).1 hi
        have hi3 : ∀ j, 1 ≤ j → j < l.length → rd l (((j - 1 : Nat) : Nat) : Int) < rd l ((j : Nat) : Int) := fun j h1 h2 => hi2 j h1 (by omega)
        have up := up_of (fun j => rd l (j : Int)) l.length hi3
        rw [show ((l.length : Int) - 1) = ((l.length - 1 : Nat) : Int) by omega]
        constructor
        · intro hl j _ hj
          have u1 := up j 0 (by omega)
          have u2 := up (l.length - 1 - j) j (by omega)
          rw [show j + (l.length - 1 - j) = l.length - 1 by omega] at u2
          rw [Nat.zero_add] at u1
          rw [show ((0 : Nat) : Int) = 0 from rfl] at u1
          exact ⟨⟨by omega, by omega⟩, fun hp => hi2 j hp (by omega)⟩
        · intro hh
          have := (hh (l.length - 1) (by omega) (by omega)).1.2
          omega
      · rw [if_neg hi]
        congr 1
        symm
        rw [← Bool.not_eq_true, riB_true]
        intro hh
        exact hi ((icB_true l _ 1).2 fun j h1 h2 => (hh j (by omega) (by omega)).2 (by omega))
    · rw [if_neg h0, decide_eq_false h0]
      simp
  · rw [if_neg h, decide_eq_false (show ¬ 5 ≤ l.length by omega)]
    simp
def prB (p : List Int) : Bool := decide (p.length = 2) && inB (rd p 0) 0 11 && inB (rd p 1) 0 11 && decide (rd p 0 ≠ rd p 1)
theorem specPair (p : List Int) : spec_l05Pair.f p = some (prB p) := by
  rw [spec_l05Pair.f, prB]
  by_cases h : (p.length : Int) = 2
  · rw [if_pos h, if_pos (by omega), specIn, specIn, if_pos (by omega), decide_eq_true (show p.length = 2 by omega)]
    simp only [Option.bind_some]
    cases inB (rd p 0) 0 11 <;> cases inB (rd p 1) 0 11 <;> simp
    by_cases e : rd p 0 = rd p 1 <;> simp [e]
  · rw [if_neg h, decide_eq_false (show ¬ p.length = 2 by omega)]
    simp
def ltB (p q : List Int) : Bool := decide (rd p 0 < rd q 0 ∨ (rd p 0 = rd q 0 ∧ rd p 1 < rd q 1))
theorem implCmp (a b : Int) : cmp_Compare_int64.f a b = some (if a < b then -1 else if a > b then 1 else 0) := by
  simp only [cmp_Compare_int64.f, cmp_isNaN_int64.f, Option.bind_some, bne_self_eq_false]
  by_cases h : a < b
  · simp [h]
  · by_cases h2 : a > b <;> simp [h, h2]
theorem implCompare (p q : List Int) (hp : p.length = 2) (hq : q.length = 2) (k : Nat) (hk : 5 ≤ k) : ∃ c, slices_Compare_int64_int64.f k p q = some c ∧ decide (c ≥ 0) = !ltB p q := by
  obtain ⟨k, rfl⟩ : ∃ m, k = m + 3 := ⟨k - 3, by omega⟩
  have w1 : wrap64 (0 + 1) = 1 := w64 (by omega) (by omega)
  have w2 : wrap64 (1 + 1) = 2 := w64 (by omega) (by omega)
  rw [slices_Compare_int64_int64.f, slices_Compare_int64_int64.l0, slices_Compare_int64_int64.l0, slices_Compare_int64_int64.l0]
  simp only [hp, hq, w1, w2, implCmp, Option.bind_some, ltB]
  by_cases h1 : rd p 0 < rd q 0
  · exact ⟨-1, by simp [h1], by simp [h1]⟩
  · by_cases h2 : rd p 0 > rd q 0
    · exact ⟨1, by simp [h1, h2], by simp [h1]; omega⟩
    · have h3 : rd p 0 = rd q 0 := by omega
      by_cases h4 : rd p 1 < rd q 1
      · exact ⟨-1, by simp [h3, h4], by simp [h3, h4]⟩
      · by_cases h5 : rd p 1 > rd q 1
        · exact ⟨1, by simp [h3, h4, h5], by simp [h3]; omega⟩
        · exact ⟨0, by simp [h3, h4, h5], by simp [h3]; omega⟩
def psB (l : List (List Int)) : Nat → Nat → Bool
  | 0, _ => true
  | d + 1, i => prB (rd_L2 l (i : Int)) && (if i = 0 then true else ltB (rd_L2 l ((i - 1 : Nat) : Int)) (rd_L2 l (i : Int))) && psB l d (i + 1)
theorem prB_len {p : List Int} (h : prB p = true) : p.length = 2 := by
  simp only [prB, Bool.and_eq_true, decide_eq_true_eq] at h
  exact h.1.1.1
theorem gt_lt (p q : List Int) : gtB p q = !ltB p q := by
  rw [Bool.eq_iff_iff]
  simp only [gtB, ltB, decide_eq_true_eq, Bool.not_eq_true', decide_eq_false_iff_not]
  omega
theorem specPs_l0 (l : List (List Int)) (hn : l.length ≤ 1048576) (d : Nat) : ∀ (k i : Nat), i + d = l.length → d < k → (0 < i → prB (rd_L2 l ((i - 1 : Nat) : Int)) = true) → spec_l05Pairs.l0 k l i = some (psB l d i && decide (l.length ≤ 8)) := by
  induction d with
  | zero =>
    intro k i hi hk hp
    obtain ⟨k, rfl⟩ := succ_of hk
    rw [spec_l05Pairs.l0, if_neg (by omega), psB, Bool.true_and]
    congr 1
    rw [decide_eq_decide]
    omega
  | succ d ih =>
    intro k i hi hk hp
    obtain ⟨k, rfl⟩ := succ_of hk
    rw [spec_l05Pairs.l0, if_pos (by omega), specPair, Option.bind_some, psB]
    cases hb : prB (rd_L2 l (i : Int))
    · simp
    · have e := ih k (i + 1) (by omega) (by omega) (fun _ => by rw [Nat.add_sub_cancel]; exact hb)
      rw [if_pos rfl, e]
      by_cases h0 : i = 0
      · rw [if_pos h0, if_pos h0, Bool.true_and, Bool.true_and]
      · rw [if_neg h0, if_neg h0, if_pos ⟨prB_len (hp (by omega)), prB_len hb⟩, gt_lt, Bool.true_and]
        cases ltB (rd_L2 l ((i - 1 : Nat) : Int)) (rd_L2 l (i : Int)) <;> simp
theorem toneIn (a : Int) : impl_toneOk.f a = some (inB a 0 11) := by
  rw [impl_toneOk.f, implIn]
  rfl
theorem implPs_l0 (nm : ByteArray) (u dn : List Int) (st wk : Int) (l : List (List Int)) (hn : l.length ≤ 1048576) (d : Nat) : ∀ (k i : Nat), i + d = l.length → d + 5 < k → (0 < i → prB (rd_L2 l ((i - 1 : Nat) : Int)) = true) → impl_ValidRaga.l0 k l (l.length : Int) (i : Int) nm u dn st wk l = some (psB l d i) := by
  induction d with
  | zero =>
    intro k i hi hk hp
    obtain ⟨k, rfl⟩ := succ_of (show 0 < k by omega)
    rw [impl_ValidRaga.l0, if_neg (by omega)]
    rfl
  | succ d ih =>
    intro k i hi hk hp
    obtain ⟨k, rfl⟩ := succ_of (show 0 < k by omega)
    rw [impl_ValidRaga.l0, if_pos (by omega), if_pos (by omega), if_pos (by omega), psB, w64 (show -9223372036854775808 ≤ (i : Int) + 1 by omega) (by omega), show ((i : Int) + 1) = ((i + 1 : Nat) : Int) by omega]
    cases hb : prB (rd_L2 l (i : Int))
    · rw [Bool.false_and, Bool.false_and]
      simp only [toneIn, Option.bind_some]
      unfold prB at hb
      by_cases h2 : ((rd_L2 l (i : Int)).length : Int) = 2
      · rw [if_pos h2, if_pos (by omega), if_pos (show (1 : Int) < _ by omega)]
        rw [decide_eq_true (show (rd_L2 l (i : Int)).length = 2 by omega)] at hb
        cases h3 : inB (rd (rd_L2 l (i : Int)) 0) 0 11
        · simp
        · cases h4 : inB (rd (rd_L2 l (i : Int)) 1) 0 11
          · simp
          · rw [h3, h4] at hb
            have h5 : rd (rd_L2 l (i : Int)) 0 = rd (rd_L2 l (i : Int)) 1 := by simpa using hb
            simp [h5]
      · rw [if_neg h2]
    · have e := ih k (i + 1) (by omega) (by omega) (fun _ => by rw [Nat.add_sub_cancel]; exact hb)
      have h2 := prB_len hb
      simp only [prB, Bool.and_eq_true, decide_eq_true_eq] at hb
      obtain ⟨⟨⟨_, h3⟩, h4⟩, h5⟩ := hb
      rw [if_pos (by omega), if_pos (by omega), toneIn, toneIn, h3, h4, Option.bind_some, if_pos rfl, if_pos (by omega), Option.bind_some, if_pos rfl, if_neg h5, e]
      by_cases h0 : i = 0
      · subst h0
        simp
      · have h6 := prB_len (hp (by omega))
        obtain ⟨c, ec, hc⟩ := implCompare (rd_L2 l ((i - 1 : Nat) : Int)) (rd_L2 l (i : Int)) h6 h2 k (by omega)
        rw [if_pos (by omega), w64 (by omega) (by omega), if_pos (by omega), if_pos (by omega), show ((i : Int) - 1) = ((i - 1 : Nat) : Int) by omega, ec, Option.bind_some, if_neg h0, Bool.true_and]
        by_cases h7 : c ≥ 0
        · rw [if_pos h7]
          rw [decide_eq_true h7] at hc
          rw [show ltB (rd_L2 l ((i - 1 : Nat) : Int)) (rd_L2 l (i : Int)) = false by simpa using hc.symm]
          rfl
        · rw [if_neg h7]
          rw [decide_eq_false h7] at hc
          rw [show ltB (rd_L2 l ((i - 1 : Nat) : Int)) (rd_L2 l (i : Int)) = true by simpa using hc.symm]
          rfl
def okR (nm : ByteArray) (u d : List Int) (st wk : Int) (fb : List (List Int)) : Bool := nameB nm && scB u && scB d && toneL u d st && toneL u d wk && decide (st ≠ wk) && (psB fb fb.length 0 && decide (fb.length ≤ 8))
theorem specOkR (nm : ByteArray) (u d : List Int) (st wk : Int) (fb : List (List Int)) (hu : u.length ≤ 1048576) (hd : d.length ≤ 1048576) (hf : fb.length ≤ 1048576) (k : Nat) (hk : 1048600 ≤ k) : spec_l05Ok.f k nm u d st wk fb = some (okR nm u d st wk fb) := by
  have e := specPs_l0 fb hf fb.length k 0 (by omega) (by omega) (by omega)
  rw [spec_l05Ok.f, specName nm k (by omega), specSc u hu k (by omega), specSc d hd k (by omega), specTone nm u d st wk fb st hu hd k (by omega), specTone nm u d st wk fb wk hu hd k (by omega), spec_l05Pairs.f, show spec_l05Pairs.l0 k fb 0 = _ from e, okR]
  simp only [Option.bind_some]
  cases nameB nm <;> cases scB u <;> cases scB d <;> cases toneL u d st <;> cases toneL u d wk <;> simp
  by_cases c : st = wk <;> simp [c]
theorem implOkR (nm : ByteArray) (u d : List Int) (st wk : Int) (fb : List (List Int)) (hu : u.length ≤ 1048576) (hd : d.length ≤ 1048576) (hf : fb.length ≤ 1048576) (k : Nat) (hk : 1048600 ≤ k) : impl_ValidRaga.f k nm u d st wk fb = some (okR nm u d st wk fb) := by
  obtain ⟨m, rfl⟩ := succ_of (show 0 < k by omega)
  have e := implPs_l0 nm u d st wk fb hf fb.length m 0 (by omega) (by omega) (by omega)
  have hj : ∀ b, impl_ValidRaga.j0 (m + 1) b nm u d st wk fb = if b = true then some false else impl_ValidRaga.l0 m fb (fb.length : Int) 0 nm u d st wk fb := fun _ => rfl
  rw [impl_ValidRaga.f, implName nm _ (by omega), implSc u hu _ (by omega), implSc d hd _ (by omega), implTone nm u d st wk fb st hu hd _ (by omega), implTone nm u d st wk fb wk hu hd _ (by omega), okR]
  simp only [hj, show impl_ValidRaga.l0 m fb (fb.length : Int) 0 nm u d st wk fb = _ from e, Option.bind_some]
  cases nameB nm <;> cases scB u <;> cases scB d <;> simp
  by_cases c : st = wk
  · simp [c]
  · simp only [c, if_false, decide_false, Bool.not_false, Bool.and_true]
    cases toneL u d st <;> cases toneL u d wk <;> simp
    by_cases c8 : fb.length ≤ 8
    · simp [c8, show ¬ (8 < (fb.length : Int)) by omega]
    · simp [c8, show (8 < (fb.length : Int)) by omega]
theorem psB_true (l : List (List Int)) (d : Nat) : ∀ i, psB l d i = true → ∀ j, i ≤ j → j < i + d → prB (rd_L2 l (j : Int)) = true := by
  induction d with
  | zero => intro i _ j h1 h2; omega
  | succ d ih =>
    intro i h j h1 h2
    rw [psB, Bool.and_eq_true, Bool.and_eq_true] at h
    by_cases e : j = i
    · subst e; exact h.1.1
    · exact ih (i + 1) h.2 j (by omega) (by omega)
theorem two_of (l : List (List Int)) (h : psB l l.length 0 = true) : two l = true := by
  rw [two, List.all_eq_true]
  intro p hp
  obtain ⟨j, hj, rfl⟩ := List.getElem_of_mem hp
  have := prB_len (psB_true l _ 0 h j (by omega) (by omega))
  simp only [rd_L2, Int.toNat_natCast, List.getD_eq_getElem?_getD, List.getElem?_eq_getElem hj, Option.getD_some] at this
  simp [this]
theorem okR_two {nm : ByteArray} {u d : List Int} {st wk : Int} {fb : List (List Int)} (h : okR nm u d st wk fb = true) : two fb = true ∧ fb.length ≤ 8 := by
  simp only [okR, Bool.and_eq_true, decide_eq_true_eq] at h
  exact ⟨two_of fb h.2.1, h.2.2⟩

end Go.Proofs.Ytijbhcalknfijaa.Pure
