/- Plain facts on where a phrase lies in a row of pitches, in the reference and in the program. No condition. -/
import Derived.Test.YtnnblnbepnfbhaaM2x0
import Derived.Test.YtnnblnbepnfbhaaM2x3
import Derived.Test.YtnnblnbepnfbhaaM2x4
import Derived.Test.YtnnblnbepnfbhaaM2x5
import Derived.Test.YtnnblnbepnfbhaaM2x6
import Derived.Test.YtnnblnbepnfbhaaM2x7
import Derived.Test.YtnnblnbepnfbhaaM2x8
import Derived.Test.YtnnblnbepnfbhaaM2x12
import Derived.Test.YtnnblnbepnfbhaaPBase
namespace Go.Proofs.Ytnnblnbepnfbhaa.Pure
open Go.RowKit Go.Proofs.Ytnnblnbepnfbhaa.M2 Go.Proofs.YtnnblnbepnfbhaaW.PrintWords Go.Proofs.YtnnblnbepnfbhaaW.PrintLast
def inB (a lo hi : Int) : Bool := decide (lo ≤ a ∧ a ≤ hi)
theorem specIn (a lo hi : Int) : spec_l00In.f a lo hi = some (inB a lo hi) := by
  unfold spec_l00In.f inB
  by_cases h : a ≥ lo
  · rw [if_pos h]; congr 1; rw [decide_eq_decide]; exact ⟨fun h2 => ⟨h, h2⟩, fun h2 => h2.2⟩
  · rw [if_neg h]; congr 1; symm; rw [decide_eq_false_iff_not]; exact fun h2 => h h2.1
def allP (x : List Int) : Bool := x.all (inB · (-12) 23)
theorem specPit (x : List Int) (hn : x.length ≤ 1048576) (k : Nat) (hk : x.length < k) : spec_l05Pitches.f k x = some (allP x && decide (x.length ≤ 64)) := by
  have h : ∀ (d k i : Nat), i + d = x.length → d < k → spec_l05Pitches.l0 k x (i : Int) = some ((x.drop i).all (inB · (-12) 23) && decide (x.length ≤ 64)) := by
    intro d
    induction d with
    | zero =>
      intro k i hi hk
      obtain ⟨k, rfl⟩ := succ_of hk
      rw [spec_l05Pitches.l0, if_neg (by omega), List.drop_eq_nil_of_le (by omega)]
      simp only [List.all_nil, Bool.true_and]
      congr 1
      rw [decide_eq_decide]
      omega
    | succ d ih =>
      intro k i hi hk
      obtain ⟨k, rfl⟩ := succ_of hk
      have hlt : i < x.length := by omega
      rw [spec_l05Pitches.l0, if_pos (by omega), if_pos (by omega), rd_at hlt, List.drop_eq_getElem_cons hlt, List.all_cons, w64 (by omega) (by omega), spec_l03Pitch.f, specIn, show ((i : Int) + 1) = ((i + 1 : Nat) : Int) by omega, ih k (i + 1) (by omega) (by omega)]
      cases inB x[i] (-12) 23 <;> simp
  rw [spec_l05Pitches.f]
  have := h x.length k 0 (by omega) hk
  simpa [allP] using this
def phr (y : List Int) : Bool := allP y && decide (2 ≤ y.length ∧ y.length ≤ 8)
theorem specPhr (y : List Int) (hn : y.length ≤ 1048576) (k : Nat) (hk : y.length < k) : spec_l06Phrase.f k y = some (phr y) := by
  rw [spec_l06Phrase.f, specPit y hn k hk, phr]
  simp only [Option.bind_some]
  by_cases h2 : 2 ≤ y.length
  · by_cases h3 : y.length ≤ 8
    · rw [if_pos (show (y.length : Int) ≥ 2 by omega), decide_eq_true (show (y.length : Int) ≤ 8 by omega), decide_eq_true (show y.length ≤ 64 by omega), decide_eq_true (show 2 ≤ y.length ∧ y.length ≤ 8 from ⟨h2, h3⟩)]
      cases allP y <;> rfl
    · rw [if_pos (show (y.length : Int) ≥ 2 by omega), decide_eq_false (show ¬ (y.length : Int) ≤ 8 by omega), decide_eq_false (show ¬ (2 ≤ y.length ∧ y.length ≤ 8) by omega)]
      cases allP y <;> cases decide (y.length ≤ 64) <;> rfl
  · rw [if_neg (show ¬ (y.length : Int) ≥ 2 by omega), decide_eq_false (show ¬ (2 ≤ y.length ∧ y.length ≤ 8) by omega)]
    cases allP y <;> cases decide (y.length ≤ 64) <;> rfl
theorem implAll (x : List Int) : impl_allWithin.f x (-12) 23 = some (allP x) := rfl
theorem implPhr (y : List Int) : impl_phraseOk.f y = some (phr y) := by
  rw [impl_phraseOk.f, implAll, phr]
  by_cases h2 : (y.length : Int) ≥ 2
  · rw [if_pos h2]
    by_cases h3 : (y.length : Int) ≤ 8
    · rw [if_pos h3, show decide (2 ≤ y.length ∧ y.length ≤ 8) = true from decide_eq_true (by omega)]
      cases allP y <;> rfl
    · rw [if_neg h3, show decide (2 ≤ y.length ∧ y.length ≤ 8) = false from decide_eq_false (by omega), Bool.and_false]
  · rw [if_neg h2, show decide (2 ≤ y.length ∧ y.length ≤ 8) = false from decide_eq_false (by omega), Bool.and_false]
def code (x y : List Int) : Int := if phr y = true then (if (allP x && decide (x.length ≤ 64)) = true then 0 else 7) else 1
theorem specAsk (x y : List Int) (hx : x.length ≤ 1048576) (hy : y.length ≤ 1048576) (k : Nat) (hk : 1048577 ≤ k) : spec_l06Ask.f k x y = some (code x y) := by
  rw [spec_l06Ask.f, specPhr y hy k (by omega), specPit x hx k (by omega), code]
  cases phr y <;> cases (allP x && decide (x.length ≤ 64)) <;> rfl
theorem implAsk (x y : List Int) : impl_phraseCode.f y x = some (code x y) := by
  rw [impl_phraseCode.f, implPhr, impl_pitchesOk.f, implAll, code]
  by_cases h : (x.length : Int) ≤ 64
  · rw [if_pos h, show decide (x.length ≤ 64) = true from decide_eq_true (by omega), Bool.and_true]
    cases phr y <;> cases allP x <;> rfl
  · rw [if_neg h, show decide (x.length ≤ 64) = false from decide_eq_false (by omega), Bool.and_false]
    cases phr y <;> rfl
theorem code_zero {x y : List Int} (h : code x y = 0) : x.length ≤ 64 ∧ 2 ≤ y.length ∧ y.length ≤ 8 := by
  unfold code at h
  cases h1 : phr y with
  | false => rw [h1] at h; simp at h
  | true =>
    rw [h1] at h
    cases h2 : (allP x && decide (x.length ≤ 64)) with
    | false => rw [h2] at h; simp at h
    | true =>
      rw [phr, Bool.and_eq_true, decide_eq_true_eq] at h1
      rw [Bool.and_eq_true, decide_eq_true_eq] at h2
      exact ⟨h2.2, h1.2⟩
def eqD (x y : List Int) (i : Nat) : Nat → Nat → Bool
  | 0, _ => true
  | d + 1, j => decide (rd x ((i + j : Nat) : Int) = rd y (j : Int)) && eqD x y i d (j + 1)
def occ (x y : List Int) (i : Nat) : Bool := decide (i + y.length ≤ x.length) && eqD x y i y.length 0
theorem specOcc (x y : List Int) (i : Nat) (hx : x.length ≤ 64) (hi : i ≤ 64) (hy : y.length ≤ 8) (k : Nat) (hk : 9 ≤ k) : spec_l06Occurs.f k x y (i : Int) = some (occ x y i) := by
  rw [spec_l06Occurs.f, occ, w64 (by omega) (by omega)]
  by_cases h : (i : Int) + (y.length : Int) > (x.length : Int)
  · rw [if_pos h, show decide (i + y.length ≤ x.length) = false from decide_eq_false (by omega), Bool.false_and]
  · rw [if_neg h, show decide (i + y.length ≤ x.length) = true from decide_eq_true (by omega), Bool.true_and]
    have g : ∀ (d k j : Nat), j + d = y.length → d < k → spec_l06Occurs.l0 k x y (i : Int) (j : Int) = some (eqD x y i d j) := by
      intro d
      induction d with
      | zero =>
        intro k j hj hk
        obtain ⟨k, rfl⟩ := succ_of hk
        rw [spec_l06Occurs.l0, if_neg (by omega), eqD]
      | succ d ih =>
        intro k j hj hk
        obtain ⟨k, rfl⟩ := succ_of hk
        rw [spec_l06Occurs.l0, if_pos (by omega), w64 (n := (i : Int) + (j : Int)) (by omega) (by omega), if_pos (by omega), if_pos (by omega), if_pos (by omega), w64 (by omega) (by omega), eqD, show ((j : Int) + 1) = ((j + 1 : Nat) : Int) by omega, ih k (j + 1) (by omega) (by omega), show (i : Int) + (j : Int) = ((i + j : Nat) : Int) by omega]
        by_cases e : rd x ((i + j : Nat) : Int) = rd y (j : Int)
        · rw [if_pos e, decide_eq_true e, Bool.true_and]
        · rw [if_neg e, decide_eq_false e, Bool.false_and]
    exact g y.length k 0 (by omega) (by omega)
theorem implEq (x y : List Int) (i : Nat) (hi : i + y.length ≤ x.length) (hy : y.length ≤ 8) (k : Nat) (hk : 9 ≤ k) : slices_Equal_int64_int64.f k ((x.take (i + y.length)).drop i) y = some (occ x y i) := by
  have hl : ((x.take (i + y.length)).drop i).length = y.length := by rw [List.length_drop, List.length_take]; omega
  rw [slices_Equal_int64_int64.f, if_pos (by omega), occ, show decide (i + y.length ≤ x.length) = true from decide_eq_true (by omega), Bool.true_and, hl]
  have g : ∀ (d k j : Nat), j + d = y.length → d < k → slices_Equal_int64_int64.l0 k ((x.take (i + y.length)).drop i) y (y.length : Int) (j : Int) = some (eqD x y i d j) := by
    intro d
    induction d with
    | zero =>
      intro k j hj hk
      obtain ⟨k, rfl⟩ := succ_of hk
      rw [slices_Equal_int64_int64.l0, if_neg (by omega), eqD]
    | succ d ih =>
      intro k j hj hk
      obtain ⟨k, rfl⟩ := succ_of hk
      have e1 : rd ((x.take (i + y.length)).drop i) (j : Int) = rd x ((i + j : Nat) : Int) := by
        rw [rd_at (by omega), rd_at (by omega), List.getElem_drop, List.getElem_take]
      rw [slices_Equal_int64_int64.l0, if_pos (by omega), if_pos (by omega), if_pos (by omega), if_pos (by omega), w64 (by omega) (by omega), eqD, show ((j : Int) + 1) = ((j + 1 : Nat) : Int) by omega, ih k (j + 1) (by omega) (by omega), e1]
      by_cases e : rd x ((i + j : Nat) : Int) = rd y (j : Int)
      · rw [if_pos e, decide_eq_true e, Bool.true_and]
      · rw [if_neg e, decide_eq_false e, Bool.false_and]
  exact g y.length k 0 (by omega) (by omega)
def occL (x y : List Int) : Nat → Nat → List Int
  | 0, _ => []
  | d + 1, i => if occ x y i = true then (i : Int) :: occL x y d (i + 1) else occL x y d (i + 1)
theorem occL_nil (x y : List Int) (d : Nat) : ∀ i, x.length < i + y.length → occL x y d i = [] := by
  induction d with
  | zero => intro i _; rfl
  | succ d ih =>
    intro i hi
    rw [occL, occ, show decide (i + y.length ≤ x.length) = false from decide_eq_false (by omega), Bool.false_and, if_neg (by simp), ih (i + 1) (by omega)]
theorem occL_len (x y : List Int) (d : Nat) : ∀ i, (occL x y d i).length ≤ d := by
  induction d with
  | zero => intro i; exact Nat.le_refl _
  | succ d ih =>
    intro i
    have := ih (i + 1)
    rw [occL]
    split
    · simp only [List.length_cons]; omega
    · omega
theorem implOccs (x y : List Int) (hx : x.length ≤ 64) (hy : y.length ≤ 8) (hy2 : 2 ≤ y.length) (k : Nat) (hk : 100 ≤ k) : impl_occurrences.f k x y = some (occL x y x.length 0) := by
  have g : ∀ (d k i : Nat) (a : List Int), i + d = x.length → d + 20 ≤ k → a.length ≤ i → impl_occurrences.l0 k x y a (i : Int) = some (a ++ occL x y d i) := by
    intro d
    induction d with
    | zero =>
      intro k i a hi hk ha
      obtain ⟨k, rfl⟩ := succ_of (show 0 < k by omega)
      rw [impl_occurrences.l0, w64 (n := (i : Int) + (y.length : Int)) (by omega) (by omega), if_neg (by omega), occL, List.append_nil]
    | succ d ih =>
      intro k i a hi hk ha
      obtain ⟨k, rfl⟩ := succ_of (show 0 < k by omega)
      by_cases c : i + y.length ≤ x.length
      · rw [impl_occurrences.l0, w64 (n := (i : Int) + (y.length : Int)) (by omega) (by omega), if_pos (by omega), if_pos (by omega), if_pos (by omega), show ((i : Int) + (y.length : Int)).toNat = i + y.length by omega, Int.toNat_natCast, implEq x y i c hy k (by omega), Option.bind_some, w64 (n := (i : Int) + 1) (by omega) (by omega), show ((i : Int) + 1) = ((i + 1 : Nat) : Int) by omega, occL]
        by_cases e : occ x y i = true
        · rw [if_pos e, if_pos (by omega), if_pos e, ih k (i + 1) (a ++ [(i : Int)]) (by omega) (by omega) (by simp; omega), List.append_assoc]
          rfl
        · rw [if_neg e, if_neg e, ih k (i + 1) a (by omega) (by omega) (by omega)]
      · rw [impl_occurrences.l0, w64 (n := (i : Int) + (y.length : Int)) (by omega) (by omega), if_neg (by omega), occL_nil x y (d + 1) i (by omega), List.append_nil]
  exact g x.length k 0 [] (by omega) (by omega) (by simp)
theorem specFind (x y : List Int) (hx : x.length ≤ 64) (hy : y.length ≤ 8) (k : Nat) (hk : 100 ≤ k) : spec_l06Find.f k x y = some (occL x y x.length 0) := by
  have g : ∀ (d k i : Nat) (a : List Int), i + d = x.length → d + 20 ≤ k → a.length ≤ i → spec_l06Find.l0 k x y a (i : Int) = some (a ++ occL x y d i) := by
    intro d
    induction d with
    | zero =>
      intro k i a hi hk ha
      obtain ⟨k, rfl⟩ := succ_of (show 0 < k by omega)
      rw [spec_l06Find.l0, if_neg (by omega), occL, List.append_nil]
    | succ d ih =>
      intro k i a hi hk ha
      obtain ⟨k, rfl⟩ := succ_of (show 0 < k by omega)
      rw [spec_l06Find.l0, if_pos (by omega), specOcc x y i hx (by omega) hy k (by omega), Option.bind_some, w64 (n := (i : Int) + 1) (by omega) (by omega), show ((i : Int) + 1) = ((i + 1 : Nat) : Int) by omega, occL]
      by_cases e : occ x y i = true
      · rw [if_pos e, if_pos (by omega), if_pos e, ih k (i + 1) (a ++ [(i : Int)]) (by omega) (by omega) (by simp; omega), List.append_assoc]
        rfl
      · rw [if_neg e, if_neg e, ih k (i + 1) a (by omega) (by omega) (by omega)]
  exact g x.length k 0 [] (by omega) (by omega) (by simp)

end Go.Proofs.Ytnnblnbepnfbhaa.Pure
