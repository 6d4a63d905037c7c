/- Plain facts on grammars: the tests of the reference and of the program are one; the laws' own helpers on grammars. No condition. -/
import Derived.Test.YteljnbhbpidjpaaGx0
import Derived.Test.YteljnbhbpidjpaaGx1
import Derived.Test.YteljnbhbpidjpaaGx4
import Derived.Test.YteljnbhbpidjpaaGx9
import Derived.Test.YteljnbhbpidjpaaGx10
import Derived.Test.YteljnbhbpidjpaaGx11
import Derived.Test.YteljnbhbpidjpaaGx14
import Derived.Test.YteljnbhbpidjpaaGx18
import Derived.Test.YteljnbhbpidjpaaGx19
import Derived.Test.YteljnbhbpidjpaaGx20
import Derived.Test.YteljnbhbpidjpaaBaseG
import Derived.Test.YteljnbhbpidjpaaToG
namespace Go.Proofs.Yteljnbhbpidjpaa.Pure
open Go.RowKit Go.Proofs.Yteljnbhbpidjpaa.G Go.Proofs.YteljnbhbpidjpaaW.PrintWords Go.Proofs.YteljnbhbpidjpaaW.PrintLast
def inB (a lo hi : Int) : Bool := decide (lo ≤ a ∧ a ≤ hi)
theorem specIn (a lo hi : Int) : spec_l00In.f a lo hi = some (inB a lo hi) := by
  unfold spec_l00In.f inB
  by_cases h : a ≥ lo
  · rw [if_pos h]; congr 1; rw [decide_eq_decide]; exact ⟨fun h2 => ⟨h, h2⟩, fun h2 => h2.2⟩
  · rw [if_neg h]; congr 1; symm; rw [decide_eq_false_iff_not]; exact fun h2 => h h2.1
theorem implIn (a lo hi : Int) : impl_within.f a lo hi = some (inB a lo hi) := specIn a lo hi
theorem specPitch (a : Int) : spec_l03Pitch.f a = some (inB a (-12) 23) := by unfold spec_l03Pitch.f; rw [specIn]; rfl
theorem implPitch (a : Int) : impl_pitchOk.f a = some (inB a (-12) 23) := by unfold impl_pitchOk.f; rw [implIn]; rfl
theorem inB_true {a lo hi : Int} : inB a lo hi = true ↔ lo ≤ a ∧ a ≤ hi := by simp [inB]
theorem inB_false {a lo hi : Int} : inB a lo hi = false ↔ ¬ (lo ≤ a ∧ a ≤ hi) := by simp [inB]
theorem bIn_eq (a lo hi : Int) : bIn a lo hi = inB a lo hi := by
  rw [Bool.eq_iff_iff, inB_true]; simp [bIn]
theorem rdA_at {x : List S68} {j : Nat} (h : j < x.length) : rd_T68 x (j : Int) = x[j] := by
  simp [rd_T68, List.getD_eq_getElem?_getD, List.getElem?_eq_getElem h]
theorem rdLA_at {x : List S84} {j : Nat} (h : j < x.length) : rd_T84 x (j : Int) = x[j] := by
  simp [rd_T84, List.getD_eq_getElem?_getD, List.getElem?_eq_getElem h]
/-- The test. -/
def okA (s : Int) (x : S68) : Bool := inB x.f0 0 (s - 1) && inB x.f1 (-12) 23 && inB x.f2 0 (s - 1)
def ordA (a b : S68) : Bool := decide (a.f0 < b.f0 ∨ (a.f0 = b.f0 ∧ a.f1 < b.f1))
def arcsB (s : Int) (l : List S68) : Nat → Nat → Bool
  | 0, _ => true
  | d + 1, i => okA s (rd_T68 l (i : Int)) && (decide (i = 0) || ordA (rd_T68 l ((i : Int) - 1)) (rd_T68 l (i : Int))) && arcsB s l d (i + 1)
def riseB (l : List Int) (lo hi : Int) : Nat → Nat → Bool
  | 0, _ => true
  | d + 1, i => inB (rd l (i : Int)) lo hi && (decide (i = 0) || decide (rd l ((i : Int) - 1) < rd l (i : Int))) && riseB l lo hi d (i + 1)
def incB (l : List Int) : Nat → Nat → Bool
  | 0, _ => true
  | d + 1, i => decide (rd l ((i : Int) - 1) < rd l (i : Int)) && incB l d (i + 1)
def okG (s t : Int) (f : List Int) (l : List S68) : Bool := inB s 1 32 && inB t 0 (s - 1) && riseB f 0 (s - 1) f.length 0 && decide (l.length ≤ 256) && arcsB s l l.length 0
theorem specRises_l0 (l : List Int) (lo hi : Int) (hn : l.length ≤ 1048576) (d : Nat) : ∀ (k i : Nat), i + d = l.length → d < k → spec_l00Rises.l0 k l lo hi (i : Int) = some (riseB l lo hi d i) := by
  induction d with
  | zero =>
    intro k i hi hk
    obtain ⟨k, rfl⟩ := succ_of hk
    rw [spec_l00Rises.l0, if_neg (by omega), riseB]
  | succ d ih =>
    intro k i hi2 hk
    obtain ⟨k, rfl⟩ := succ_of hk
    have e := ih k (i + 1) (by omega) (by omega)
    rw [spec_l00Rises.l0, if_pos (by omega), if_pos (by omega), specIn, Option.bind_some, riseB, w64 (n := (i : Int) + 1) (by omega) (by omega), show ((i : Int) + 1) = ((i + 1 : Nat) : Int) by omega, e, w64 (n := (i : Int) - 1) (by omega) (by omega)]
    by_cases c : inB (rd l (i : Int)) lo hi = true
    · rw [if_pos c, c, Bool.true_and]
      by_cases z : i = 0
      · rw [if_neg (by omega), decide_eq_true z, Bool.true_or, Bool.true_and]
      · rw [if_pos (by omega), if_pos (by omega), if_pos (by omega), decide_eq_false z, Bool.false_or]
        by_cases y : rd l ((i : Int) - 1) < rd l (i : Int)
        · rw [if_neg (by omega), decide_eq_true y, Bool.true_and]
        · rw [if_pos (by omega), decide_eq_false y, Bool.false_and]
    · rw [if_neg c]
      rw [Bool.not_eq_true] at c
      rw [c, Bool.false_and, Bool.false_and]
theorem implInc_l0 (l : List Int) (hn : l.length ≤ 1048576) (d : Nat) : ∀ (k i : Nat), 1 ≤ i → (i + d = l.length ∨ d = 0 ∧ l.length ≤ i) → d < k → impl_increasing.l0 k l (i : Int) = some (incB l d i) := by
  induction d with
  | zero =>
    intro k i h1 hi hk
    obtain ⟨k, rfl⟩ := succ_of hk
    rw [impl_increasing.l0, if_neg (by omega), incB]
  | succ d ih =>
    intro k i h1 hi hk
    obtain ⟨k, rfl⟩ := succ_of hk
    have e := ih k (i + 1) (by omega) (by omega) (by omega)
    rw [impl_increasing.l0, if_pos (by omega), if_pos (by omega), w64 (n := (i : Int) - 1) (by omega) (by omega), if_pos (by omega), if_pos (by omega), incB, w64 (n := (i : Int) + 1) (by omega) (by omega), show ((i : Int) + 1) = ((i + 1 : Nat) : Int) by omega, e]
    by_cases y : rd l ((i : Int) - 1) < rd l (i : Int)
    · rw [if_neg (by omega), decide_eq_true y, Bool.true_and]
    · rw [if_pos (by omega), decide_eq_false y, Bool.false_and]
theorem rise_from (l : List Int) (lo hi : Int) (d : Nat) : ∀ i, 1 ≤ i → i + d = l.length → riseB l lo hi d i = (incB l d i && (l.drop i).all (bIn · lo hi)) := by
  induction d with
  | zero => intro i h1 h2; rw [riseB, incB, List.drop_eq_nil_of_le (by omega)]; rfl
  | succ d ih =>
    intro i h1 h2
    have hlt : i < l.length := by omega
    rw [riseB, incB, ih (i + 1) (by omega) (by omega), List.drop_eq_getElem_cons hlt, List.all_cons, bIn_eq, rd_at hlt, decide_eq_false (show ¬ i = 0 by omega), Bool.false_or]
    generalize inB l[i] lo hi = a
    generalize decide (rd l ((i : Int) - 1) < l[i]) = b
    generalize incB l d (i + 1) = c
    cases a <;> cases b <;> cases c <;> simp
theorem rise_all (l : List Int) (lo hi : Int) : riseB l lo hi l.length 0 = (incB l (l.length - 1) 1 && l.all (bIn · lo hi)) := by
  by_cases h : l.length = 0
  · obtain rfl := List.length_eq_zero_iff.1 h
    rfl
  · obtain ⟨n, hn⟩ : ∃ n, l.length = n + 1 := ⟨l.length - 1, by omega⟩
    have hlt : 0 < l.length := by omega
    have e : l = l[0] :: l.drop 1 := by
      have := List.drop_eq_getElem_cons hlt
      rw [List.drop_zero] at this
      exact this
    have hr : rd l ((0 : Nat) : Int) = l[0] := rd_at hlt
    rw [hn, riseB, rise_from l lo hi n 1 (by omega) (by omega), Nat.add_sub_cancel, decide_eq_true (show (0 : Nat) = 0 from rfl), Bool.true_or, Bool.and_true, hr]
    conv => rhs; rhs; rw [e]
    rw [List.all_cons, bIn_eq]
    generalize inB l[0] lo hi = a
    generalize incB l n 1 = b
    cases a <;> cases b <;> simp
theorem orL (k : Nat) (x y : Int) : cmp_Or_int.f (k + 3) [x, y] = some (if x = 0 then y else x) := by
  have r0 : rd [x, y] 0 = x := rfl
  have r1 : rd [x, y] 1 = y := rfl
  have hl : (([x, y] : List Int).length : Int) = 2 := rfl
  rw [cmp_Or_int.f, hl, cmp_Or_int.l0, if_pos (by omega), if_pos (by omega), if_pos (by rw [hl]; omega), r0, w64 (n := (0 : Int) + 1) (by omega) (by omega), show (0 : Int) + 1 = 1 from rfl]
  by_cases h : x = 0
  · rw [if_pos h, if_pos h, cmp_Or_int.l0, if_pos (by omega), if_pos (by omega), if_pos (by rw [hl]; omega), r1, w64 (n := (1 : Int) + 1) (by omega) (by omega), show (1 : Int) + 1 = 2 from rfl]
    by_cases g : y = 0
    · rw [if_pos g, cmp_Or_int.l0, if_neg (by omega), g]
    · rw [if_neg g]
  · rw [if_neg h, if_neg h]
theorem cmpA (k : Nat) (hk : 3 ≤ k) (a b : S68) : impl_compareArcs.f k a.f0 a.f1 a.f2 b.f0 b.f1 b.f2 = some (if a.f0 < b.f0 then -1 else if a.f0 > b.f0 then 1 else if a.f1 < b.f1 then -1 else if a.f1 > b.f1 then 1 else 0) := by
  obtain ⟨k, rfl⟩ : ∃ j, k = j + 3 := ⟨k - 3, by omega⟩
  have c : ∀ x y : Int, cmp_Compare_int64.f x y = some (if x < y then -1 else if x > y then 1 else 0) := by
    intro x y
    simp only [cmp_Compare_int64.f, cmp_isNaN_int64.f, Option.bind_some, bne_self_eq_false, Bool.false_eq_true, if_false]
    split
    · rfl
    · split <;> rfl
  rw [impl_compareArcs.f, c, Option.bind_some, c, Option.bind_some, orL, Option.bind_some]
  by_cases h1 : a.f0 < b.f0
  · simp [h1]
  · by_cases h2 : a.f0 > b.f0
    · simp [h1, h2]
    · simp [h1, h2]
theorem cmp_neg (a b : S68) : (if a.f0 < b.f0 then (-1 : Int) else if a.f0 > b.f0 then 1 else if a.f1 < b.f1 then -1 else if a.f1 > b.f1 then 1 else 0) ≥ 0 ↔ ordA a b = false := by
  unfold ordA
  rw [decide_eq_false_iff_not]
  split
  · constructor
    · intro h; omega
    · intro h; exact absurd (Or.inl (by assumption)) h
  · split
    · constructor
      · intro h; omega
      · intro h; omega
    · split
      · constructor
        · intro h; omega
        · intro h; exact absurd (Or.inr ⟨by omega, by assumption⟩) h
      · split <;> constructor <;> intro h <;> omega
theorem specArcs_l0 (s t : Int) (f : List Int) (l : List S68) (hs : 1 ≤ s ∧ s ≤ 32) (hn : l.length ≤ 1048576) (d : Nat) : ∀ (k i : Nat), i + d = l.length → 2 * d < k → spec_l07Ok.l0 k (i : Int) s t f l = some (arcsB s l d i) := by
  induction d with
  | zero =>
    intro k i hi hk
    obtain ⟨k, rfl⟩ := succ_of hk
    rw [spec_l07Ok.l0, if_neg (by omega), arcsB]
  | succ d ih =>
    intro k i hi hk
    obtain ⟨k, rfl⟩ : ∃ j, k = j + 2 := ⟨k - 2, by omega⟩
    have e := ih k (i + 1) (by omega) (by omega)
    rw [spec_l07Ok.l0, if_pos (by omega), if_pos (by omega)]
    simp only [specIn, specPitch, Option.bind_some]
    rw [w64 (n := s - 1) (by omega) (by omega), arcsB]
    have j2 : spec_l07Ok.j2 (k + 1) (i : Int) false s t f l (rd_T68 l (i : Int)).f0 (rd_T68 l (i : Int)).f1 (rd_T68 l (i : Int)).f2 = some ((decide (i = 0) || ordA (rd_T68 l ((i : Int) - 1)) (rd_T68 l (i : Int))) && arcsB s l d (i + 1)) := by
      rw [spec_l07Ok.j2, if_neg (by decide), w64 (n := (i : Int) + 1) (by omega) (by omega), show ((i : Int) + 1) = ((i + 1 : Nat) : Int) by omega, e, w64 (n := (i : Int) - 1) (by omega) (by omega)]
      by_cases z : i = 0
      · rw [if_neg (by omega), decide_eq_true z, Bool.true_or, Bool.true_and]
      · rw [if_pos (by omega), if_pos (by omega), if_pos (by omega), decide_eq_false z, Bool.false_or]
        generalize rd_T68 l ((i : Int) - 1) = a
        generalize rd_T68 l (i : Int) = b
        unfold ordA
        by_cases h1 : a.f0 > b.f0
        · rw [if_pos h1, decide_eq_false (by omega), Bool.false_and]
        · rw [if_neg h1]
          by_cases h2 : a.f0 = b.f0
          · rw [if_pos h2]
            by_cases h3 : a.f1 ≥ b.f1
            · rw [if_pos h3, decide_eq_false (by omega), Bool.false_and]
            · rw [if_neg h3, decide_eq_true (by omega), Bool.true_and]
          · rw [if_neg h2, decide_eq_true (by omega), Bool.true_and]
    have j2f : spec_l07Ok.j2 (k + 1) (i : Int) true s t f l (rd_T68 l (i : Int)).f0 (rd_T68 l (i : Int)).f1 (rd_T68 l (i : Int)).f2 = some false := by
      rw [spec_l07Ok.j2, if_pos rfl]
    unfold okA
    by_cases c1 : inB (rd_T68 l (i : Int)).f0 0 (s - 1) = true
    · by_cases c2 : inB (rd_T68 l (i : Int)).f1 (-12) 23 = true
      · by_cases c3 : inB (rd_T68 l (i : Int)).f2 0 (s - 1) = true
        · rw [if_pos c1, if_pos c2, c1, c2, c3, Bool.not_true, j2]
          simp
        · rw [Bool.not_eq_true] at c3
          rw [if_pos c1, if_pos c2, c1, c2, c3, Bool.not_false, j2f]
          simp
      · rw [if_pos c1, if_neg c2, j2f]
        rw [Bool.not_eq_true] at c2
        simp [c2]
    · rw [if_neg c1, j2f]
      rw [Bool.not_eq_true] at c1
      simp [c1]
theorem implArcs_l0 (s t : Int) (f : List Int) (l : List S68) (hs : 1 ≤ s ∧ s ≤ 32) (hn : l.length ≤ 1048576) (d : Nat) : ∀ (k i : Nat), i + d = l.length → d + 3 < k → impl_ValidGrammar.l0 k l (l.length : Int) (i : Int) s t f l = some (arcsB s l d i) := by
  induction d with
  | zero =>
    intro k i hi hk
    obtain ⟨k, rfl⟩ := succ_of hk
    rw [impl_ValidGrammar.l0, if_neg (by omega), arcsB]
  | succ d ih =>
    intro k i hi hk
    obtain ⟨k, rfl⟩ := succ_of hk
    have e := ih k (i + 1) (by omega) (by omega)
    rw [impl_ValidGrammar.l0, if_pos (by omega), if_pos (by omega), if_pos (by omega)]
    simp only [impl_Grammar_hasState.f, implIn, implPitch, Option.bind_some]
    rw [w64 (n := s - 1) (by omega) (by omega), arcsB, w64 (n := (i : Int) + 1) (by omega) (by omega), show ((i : Int) + 1) = ((i + 1 : Nat) : Int) by omega, e, w64 (n := (i : Int) - 1) (by omega) (by omega), cmpA k (by omega), Option.bind_some]
    unfold okA
    by_cases c1 : inB (rd_T68 l (i : Int)).f0 0 (s - 1) = true
    · by_cases c3 : inB (rd_T68 l (i : Int)).f2 0 (s - 1) = true
      · by_cases c2 : inB (rd_T68 l (i : Int)).f1 (-12) 23 = true
        · rw [if_pos c1, if_pos c3, if_pos c2, c1, c2, c3, Bool.true_and, Bool.true_and, Bool.true_and]
          by_cases z : i = 0
          · rw [if_neg (by omega), decide_eq_true z, Bool.true_or, Bool.true_and]
          · rw [if_pos (by omega), if_pos (by omega), if_pos (by omega), decide_eq_false z, Bool.false_or]
            by_cases o : ordA (rd_T68 l ((i : Int) - 1)) (rd_T68 l (i : Int)) = true
            · rw [if_neg (by rw [cmp_neg, o]; decide), o, Bool.true_and]
            · rw [Bool.not_eq_true] at o
              rw [if_pos ((cmp_neg _ _).2 o), o, Bool.false_and]
        · rw [if_pos c1, if_pos c3, if_neg c2]
          rw [Bool.not_eq_true] at c2
          simp [c2]
      · rw [if_pos c1, if_neg c3]
        rw [Bool.not_eq_true] at c3
        simp [c3]
    · rw [if_neg c1]
      rw [Bool.not_eq_true] at c1
      simp [c1]
theorem specOkG (s t : Int) (f : List Int) (l : List S68) (hf : f.length ≤ 1048576) (hn : l.length ≤ 1048576) (k : Nat) (hk : 2200000 ≤ k) : spec_l07Ok.f k s t f l = some (okG s t f l) := by
  obtain ⟨k, rfl⟩ : ∃ j, k = j + 1 := ⟨k - 1, by omega⟩
  rw [spec_l07Ok.f, specIn, Option.bind_some]
  unfold okG
  by_cases c : inB s 1 32 = true
  · have hs := inB_true.1 c
    have e := specArcs_l0 s t f l hs hn l.length k 0 (by omega) (by omega)
    have r := specRises_l0 f 0 (s - 1) hf f.length (k + 1) 0 (by omega) (by omega)
    rw [if_pos c, w64 (n := s - 1) (by omega) (by omega), specIn, Option.bind_some, c, Bool.true_and]
    by_cases c2 : inB t 0 (s - 1) = true
    · rw [if_pos c2, spec_l00Rises.f, show spec_l00Rises.l0 (k + 1) f 0 (s - 1) 0 = _ from r, Option.bind_some, c2, Bool.true_and]
      by_cases c3 : riseB f 0 (s - 1) f.length 0 = true
      · rw [if_pos c3, c3, Bool.true_and, spec_l07Ok.j0]
        by_cases c4 : l.length ≤ 256
        · rw [if_neg (by rw [decide_eq_true_iff]; omega), decide_eq_true c4, Bool.true_and]
          exact e
        · rw [if_pos (by rw [decide_eq_true_iff]; omega), decide_eq_false c4, Bool.false_and]
      · rw [if_neg c3, spec_l07Ok.j0, if_pos rfl]
        rw [Bool.not_eq_true] at c3
        simp [c3]
    · rw [if_neg c2, spec_l07Ok.j0, if_pos rfl]
      rw [Bool.not_eq_true] at c2
      simp [c2]
  · rw [if_neg c, spec_l07Ok.j0, if_pos rfl]
    rw [Bool.not_eq_true] at c
    simp [c]
theorem implOkG (s t : Int) (f : List Int) (l : List S68) (hf : f.length ≤ 1048576) (hn : l.length ≤ 1048576) (k : Nat) (hk : 2200000 ≤ k) : impl_ValidGrammar.f k s t f l = some (okG s t f l) := by
  obtain ⟨k, rfl⟩ : ∃ j, k = j + 1 := ⟨k - 1, by omega⟩
  rw [impl_ValidGrammar.f, implIn, Option.bind_some]
  unfold okG
  by_cases c : inB s 1 32 = true
  · have hs := inB_true.1 c
    have e := implArcs_l0 s t f l hs hn l.length k 0 (by omega) (by omega)
    have r := implInc_l0 f hf (f.length - 1) (k + 1) 1 (by omega) (by omega) (by omega)
    rw [if_pos c, impl_Grammar_hasState.f, w64 (n := s - 1) (by omega) (by omega), implIn, Option.bind_some, Option.bind_some, c, Bool.true_and]
    by_cases c2 : inB t 0 (s - 1) = true
    · rw [if_pos c2, impl_increasing.f, show impl_increasing.l0 (k + 1) f 1 = _ from r, Option.bind_some, c2, Bool.true_and, rise_all]
      by_cases c3 : incB f (f.length - 1) 1 = true
      · rw [if_pos c3, c3, Bool.true_and, impl_allWithin.f, Option.bind_some]
        by_cases c5 : f.all (bIn · 0 (s - 1)) = true
        · rw [if_pos c5, c5, Bool.true_and, impl_ValidGrammar.j0]
          by_cases c4 : l.length ≤ 256
          · rw [if_neg (by rw [decide_eq_true_iff]; omega), decide_eq_true c4, Bool.true_and]
            exact e
          · rw [if_pos (by rw [decide_eq_true_iff]; omega), decide_eq_false c4, Bool.false_and]
        · rw [if_neg c5, impl_ValidGrammar.j0, if_pos rfl]
          rw [Bool.not_eq_true] at c5
          simp [c5]
      · rw [if_neg c3, impl_ValidGrammar.j0, if_pos rfl]
        rw [Bool.not_eq_true] at c3
        simp [c3]
    · rw [if_neg c2, impl_ValidGrammar.j0, if_pos rfl]
      rw [Bool.not_eq_true] at c2
      simp [c2]
  · rw [if_neg c, impl_ValidGrammar.j0, if_pos rfl]
    rw [Bool.not_eq_true] at c
    simp [c]
/-- The laws' helpers. -/
theorem szI (l : List Int) (a : Int) (h : l.length ≤ maxLen) (h0 : 0 ≤ a) (h1 : a ≤ 1048576) : laws_szInt64S.f l a = some (if a - l.length < 0 then -1 else a - l.length) := by
  unfold maxLen at h
  rw [laws_szInt64S.f, w64 (by omega) (by omega)]
  split <;> rfl
theorem szA (l : List S84) (a : Int) (h : l.length ≤ maxLen) (h0 : 0 ≤ a) (h1 : a ≤ 1048576) : laws_szArcS.f l a = some (if a - l.length < 0 then -1 else a - l.length) := by
  unfold maxLen at h
  rw [laws_szArcS.f, w64 (by omega) (by omega)]
  split <;> rfl
theorem szG (s t : Int) (f : List Int) (l : List S84) (a : Int) (hf : f.length ≤ maxLen) (hl : l.length ≤ maxLen) (h0 : 0 ≤ a) (h1 : a ≤ 1048576) : laws_szGrammar.f s t f l a = some (if a - f.length - l.length < 0 then -1 else a - f.length - l.length) := by
  rw [laws_szGrammar.f, szI f a hf h0 h1, Option.bind_some]
  by_cases c : a - f.length < 0
  · rw [if_pos c, if_pos (by omega), if_pos (by omega)]
  · rw [if_neg c, if_neg c, szA l _ hl (by omega) (by omega), Option.bind_some]
    by_cases d : a - f.length - l.length < 0
    · rw [if_pos d, if_pos (by omega)]
    · rw [if_neg d, if_neg d]
def cvA (x : S84) : S68 := ⟨x.f0, x.f1, x.f2⟩
theorem toA_l0 (l : List S84) (hn : l.length ≤ 1048576) (d : Nat) : ∀ (y : List S68) (k i : Nat), y.length = l.length → i + d = l.length → d < k → y.take i = (l.take i).map cvA →
    laws_toArcS.l0 k l y (i : Int) = some (l.map cvA) := by
  induction d with
  | zero =>
    intro y k i hy hi hk ht
    obtain ⟨k, rfl⟩ := succ_of hk
    rw [laws_toArcS.l0, if_neg (by omega)]
    rw [List.take_of_length_le (by omega), List.take_of_length_le (by omega)] at ht
    rw [ht]
  | succ d ih =>
    intro y k i hy hi hk ht
    obtain ⟨k, rfl⟩ := succ_of hk
    rw [laws_toArcS.l0, if_pos (by omega), if_pos (by omega)]
    simp only [laws_toArc.f, Option.bind_some]
    rw [if_pos (by omega), w64 (by omega) (by omega)]
    have := ih (y.set i (cvA l[i])) k (i + 1) (by simpa using hy) (by omega) (by omega) (by
      rw [take_set_snoc _ _ _ (by omega), ht, List.take_succ_eq_append_getElem (by omega), List.map_append]
      rfl)
    rw [rdLA_at (by omega), Int.toNat_natCast]
    exact this
theorem toA (l : List S84) (hn : l.length ≤ 1048576) (k : Nat) (hk : 1048577 ≤ k) : laws_toArcS.f k l = some (l.map cvA) := by
  rw [laws_toArcS.f, if_pos (by omega), if_pos (by omega)]
  exact toA_l0 l hn l.length _ k 0 (by simp) (by omega) (by omega) (by simp)
theorem toG (s t : Int) (f : List Int) (l : List S84) (hf : f.length ≤ 1048576) (hn : l.length ≤ 1048576) (k : Nat) (hk : 1048577 ≤ k) : laws_toGrammar.f k s t f l = some (s, t, f, l.map cvA) := by
  rw [laws_toGrammar.f, toI f hf k hk, Option.bind_some, toA l hn k hk, Option.bind_some]
theorem eqA_l0 (d : Nat) : ∀ (x : List S68) (k i : Nat), x.length ≤ 4611686018427387904 → i + d = x.length → d < k → laws_eqArcS.l0 k x x (i : Int) = some true := by
  induction d with
  | zero =>
    intro x k i hn hi hk
    obtain ⟨k, rfl⟩ := succ_of hk
    rw [laws_eqArcS.l0, if_neg (by omega)]
  | succ d ih =>
    intro x k i hn hi hk
    obtain ⟨k, rfl⟩ := succ_of hk
    rw [laws_eqArcS.l0, if_pos (by omega), if_pos (by omega), if_pos (by omega)]
    simp only [laws_eqArc.f, if_true, Option.bind_some]
    rw [w64 (by omega) (by omega)]
    exact ih x k (i + 1) hn (by omega) (by omega)
theorem eqA (x : List S68) (hn : x.length ≤ 4611686018427387904) (k : Nat) (hk : x.length < k) : laws_eqArcS.f k x x = some true := by
  rw [laws_eqArcS.f, if_pos rfl]
  exact eqA_l0 x.length x k 0 hn (by omega) hk
theorem eqG (s t : Int) (f : List Int) (l : List S68) (hf : f.length ≤ 1048576) (hn : l.length ≤ 1048576) (k : Nat) (hk : 1048577 ≤ k) : laws_eqGrammar.f k s t f l s t f l = some true := by
  rw [laws_eqGrammar.f, if_pos rfl, if_pos rfl, eqI f (by omega) k (by omega), Option.bind_some, if_pos rfl, eqA l (by omega) k (by omega), Option.bind_some, if_pos rfl]

end Go.Proofs.Yteljnbhbpidjpaa.Pure
