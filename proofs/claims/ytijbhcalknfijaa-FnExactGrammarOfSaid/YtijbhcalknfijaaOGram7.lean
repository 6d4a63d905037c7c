/- Plain facts on grammars: the reference's test, the laws' own helpers, marks and their check. No condition. -/
import Derived.Test.YtijbhcalknfijaaM7x0
import Derived.Test.YtijbhcalknfijaaM7x1
import Derived.Test.YtijbhcalknfijaaM7x7
import Derived.Test.YtijbhcalknfijaaM7x11
import Derived.Test.YtijbhcalknfijaaM7x19
import Derived.Test.YtijbhcalknfijaaRSc7
import Derived.Test.YtijbhcalknfijaaMarks7
namespace Go.Proofs.Ytijbhcalknfijaa.Pure
open Go.RowKit Go.Proofs.Ytijbhcalknfijaa.M7 Go.Proofs.YtijbhcalknfijaaW.PrintWords Go.Proofs.YtijbhcalknfijaaW.PrintLast
theorem specPitch (a : Int) : spec_l03Pitch.f a = some (inB a (-12) 23) := by unfold spec_l03Pitch.f; rw [specIn]; rfl
theorem implPitch (a : Int) : impl_pitchOk.f a = some (inB a (-12) 23) := by unfold impl_pitchOk.f; rw [implIn]; rfl
theorem rdA_at {x : List S67} {j : Nat} (h : j < x.length) : rd_T67 x (j : Int) = x[j] := by
  simp [rd_T67, List.getD_eq_getElem?_getD, List.getElem?_eq_getElem h]
def okA (s : Int) (x : S67) : Bool := inB x.f0 0 (s - 1) && inB x.f1 (-12) 23 && inB x.f2 0 (s - 1)
def ordA (a b : S67) : Bool := decide (a.f0 < b.f0 ∨ (a.f0 = b.f0 ∧ a.f1 < b.f1))
def arcsB (s : Int) (l : List S67) : Nat → Nat → Bool
  | 0, _ => true
  | d + 1, i => okA s (rd_T67 l (i : Int)) && (decide (i = 0) || ordA (rd_T67 l ((i : Int) - 1)) (rd_T67 l (i : Int))) && arcsB s l d (i + 1)
def riseB (l : List Int) (lo hi : Int) : Nat → Nat → Bool
  | 0, _ => true
  | d + 1, i => inB (rd l (i : Int)) lo hi && (decide (i = 0) || decide (rd l ((i : Int) - 1) < rd l (i : Int))) && riseB l lo hi d (i + 1)
def okG (s t : Int) (f : List Int) (l : List S67) : Bool := inB s 1 32 && inB t 0 (s - 1) && riseB f 0 (s - 1) f.length 0 && decide (l.length ≤ 256) && arcsB s l l.length 0
theorem specRises_l0 (l : List Int) (lo hi : Int) (hn : l.length ≤ 1048576) (d : Nat) : ∀ (k i : Nat), i + d = l.length → d < k → spec_l00Rises.l0 k l lo hi (i : Int) = some (riseB l lo hi d i) := by
  induction d with
  | zero =>
    intro k i hi hk
    obtain ⟨k, rfl⟩ := succ_of hk
    rw [spec_l00Rises.l0, if_neg (by omega), riseB]
  | succ d ih =>
    intro k i hi2 hk
    obtain ⟨k, rfl⟩ := succ_of hk
    have e := ih k (i + 1) (by omega) (by omega)
    rw [spec_l00Rises.l0, if_pos (by omega), if_pos (by omega), specIn, Option.bind_some, riseB, w64 (n := (i : Int) + 1) (by omega) (by omega), show ((i : Int) + 1) = ((i + 1 : Nat) : Int) by omega, e, w64 (n := (i : Int) - 1) (by omega) (by omega)]
    by_cases c : inB (rd l (i : Int)) lo hi = true
    · rw [if_pos c, c, Bool.true_and]
      by_cases z : i = 0
      · rw [if_neg (by omega), decide_eq_true z, Bool.true_or, Bool.true_and]
      · rw [if_pos (by omega), if_pos (by omega), if_pos (by omega), decide_eq_false z, Bool.false_or]
        by_cases y : rd l ((i : Int) - 1) < rd l (i : Int)
        · rw [if_neg (by omega), decide_eq_true y, Bool.true_and]
        · rw [if_pos (by omega), decide_eq_false y, Bool.false_and]
    · rw [if_neg c]
      rw [Bool.not_eq_true] at c
      rw [c, Bool.false_and, Bool.false_and]
theorem specArcs_l0 (s t : Int) (f : List Int) (l : List S67) (hs : 1 ≤ s ∧ s ≤ 32) (hn : l.length ≤ 1048576) (d : Nat) : ∀ (k i : Nat), i + d = l.length → 2 * d < k → spec_l07Ok.l0 k (i : Int) s t f l = some (arcsB s l d i) := by
  induction d with
  | zero =>
    intro k i hi hk
    obtain ⟨k, rfl⟩ := succ_of hk
    rw [spec_l07Ok.l0, if_neg (by omega), arcsB]
  | succ d ih =>
    intro k i hi hk
    obtain ⟨k, rfl⟩ : ∃ j, k = j + 2 := ⟨k - 2, by omega⟩
    have e := ih k (i + 1) (by omega) (by omega)
    rw [spec_l07Ok.l0, if_pos (by omega), if_pos (by omega)]
    simp only [specIn, specPitch, Option.bind_some]
    rw [w64 (n := s - 1) (by omega) (by omega), arcsB]
    have j2 : spec_l07Ok.j2 (k + 1) (i : Int) false s t f l (rd_T67 l (i : Int)).f0 (rd_T67 l (i : Int)).f1 (rd_T67 l (i : Int)).f2 = some ((decide (i = 0) || ordA (rd_T67 l ((i : Int) - 1)) (rd_T67 l (i : Int))) && arcsB s l d (i + 1)) := by
      rw [spec_l07Ok.j2, if_neg (by decide), w64 (n := (i : Int) + 1) (by omega) (by omega), show ((i : Int) + 1) = ((i + 1 : Nat) : Int) by omega, e, w64 (n := (i : Int) - 1) (by omega) (by omega)]
      by_cases z : i = 0
      · rw [if_neg (by omega), decide_eq_true z, Bool.true_or, Bool.true_and]
      · rw [if_pos (by omega), if_pos (by omega), if_pos (by omega), decide_eq_false z, Bool.false_or]
        generalize rd_T67 l ((i : Int) - 1) = a
        generalize rd_T67 l (i : Int) = b
        unfold ordA
        by_cases h1 : a.f0 > b.f0
        · rw [if_pos h1, decide_eq_false (by omega), Bool.false_and]
        · rw [if_neg h1]
          by_cases h2 : a.f0 = b.f0
          · rw [if_pos h2]
            by_cases h3 : a.f1 ≥ b.f1
            · rw [if_pos h3, decide_eq_false (by omega), Bool.false_and]
            · rw [if_neg h3, decide_eq_true (by omega), Bool.true_and]
          · rw [if_neg h2, decide_eq_true (by omega), Bool.true_and]
    have j2f : spec_l07Ok.j2 (k + 1) (i : Int) true s t f l (rd_T67 l (i : Int)).f0 (rd_T67 l (i : Int)).f1 (rd_T67 l (i : Int)).f2 = some false := by
      rw [spec_l07Ok.j2, if_pos rfl]
    unfold okA
    by_cases c1 : inB (rd_T67 l (i : Int)).f0 0 (s - 1) = true
    · by_cases c2 : inB (rd_T67 l (i : Int)).f1 (-12) 23 = true
      · by_cases c3 : inB (rd_T67 l (i : Int)).f2 0 (s - 1) = true
        · rw [if_pos c1, if_pos c2, c1, c2, c3, Bool.not_true, j2]
          simp
        · rw [Bool.not_eq_true] at c3
          rw [if_pos c1, if_pos c2, c1, c2, c3, Bool.not_false, j2f]
          simp
      · rw [if_pos c1, if_neg c2, j2f]
        rw [Bool.not_eq_true] at c2
        simp [c2]
    · rw [if_neg c1, j2f]
      rw [Bool.not_eq_true] at c1
      simp [c1]
theorem specOkG (s t : Int) (f : List Int) (l : List S67) (hf : f.length ≤ 1048576) (hn : l.length ≤ 1048576) (k : Nat) (hk : 2200000 ≤ k) : spec_l07Ok.f k s t f l = some (okG s t f l) := by
  obtain ⟨k, rfl⟩ : ∃ j, k = j + 1 := ⟨k - 1, by omega⟩
  rw [spec_l07Ok.f, specIn, Option.bind_some]
  unfold okG
  by_cases c : inB s 1 32 = true
  · have hs := inB_true.1 c
    have e := specArcs_l0 s t f l hs hn l.length k 0 (by omega) (by omega)
    have r := specRises_l0 f 0 (s - 1) hf f.length (k + 1) 0 (by omega) (by omega)
    rw [if_pos c, w64 (n := s - 1) (by omega) (by omega), specIn, Option.bind_some, c, Bool.true_and]
    by_cases c2 : inB t 0 (s - 1) = true
    · rw [if_pos c2, spec_l00Rises.f, show spec_l00Rises.l0 (k + 1) f 0 (s - 1) 0 = _ from r, Option.bind_some, c2, Bool.true_and]
      by_cases c3 : riseB f 0 (s - 1) f.length 0 = true
      · rw [if_pos c3, c3, Bool.true_and, spec_l07Ok.j0]
        by_cases c4 : l.length ≤ 256
        · rw [if_neg (by rw [decide_eq_true_iff]; omega), decide_eq_true c4, Bool.true_and]
          exact e
        · rw [if_pos (by rw [decide_eq_true_iff]; omega), decide_eq_false c4, Bool.false_and]
      · rw [if_neg c3, spec_l07Ok.j0, if_pos rfl]
        rw [Bool.not_eq_true] at c3
        simp [c3]
    · rw [if_neg c2, spec_l07Ok.j0, if_pos rfl]
      rw [Bool.not_eq_true] at c2
      simp [c2]
  · rw [if_neg c, spec_l07Ok.j0, if_pos rfl]
    rw [Bool.not_eq_true] at c
    simp [c]
theorem eqA_l0 (d : Nat) : ∀ (x : List S67) (k i : Nat), x.length ≤ 4611686018427387904 → i + d = x.length → d < k → laws_eqArcS.l0 k x x (i : Int) = some true := by
  induction d with
  | zero =>
    intro x k i hn hi hk
    obtain ⟨k, rfl⟩ := succ_of hk
    rw [laws_eqArcS.l0, if_neg (by omega)]
  | succ d ih =>
    intro x k i hn hi hk
    obtain ⟨k, rfl⟩ := succ_of hk
    rw [laws_eqArcS.l0, if_pos (by omega), if_pos (by omega), if_pos (by omega)]
    simp only [laws_eqArc.f, if_true, Option.bind_some]
    rw [w64 (by omega) (by omega)]
    exact ih x k (i + 1) hn (by omega) (by omega)
theorem eqA (x : List S67) (hn : x.length ≤ 4611686018427387904) (k : Nat) (hk : x.length < k) : laws_eqArcS.f k x x = some true := by
  rw [laws_eqArcS.f, if_pos rfl]
  exact eqA_l0 x.length x k 0 hn (by omega) hk
theorem eqG (s t : Int) (f : List Int) (l : List S67) (hf : f.length ≤ 1048576) (hn : l.length ≤ 1048576) (k : Nat) (hk : 1048577 ≤ k) : laws_eqGrammar.f k s t f l s t f l = some true := by
  rw [laws_eqGrammar.f, if_pos rfl, if_pos rfl, eqI f (by omega) k (by omega), Option.bind_some, if_pos rfl, eqA l (by omega) k (by omega), Option.bind_some, if_pos rfl]
/-- Marks of arcs. -/
def mka (a : Int) : Nat → List S67
  | 0 => []
  | d + 1 => ⟨a, a + 1, a + 2⟩ :: mka (a + 3) d
theorem mka_len (d : Nat) : ∀ a, (mka a d).length = d := by
  induction d with
  | zero => intro a; rfl
  | succ d ih => intro a; simp [mka, ih]
theorem markA_l0 (d : Nat) : ∀ (x : List S67) (a : Int) (k i : Nat), x.length ≤ 1048576 → 0 ≤ a → a + 3 * d ≤ 4611686018427387904 → i + d = x.length → d < k → laws_markArcS.l0 k x a (i : Int) = some (a + 3 * d, x.take i ++ mka a d) := by
  induction d with
  | zero =>
    intro x a k i hn h0 ha hi hk
    obtain ⟨k, rfl⟩ := succ_of hk
    rw [laws_markArcS.l0, if_neg (by omega), List.take_of_length_le (by omega)]
    simp [mka]
  | succ d ih =>
    intro x a k i hn h0 ha hi hk
    obtain ⟨k, rfl⟩ := succ_of hk
    have hlt : i < x.length := by omega
    rw [laws_markArcS.l0, if_pos (by omega), if_pos (by omega), Option.bind_some, Option.bind_some, w64 (n := a + 1) (by omega) (by omega), w64 (n := a + 1 + 1) (by omega) (by omega), w64 (n := a + 1 + 1 + 1) (by omega) (by omega), w64 (n := (i : Int) + 1) (by omega) (by omega), show ((i : Int) + 1) = ((i + 1 : Nat) : Int) by omega]
    simp only [Int.toNat_natCast]
    have e1 : rd_T67 (x.set i ⟨a, (rd_T67 x (i : Int)).f1, (rd_T67 x (i : Int)).f2⟩) (i : Int) = ⟨a, (rd_T67 x (i : Int)).f1, (rd_T67 x (i : Int)).f2⟩ := by
      rw [rdA_at (by simpa using hlt)]
      simp
    rw [e1]
    have e2 : rd_T67 ((x.set i ⟨a, (rd_T67 x (i : Int)).f1, (rd_T67 x (i : Int)).f2⟩).set i ⟨a, a + 1, (rd_T67 x (i : Int)).f2⟩) (i : Int) = ⟨a, a + 1, (rd_T67 x (i : Int)).f2⟩ := by
      rw [rdA_at (by simpa using hlt)]
      simp
    rw [e2, List.set_set, List.set_set]
    rw [ih (x.set i ⟨a, a + 1, a + 1 + 1⟩) (a + 1 + 1 + 1) k (i + 1) (by simpa using hn) (by omega) (by omega) (by simp only [List.length_set]; omega) (by omega), take_set_snoc _ _ _ hlt, List.append_assoc]
    simp only [mka, List.cons_append, List.nil_append]
    rw [show a + 1 + 1 + 1 = a + 3 by omega, show a + 1 + 1 = a + 2 by omega]
    congr 2
    omega
theorem heldA_l0 (d : Nat) : ∀ (x y : List S67) (a : Int) (k i : Nat), x = y ++ mka a d → y.length = i → i + d ≤ 1048576 → 0 ≤ a → a + 3 * d ≤ 4611686018427387904 → d < k → laws_heldArcS.l0 k x a (i : Int) = some (a + 3 * d) := by
  induction d with
  | zero =>
    intro x y a k i hx hy hn h0 ha hk
    obtain ⟨k, rfl⟩ := succ_of hk
    have : x.length = i := by rw [hx]; simp [mka, hy]
    rw [laws_heldArcS.l0, if_neg (by omega)]
    simp
  | succ d ih =>
    intro x y a k i hx hy hn h0 ha hk
    obtain ⟨k, rfl⟩ := succ_of hk
    have hl : x.length = i + (d + 1) := by rw [hx]; simp [mka_len, hy]
    have hr : rd_T67 x (i : Int) = ⟨a, a + 1, a + 2⟩ := by
      rw [rdA_at (by omega)]
      subst hx hy
      rw [List.getElem_append_right (Nat.le_refl _)]
      simp [mka]
    have e := ih x (y ++ [⟨a, a + 1, a + 2⟩]) (a + 3) k (i + 1) (by rw [hx, mka]; simp) (by simp [hy]) (by omega) (by omega) (by omega) (by omega)
    rw [laws_heldArcS.l0, if_pos (by omega), if_pos (by omega), hr, w64 (n := a + 1) (by omega) (by omega), w64 (n := a + 1 + 1) (by omega) (by omega), w64 (n := a + 1 + 1 + 1) (by omega) (by omega), w64 (n := (i : Int) + 1) (by omega) (by omega), show a + 1 + 1 + 1 = a + 3 by omega, show a + 1 + 1 = a + 2 by omega, show ((i : Int) + 1) = ((i + 1 : Nat) : Int) by omega, if_pos rfl, if_pos rfl, if_pos rfl, e]
    congr 1
    omega
theorem markI2 (x : List Int) (a : Int) (hn : x.length ≤ 1048576) (h0 : 0 ≤ a) (h1 : a ≤ 100000000) (k : Nat) (hk : x.length < k) : laws_markInt64S.f k x a = some (a + (x.length : Int), mks a x.length) := by
  rw [laws_markInt64S.f]
  have := markI_l0 x.length x a k 0 (by omega) h0 (by omega) (by omega) hk
  simpa using this
theorem markG (s t : Int) (f : List Int) (l : List S67) (hf : f.length ≤ 1048576) (hn : l.length ≤ 1048576) (k : Nat) (hk : 1048577 ≤ k) : laws_markGrammar.f k s t f l 1 = some (1 + (f.length : Int) + 3 * (l.length : Int), mks 1 f.length, mka (1 + (f.length : Int)) l.length) := by
  have e := markA_l0 l.length l (1 + (f.length : Int)) k 0 hn (by omega) (by omega) (by omega) (by omega)
  rw [List.take_zero, List.nil_append] at e
  rw [laws_markGrammar.f, markI2 f 1 hf (by omega) (by omega) k (by omega), Option.bind_some]
  dsimp only
  rw [laws_markArcS.f, show laws_markArcS.l0 k l (1 + (f.length : Int)) 0 = _ from e, Option.bind_some]
theorem heldG (s t : Int) (a b : Nat) (ha : a ≤ 1048576) (hb : b ≤ 1048576) (k : Nat) (hk : 1048577 ≤ k) : laws_heldGrammar.f k s t (mks 1 a) (mka (1 + (a : Int)) b) 1 = some (1 + (a : Int) + 3 * (b : Int)) := by
  have e := heldA_l0 b (mka (1 + (a : Int)) b) [] (1 + (a : Int)) k 0 (by simp) rfl (by omega) (by omega) (by omega) (by omega)
  rw [laws_heldGrammar.f, heldI a (by omega) k (by omega), Option.bind_some, if_neg (by omega), laws_heldArcS.f, show laws_heldArcS.l0 k (mka (1 + (a : Int)) b) (1 + (a : Int)) 0 = _ from e, Option.bind_some, if_neg (by omega)]

end Go.Proofs.Ytijbhcalknfijaa.Pure
