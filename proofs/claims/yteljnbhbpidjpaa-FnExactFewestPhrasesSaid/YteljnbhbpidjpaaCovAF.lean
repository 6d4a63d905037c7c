/- Plain facts on rows, phrases and where a phrase lies in a row of pitches, in the reference and in the program. No condition. -/
import Derived.Test.YteljnbhbpidjpaaFx0
import Derived.Test.YteljnbhbpidjpaaFx1
import Derived.Test.YteljnbhbpidjpaaFx2
import Derived.Test.YteljnbhbpidjpaaFx3
import Derived.Test.YteljnbhbpidjpaaFx4
import Derived.Test.YteljnbhbpidjpaaFx5
import Derived.Test.YteljnbhbpidjpaaFx6
import Derived.Test.YteljnbhbpidjpaaFx10
import Derived.Test.YteljnbhbpidjpaaFx11
import Derived.Test.YteljnbhbpidjpaaFx12
import Derived.Test.YteljnbhbpidjpaaFx13
import Derived.Test.YteljnbhbpidjpaaFx14
import Derived.Test.YteljnbhbpidjpaaFx15
import Derived.Test.YteljnbhbpidjpaaFx18
import Derived.Test.YteljnbhbpidjpaaFx19
import Derived.Test.YteljnbhbpidjpaaFx20
namespace Go.Proofs.Yteljnbhbpidjpaa.Pure
open Go.RowKit Go.Proofs.Yteljnbhbpidjpaa.F Go.Proofs.YteljnbhbpidjpaaW.PrintWords Go.Proofs.YteljnbhbpidjpaaW.PrintLast
theorem w64 {n : Int} (h : -9223372036854775808 ≤ n) (h' : n ≤ 9223372036854775807) : wrap64 n = n := by unfold wrap64; omega
theorem wfi {n : Int} (h : (Lit.int .i64 n).wf = true) : -9223372036854775808 ≤ n ∧ n ≤ 9223372036854775807 := by
  have h2 : IntKind.i64.min ≤ n ∧ n ≤ IntKind.i64.max := by simpa [Lit.wf] using h
  have e1 : IntKind.i64.min = -9223372036854775808 := by decide
  have e2 : IntKind.i64.max = 9223372036854775807 := by decide
  omega
theorem succ_of {n k : Nat} (h : n < k) : ∃ m, k = m + 1 := ⟨k - 1, by omega⟩
theorem rd_at {x : List Int} {j : Nat} (h : j < x.length) : rd x (j : Int) = x[j] := by
  simp [rd, List.getD_eq_getElem?_getD, List.getElem?_eq_getElem h]
theorem take_set_snoc {α : Type} (x : List α) (i : Nat) (a : α) (h : i < x.length) : (x.set i a).take (i + 1) = x.take i ++ [a] := by
  rw [List.take_succ_eq_append_getElem (by simpa using h)]
  rw [List.take_set, List.set_eq_of_length_le (by rw [List.length_take]; omega)]
  simp
/-- The int helpers. -/
theorem eqI_l0 (d : Nat) : ∀ (x : List Int) (k i : Nat), x.length ≤ 4611686018427387904 → i + d = x.length → d < k → laws_eqInt64S.l0 k x x (i : Int) = some true := by
  induction d with
  | zero =>
    intro x k i hn hi hk
    obtain ⟨k, rfl⟩ := succ_of hk
    rw [laws_eqInt64S.l0, if_neg (by omega)]
  | succ d ih =>
    intro x k i hn hi hk
    obtain ⟨k, rfl⟩ := succ_of hk
    rw [laws_eqInt64S.l0, if_pos (by omega), if_pos (by omega), if_pos (by omega), if_pos rfl, w64 (by omega) (by omega)]
    exact ih x k (i + 1) hn (by omega) (by omega)
theorem eqI (x : List Int) (hn : x.length ≤ 4611686018427387904) (k : Nat) (hk : x.length < k) : laws_eqInt64S.f k x x = some true := by
  rw [laws_eqInt64S.f, if_pos rfl]
  exact eqI_l0 x.length x k 0 hn (by omega) hk
theorem toI_l0 (l : List Int) (hn : l.length ≤ 1048576) (d : Nat) : ∀ (y : List Int) (k i : Nat), y.length = l.length → i + d = l.length → d < k → y.take i = l.take i → laws_toInt64S.l0 k l y (i : Int) = some l := by
  induction d with
  | zero =>
    intro y k i hy hi hk ht
    obtain ⟨k, rfl⟩ := succ_of hk
    rw [laws_toInt64S.l0, if_neg (by omega)]
    rw [List.take_of_length_le (by omega), List.take_of_length_le (by omega)] at ht
    rw [ht]
  | succ d ih =>
    intro y k i hy hi hk ht
    obtain ⟨k, rfl⟩ := succ_of hk
    rw [laws_toInt64S.l0, if_pos (by omega), if_pos (by omega), if_pos (by omega), w64 (by omega) (by omega)]
    have := ih (y.set i l[i]) k (i + 1) (by simpa using hy) (by omega) (by omega) (by
      rw [take_set_snoc _ _ _ (by omega), ht, List.take_succ_eq_append_getElem (by omega)])
    rw [rd_at (by omega), Int.toNat_natCast]
    exact this
theorem toI (l : List Int) (hn : l.length ≤ 1048576) (k : Nat) (hk : 1048577 ≤ k) : laws_toInt64S.f k l = some l := by
  rw [laws_toInt64S.f, if_pos (by omega), if_pos (by omega)]
  exact toI_l0 l hn l.length _ k 0 (by simp) (by omega) (by omega) (by simp)
def inB (a lo hi : Int) : Bool := decide (lo ≤ a ∧ a ≤ hi)
theorem specIn (a lo hi : Int) : spec_l00In.f a lo hi = some (inB a lo hi) := by
  unfold spec_l00In.f inB
  by_cases h : a ≥ lo
  · rw [if_pos h]; congr 1; rw [decide_eq_decide]; exact ⟨fun h2 => ⟨h, h2⟩, fun h2 => h2.2⟩
  · rw [if_neg h]; congr 1; symm; rw [decide_eq_false_iff_not]; exact fun h2 => h h2.1
def allP (x : List Int) : Bool := x.all (inB · (-12) 23)
theorem specPit (x : List Int) (hn : x.length ≤ 1048576) (k : Nat) (hk : x.length < k) : spec_l05Pitches.f k x = some (allP x && decide (x.length ≤ 64)) := by
  have h : ∀ (d k i : Nat), i + d = x.length → d < k → spec_l05Pitches.l0 k x (i : Int) = some ((x.drop i).all (inB · (-12) 23) && decide (x.length ≤ 64)) := by
    intro d
    induction d with
    | zero =>
      intro k i hi hk
      obtain ⟨k, rfl⟩ := succ_of hk
      rw [spec_l05Pitches.l0, if_neg (by omega), List.drop_eq_nil_of_le (by omega)]
      simp only [List.all_nil, Bool.true_and]
      congr 1
      rw [decide_eq_decide]
      omega
    | succ d ih =>
      intro k i hi hk
      obtain ⟨k, rfl⟩ := succ_of hk
      have hlt : i < x.length := by omega
      rw [spec_l05Pitches.l0, if_pos (by omega), if_pos (by omega), rd_at hlt, List.drop_eq_getElem_cons hlt, List.all_cons, w64 (by omega) (by omega), spec_l03Pitch.f, specIn, show ((i : Int) + 1) = ((i + 1 : Nat) : Int) by omega, ih k (i + 1) (by omega) (by omega)]
      cases inB x[i] (-12) 23 <;> simp
  rw [spec_l05Pitches.f]
  have := h x.length k 0 (by omega) hk
  simpa [allP] using this
def phr (y : List Int) : Bool := allP y && decide (2 ≤ y.length ∧ y.length ≤ 8)
theorem specPhr (y : List Int) (hn : y.length ≤ 1048576) (k : Nat) (hk : y.length < k) : spec_l06Phrase.f k y = some (phr y) := by
  rw [spec_l06Phrase.f, specPit y hn k hk, phr]
  simp only [Option.bind_some]
  by_cases h2 : 2 ≤ y.length
  · by_cases h3 : y.length ≤ 8
    · rw [if_pos (show (y.length : Int) ≥ 2 by omega), decide_eq_true (show (y.length : Int) ≤ 8 by omega), decide_eq_true (show y.length ≤ 64 by omega), decide_eq_true (show 2 ≤ y.length ∧ y.length ≤ 8 from ⟨h2, h3⟩)]
      cases allP y <;> rfl
    · rw [if_pos (show (y.length : Int) ≥ 2 by omega), decide_eq_false (show ¬ (y.length : Int) ≤ 8 by omega), decide_eq_false (show ¬ (2 ≤ y.length ∧ y.length ≤ 8) by omega)]
      cases allP y <;> cases decide (y.length ≤ 64) <;> rfl
  · rw [if_neg (show ¬ (y.length : Int) ≥ 2 by omega), decide_eq_false (show ¬ (2 ≤ y.length ∧ y.length ≤ 8) by omega)]
    cases allP y <;> cases decide (y.length ≤ 64) <;> rfl
theorem implAll (x : List Int) : impl_allWithin.f x (-12) 23 = some (allP x) := rfl
theorem implPhr (y : List Int) : impl_phraseOk.f y = some (phr y) := by
  rw [impl_phraseOk.f, implAll, phr]
  by_cases h2 : (y.length : Int) ≥ 2
  · rw [if_pos h2]
    by_cases h3 : (y.length : Int) ≤ 8
    · rw [if_pos h3, show decide (2 ≤ y.length ∧ y.length ≤ 8) = true from decide_eq_true (by omega)]
      cases allP y <;> rfl
    · rw [if_neg h3, show decide (2 ≤ y.length ∧ y.length ≤ 8) = false from decide_eq_false (by omega), Bool.and_false]
  · rw [if_neg h2, show decide (2 ≤ y.length ∧ y.length ≤ 8) = false from decide_eq_false (by omega), Bool.and_false]
/-- Order of two rows: the first is before the second. -/
def bef (x y : List Int) : Nat → Nat → Bool
  | 0, _ => decide (x.length < y.length)
  | d + 1, i => if i < y.length then (if rd x (i : Int) = rd y (i : Int) then bef x y d (i + 1) else decide (rd x (i : Int) < rd y (i : Int))) else decide (x.length < y.length)
def befB (x y : List Int) : Bool := bef x y x.length 0
theorem specBef (x y : List Int) (hx : x.length ≤ 1048576) (hy : y.length ≤ 1048576) (k : Nat) (hk : 2100000 ≤ k) : spec_l06Before.f k x y = some (befB x y) := by
  have h : ∀ (d k i : Nat), i + d = x.length → 2 * d + 2 ≤ k → spec_l06Before.l0 k x y (i : Int) = some (bef x y d i) := by
    have hj : ∀ k (i : Int) b, spec_l06Before.j1 (k + 1) x y i b = if b = true then (if 0 ≤ i then (if i < (x.length : Int) then (if i < (y.length : Int) then (if (rd x i) = (rd y i) then (spec_l06Before.l0 k x y (wrap64 (i + 1))) else (some (decide ((rd x i) < (rd y i))))) else (none)) else (none)) else (none)) else (some (decide ((x.length : Int) < (y.length : Int)))) := fun _ _ _ => rfl
    intro d
    induction d with
    | zero =>
      intro k i hi hk
      obtain ⟨k, rfl⟩ := succ_of (show 0 < k by omega)
      obtain ⟨k, rfl⟩ := succ_of (show 0 < k by omega)
      rw [spec_l06Before.l0, if_neg (by omega), hj, if_neg (by simp), bef]
      congr 1
      rw [decide_eq_decide]
      omega
    | succ d ih =>
      intro k i hi hk
      obtain ⟨k, rfl⟩ := succ_of (show 0 < k by omega)
      obtain ⟨k, rfl⟩ := succ_of (show 0 < k by omega)
      rw [spec_l06Before.l0, if_pos (by omega), hj, bef]
      by_cases c : i < y.length
      · rw [decide_eq_true (show (i : Int) < (y.length : Int) by omega), if_pos rfl, if_pos (by omega), if_pos (by omega), if_pos (by omega), if_pos c, w64 (by omega) (by omega), show ((i : Int) + 1) = ((i + 1 : Nat) : Int) by omega, ih k (i + 1) (by omega) (by omega)]
        split <;> rfl
      · rw [decide_eq_false (show ¬ (i : Int) < (y.length : Int) by omega), if_neg (by simp), if_neg c]
        congr 1
        rw [decide_eq_decide]
        omega
  exact h x.length k 0 (by omega) (by omega)
theorem implCmp (x y : List Int) (hx : x.length ≤ 1048576) (hy : y.length ≤ 1048576) (k : Nat) (hk : 2100000 ≤ k) : ∃ r : Int, slices_Compare_int64_int64.f k x y = some r ∧ decide (r ≥ 0) = !(befB x y) := by
  have h : ∀ (d k i : Nat), i + d = x.length → d + 2 ≤ k → i ≤ y.length → ∃ r : Int, slices_Compare_int64_int64.l0 k x y x (x.length : Int) (i : Int) = some r ∧ decide (r ≥ 0) = !(bef x y d i) := by
    intro d
    induction d with
    | zero =>
      intro k i hi hk hy
      obtain ⟨k, rfl⟩ := succ_of (show 0 < k by omega)
      rw [slices_Compare_int64_int64.l0, if_neg (by omega), bef]
      by_cases c : x.length < y.length
      · rw [if_pos (by omega), decide_eq_true c]
        exact ⟨-1, rfl, rfl⟩
      · rw [if_neg (by omega), decide_eq_false c]
        exact ⟨0, rfl, rfl⟩
    | succ d ih =>
      intro k i hi hk hyy
      obtain ⟨k, rfl⟩ := succ_of (show 0 < k by omega)
      rw [slices_Compare_int64_int64.l0, if_pos (by omega), if_pos (by omega), if_pos (by omega), bef]
      by_cases c : i < y.length
      · rw [if_neg (by omega), if_pos (by omega), if_pos c, w64 (by omega) (by omega), show ((i : Int) + 1) = ((i + 1 : Nat) : Int) by omega]
        by_cases e : rd x (i : Int) = rd y (i : Int)
        · rw [if_pos e]
          obtain ⟨r, h1, h2⟩ := ih k (i + 1) (by omega) (by omega) (by omega)
          refine ⟨r, ?_, h2⟩
          rw [e, show cmp_Compare_int64.f (rd y (i : Int)) (rd y (i : Int)) = some 0 from by simp [cmp_Compare_int64.f, cmp_isNaN_int64.f], Option.bind_some, if_pos rfl, h1]
        · rw [if_neg e]
          by_cases g : rd x (i : Int) < rd y (i : Int)
          · rw [decide_eq_true g]
            refine ⟨-1, ?_, rfl⟩
            rw [show cmp_Compare_int64.f (rd x (i : Int)) (rd y (i : Int)) = some (-1) from by simp [cmp_Compare_int64.f, cmp_isNaN_int64.f, g], Option.bind_some, if_neg (by decide)]
          · rw [decide_eq_false g]
            refine ⟨1, ?_, rfl⟩
            rw [show cmp_Compare_int64.f (rd x (i : Int)) (rd y (i : Int)) = some 1 from by simp [cmp_Compare_int64.f, cmp_isNaN_int64.f, g, show rd x (i : Int) > rd y (i : Int) by omega], Option.bind_some, if_neg (by decide)]
      · rw [if_pos (by omega), if_neg c, decide_eq_false (by omega)]
        exact ⟨1, rfl, rfl⟩
  exact h x.length k 0 (by omega) (by omega) (by omega)
theorem rdR_at {x : List (List Int)} {j : Nat} (h : j < x.length) : rd_L1 x (j : Int) = x[j] := by
  simp [rd_L1, List.getD_eq_getElem?_getD, List.getElem?_eq_getElem h]
theorem szR_l0 (l : List (List Int)) (hn : l.length ≤ 1048576) (hv : ∀ x ∈ l, x.length ≤ maxLen) (d : Nat) : ∀ (k i : Nat) (a : Int), i + d = l.length → d < k → 0 ≤ a → a ≤ 1048576 → ∃ t, laws_szInt64SS.l0 k l a (i : Int) = some t ∧ (¬ t < 0 → ∀ j, i ≤ j → (h : j < l.length) → l[j].length ≤ 1048576) := by
  induction d with
  | zero =>
    intro k i a hi hk _ _
    obtain ⟨k, rfl⟩ := succ_of hk
    exact ⟨a, by rw [laws_szInt64SS.l0, if_neg (by omega)], fun _ j h1 h2 => by omega⟩
  | succ d ih =>
    intro k i a hi hk h0 h1
    obtain ⟨k, rfl⟩ := succ_of hk
    have hlt : i < l.length := by omega
    have hm := hv l[i] (List.getElem_mem hlt)
    unfold maxLen at hm
    rw [laws_szInt64SS.l0, if_pos (by omega), if_pos (by omega), w64 (n := (i : Int) + 1) (by omega) (by omega), laws_szInt64S.f, rdR_at hlt, w64 (n := a - (l[i].length : Int)) (by omega) (by omega)]
    rw [show ((i : Int) + 1) = ((i + 1 : Nat) : Int) by omega]
    by_cases h : a - (l[i].length : Int) < 0
    · rw [if_pos h]
      exact ⟨-1, rfl, fun h => absurd (by decide) h⟩
    · rw [if_neg h, Option.bind_some, if_neg h]
      obtain ⟨t, ht, hg⟩ := ih k (i + 1) (a - (l[i].length : Int)) (by omega) (by omega) (by omega) (by omega)
      refine ⟨t, ht, fun hn j h1 h2 => ?_⟩
      by_cases e : j = i
      · subst e; omega
      · exact hg hn j (by omega) h2
theorem szR (l : List (List Int)) (h : l.length ≤ maxLen) (hv : ∀ x ∈ l, x.length ≤ maxLen) (k : Nat) (hk : 1048577 ≤ k) : ∃ t, laws_szInt64SS.f k l 1048576 = some t ∧ (¬ t < 0 → l.length ≤ 1048576 ∧ ∀ x ∈ l, x.length ≤ 1048576) := by
  unfold maxLen at h
  rw [laws_szInt64SS.f, w64 (by omega) (by omega)]
  by_cases c : (1048576 : Int) - l.length < 0
  · rw [if_pos c]
    exact ⟨-1, rfl, fun h => absurd (by decide) h⟩
  · rw [if_neg c]
    obtain ⟨t, ht, hg⟩ := szR_l0 l (by omega) hv l.length k 0 (1048576 - l.length) (by omega) (by omega) (by omega) (by omega)
    refine ⟨t, ht, fun hn => ⟨by omega, fun x hx => ?_⟩⟩
    obtain ⟨j, hj, rfl⟩ := List.getElem_of_mem hx
    exact hg hn j (by omega) hj
theorem toR_l0 (l : List (List Int)) (hn : l.length ≤ 1048576) (hv : ∀ x ∈ l, x.length ≤ 1048576) (d : Nat) : ∀ (y : List (List Int)) (k i : Nat), y.length = l.length → i + d = l.length → d + 1048577 ≤ k → y.take i = l.take i →
    laws_toInt64SS.l0 k l y (i : Int) = some l := by
  induction d with
  | zero =>
    intro y k i hy hi hk ht
    obtain ⟨k, rfl⟩ := succ_of (show 0 < k by omega)
    rw [laws_toInt64SS.l0, if_neg (by omega)]
    rw [List.take_of_length_le (by omega), List.take_of_length_le (by omega)] at ht
    rw [ht]
  | succ d ih =>
    intro y k i hy hi hk ht
    obtain ⟨k, rfl⟩ := succ_of (show 0 < k by omega)
    have hlt : i < l.length := by omega
    rw [laws_toInt64SS.l0, if_pos (by omega), if_pos (by omega), rdR_at hlt, toI l[i] (hv _ (List.getElem_mem hlt)) k (by omega), Option.bind_some, if_pos (by omega), w64 (by omega) (by omega), Int.toNat_natCast]
    exact ih (y.set i l[i]) k (i + 1) (by simpa using hy) (by omega) (by omega) (by
      rw [take_set_snoc _ _ _ (by omega), ht, List.take_succ_eq_append_getElem (by omega)])
theorem toR (l : List (List Int)) (hn : l.length ≤ 1048576) (hv : ∀ x ∈ l, x.length ≤ 1048576) (k : Nat) (hk : 2100000 ≤ k) : laws_toInt64SS.f k l = some l := by
  rw [laws_toInt64SS.f, if_pos (by omega), if_pos (by omega)]
  exact toR_l0 l hn hv l.length _ k 0 (by simp) (by omega) (by omega) (by simp)
theorem eqR (l : List (List Int)) (hn : l.length ≤ 1048576) (hv : ∀ x ∈ l, x.length ≤ 1048576) (k : Nat) (hk : 2100000 ≤ k) : laws_eqInt64SS.f k l l = some true := by
  have h : ∀ (d k i : Nat), i + d = l.length → d + 1048578 ≤ k → laws_eqInt64SS.l0 k l l (i : Int) = some true := by
    intro d
    induction d with
    | zero =>
      intro k i hi hk
      obtain ⟨k, rfl⟩ := succ_of (show 0 < k by omega)
      rw [laws_eqInt64SS.l0, if_neg (by omega)]
    | succ d ih =>
      intro k i hi hk
      obtain ⟨k, rfl⟩ := succ_of (show 0 < k by omega)
      have hlt : i < l.length := by omega
      have hm := hv l[i] (List.getElem_mem hlt)
      rw [laws_eqInt64SS.l0, if_pos (by omega), if_pos (by omega), if_pos (by omega), rdR_at hlt, eqI l[i] (by omega) k (by omega), Option.bind_some, if_pos rfl, w64 (by omega) (by omega)]
      exact ih k (i + 1) (by omega) (by omega)
  rw [laws_eqInt64SS.f, if_pos rfl]
  exact h l.length k 0 (by omega) (by omega)
def chkR (x : List (List Int)) : Nat → Nat → Bool
  | 0, _ => true
  | d + 1, i => phr (rd_L1 x (i : Int)) && (if i = 0 then true else befB (rd_L1 x ((i - 1 : Nat) : Int)) (rd_L1 x (i : Int))) && chkR x d (i + 1)
theorem specOkR (x : List (List Int)) (hn : x.length ≤ 1048576) (hv : ∀ y ∈ x, y.length ≤ 1048576) (k : Nat) (hk : 4000000 ≤ k) : spec_l06Ok.f k x = some (chkR x x.length 0 && decide (x.length ≤ 12)) := by
  have hr : ∀ j : Nat, j < x.length → (rd_L1 x (j : Int)).length ≤ 1048576 := fun j hj => by rw [rdR_at hj]; exact hv _ (List.getElem_mem hj)
  have h : ∀ (d k i : Nat), i + d = x.length → d + 2200000 ≤ k → spec_l06Ok.l0 k x (i : Int) = some (chkR x d i && decide (x.length ≤ 12)) := by
    intro d
    induction d with
    | zero =>
      intro k i hi hk
      obtain ⟨k, rfl⟩ := succ_of (show 0 < k by omega)
      rw [spec_l06Ok.l0, if_neg (by omega), chkR, Bool.true_and]
      congr 1
      rw [decide_eq_decide]
      omega
    | succ d ih =>
      intro k i hi hk
      obtain ⟨k, rfl⟩ := succ_of (show 0 < k by omega)
      have h1 := hr i (by omega)
      have h2 := ih k (i + 1) (by omega) (by omega)
      rw [spec_l06Ok.l0, if_pos (by omega), if_pos (by omega), specPhr _ h1 k (by omega), Option.bind_some, chkR, w64 (n := (i : Int) + 1) (by omega) (by omega), w64 (n := (i : Int) - 1) (by omega) (by omega), show ((i : Int) + 1) = ((i + 1 : Nat) : Int) by omega, h2]
      cases phr (rd_L1 x (i : Int)) with
      | false => simp
      | true =>
        rw [if_pos rfl, Bool.true_and]
        by_cases h0 : i = 0
        · rw [if_neg (by omega), if_pos h0, Bool.true_and]
        · have h3 := hr (i - 1) (by omega)
          rw [if_pos (by omega), if_neg h0, if_pos (by omega), if_pos (by omega), show (i : Int) - 1 = ((i - 1 : Nat) : Int) by omega, specBef _ _ h3 h1 k (by omega), Option.bind_some]
          cases befB (rd_L1 x ((i - 1 : Nat) : Int)) (rd_L1 x (i : Int)) <;> simp
  exact h x.length k 0 (by omega) (by omega)
theorem implOkR (x : List (List Int)) (hn : x.length ≤ 1048576) (hv : ∀ y ∈ x, y.length ≤ 1048576) (k : Nat) (hk : 4000000 ≤ k) : impl_ValidPhrases.f k x = some (chkR x x.length 0 && decide (x.length ≤ 12)) := by
  have hr : ∀ j : Nat, j < x.length → (rd_L1 x (j : Int)).length ≤ 1048576 := fun j hj => by rw [rdR_at hj]; exact hv _ (List.getElem_mem hj)
  have h : ∀ (d k i : Nat), i + d = x.length → d + 2200000 ≤ k → impl_ValidPhrases.l0 k x x (x.length : Int) (i : Int) = some (chkR x d i) := by
    intro d
    induction d with
    | zero =>
      intro k i hi hk
      obtain ⟨k, rfl⟩ := succ_of (show 0 < k by omega)
      rw [impl_ValidPhrases.l0, if_neg (by omega), chkR]
    | succ d ih =>
      intro k i hi hk
      obtain ⟨k, rfl⟩ := succ_of (show 0 < k by omega)
      have h1 := hr i (by omega)
      have h2 := ih k (i + 1) (by omega) (by omega)
      rw [impl_ValidPhrases.l0, if_pos (by omega), if_pos (by omega), if_pos (by omega), implPhr, Option.bind_some, chkR, w64 (n := (i : Int) + 1) (by omega) (by omega), w64 (n := (i : Int) - 1) (by omega) (by omega), show ((i : Int) + 1) = ((i + 1 : Nat) : Int) by omega, h2]
      cases phr (rd_L1 x (i : Int)) with
      | false => simp
      | true =>
        rw [if_pos rfl, Bool.true_and]
        by_cases h0 : i = 0
        · rw [if_neg (by omega), if_pos h0, Bool.true_and]
        · have h3 := hr (i - 1) (by omega)
          obtain ⟨r, e1, e2⟩ := implCmp _ _ h3 h1 k (by omega)
          rw [if_pos (by omega), if_neg h0, if_pos (by omega), if_pos (by omega), show (i : Int) - 1 = ((i - 1 : Nat) : Int) by omega, e1, Option.bind_some]
          cases hb : befB (rd_L1 x ((i - 1 : Nat) : Int)) (rd_L1 x (i : Int)) with
          | false =>
            rw [hb] at e2
            rw [if_pos (of_decide_eq_true e2)]
            simp
          | true =>
            rw [hb] at e2
            rw [if_neg (of_decide_eq_false e2)]
            simp
  rw [impl_ValidPhrases.f]
  by_cases c : (x.length : Int) > 12
  · rw [if_pos c, decide_eq_false (show ¬ x.length ≤ 12 by omega), Bool.and_false]
  · rw [if_neg c, decide_eq_true (show x.length ≤ 12 by omega), Bool.and_true]
    exact h x.length k 0 (by omega) (by omega)
theorem chkR_all (x : List (List Int)) : ∀ (d i : Nat), i + d = x.length → chkR x d i = true → ∀ j, i ≤ j → (h : j < x.length) → phr x[j] = true
  | 0, i, hi, _, j, h1, h2 => by omega
  | d + 1, i, hi, hc, j, h1, h2 => by
    rw [chkR, Bool.and_eq_true, Bool.and_eq_true, rdR_at (show i < x.length by omega)] at hc
    by_cases c : j = i
    · subst c
      exact hc.1.1
    · exact chkR_all x d (i + 1) (by omega) hc.2 j (by omega) h2
def mks (a : Int) (d : Nat) : List Int := (List.range d).map fun j : Nat => a + j
theorem mks_succ (a : Int) (d : Nat) : mks a (d + 1) = a :: mks (a + 1) d := by
  simp only [mks, List.range_succ_eq_map, List.map_cons, List.map_map]
  congr 1
  · simp
  · apply List.map_congr_left
    intro j _
    simp only [Function.comp, Nat.succ_eq_add_one]
    omega
theorem markI_l0 (d : Nat) : ∀ (x : List Int) (a : Int) (k i : Nat), x.length ≤ 1152921504606846976 → 0 ≤ a → a + d ≤ 4611686018427387904 → i + d = x.length → d < k →
    laws_markInt64S.l0 k x a (i : Int) = some (a + d, x.take i ++ mks a d) := by
  induction d with
  | zero =>
    intro x a k i hn h0 ha hi hk
    obtain ⟨k, rfl⟩ := succ_of hk
    rw [laws_markInt64S.l0, if_neg (by omega)]
    rw [List.take_of_length_le (by omega)]
    simp [mks]
  | succ d ih =>
    intro x a k i hn h0 ha hi hk
    obtain ⟨k, rfl⟩ := succ_of hk
    rw [laws_markInt64S.l0, if_pos (by omega), if_pos (by omega), w64 (n := a + 1) (by omega) (by omega), w64 (by omega) (by omega)]
    have := ih (x.set (i : Int).toNat a) (a + 1) k (i + 1) (by simpa using hn) (by omega) (by omega) (by simp; omega) (by omega)
    rw [show ((i : Int) + 1) = ((i + 1 : Nat) : Int) by omega, this, Int.toNat_natCast, take_set_snoc _ _ _ (by omega), mks_succ, List.append_assoc]
    simp
    omega
theorem heldI_l0 (d : Nat) : ∀ (x y : List Int) (a : Int) (k i : Nat), x = y ++ mks a d → y.length = i → i + d ≤ 1152921504606846976 → 0 ≤ a → a + d ≤ 4611686018427387904 → d < k →
    laws_heldInt64S.l0 k x a (i : Int) = some (a + d) := by
  induction d with
  | zero =>
    intro x y a k i hx hy hn h0 ha hk
    obtain ⟨k, rfl⟩ := succ_of hk
    have : x.length = i := by rw [hx]; simp [mks, hy]
    rw [laws_heldInt64S.l0, if_neg (by omega)]
    simp
  | succ d ih =>
    intro x y a k i hx hy hn h0 ha hk
    obtain ⟨k, rfl⟩ := succ_of hk
    have hl : x.length = i + (d + 1) := by rw [hx]; simp [mks, hy]
    have hr : rd x (i : Int) = a := by
      rw [rd_at (by omega)]
      subst hx hy
      rw [List.getElem_append_right (Nat.le_refl _)]
      simp [mks_succ]
    rw [laws_heldInt64S.l0, if_pos (by omega), if_pos (by omega), if_pos hr, w64 (n := a + 1) (by omega) (by omega), w64 (by omega) (by omega)]
    have := ih x (y ++ [a]) (a + 1) k (i + 1) (by rw [hx, mks_succ]; simp) (by simp [hy]) (by omega) (by omega) (by omega) (by omega)
    rw [show ((i : Int) + 1) = ((i + 1 : Nat) : Int) by omega, this]
    congr 1
    omega
theorem markI (x : List Int) (hn : x.length ≤ 1152921504606846976) (k : Nat) (hk : x.length < k) : laws_markInt64S.f k x 1 = some (1 + (x.length : Int), mks 1 x.length) := by
  rw [laws_markInt64S.f]
  have := markI_l0 x.length x 1 k 0 hn (by omega) (by omega) (by omega) hk
  simpa using this
theorem heldI (n : Nat) (hn : n ≤ 1152921504606846976) (k : Nat) (hk : n < k) : laws_heldInt64S.f k (mks 1 n) 1 = some (1 + (n : Int)) := by
  rw [laws_heldInt64S.f]
  exact heldI_l0 n (mks 1 n) [] 1 k 0 rfl rfl (by omega) (by omega) (by omega) hk

def eqD (x y : List Int) (i : Nat) : Nat → Nat → Bool
  | 0, _ => true
  | d + 1, j => decide (rd x ((i + j : Nat) : Int) = rd y (j : Int)) && eqD x y i d (j + 1)
def occ (x y : List Int) (i : Nat) : Bool := decide (i + y.length ≤ x.length) && eqD x y i y.length 0
theorem specOcc (x y : List Int) (i : Nat) (hx : x.length ≤ 64) (hi : i ≤ 64) (hy : y.length ≤ 8) (k : Nat) (hk : 9 ≤ k) : spec_l06Occurs.f k x y (i : Int) = some (occ x y i) := by
  rw [spec_l06Occurs.f, occ, w64 (by omega) (by omega)]
  by_cases h : (i : Int) + (y.length : Int) > (x.length : Int)
  · rw [if_pos h, show decide (i + y.length ≤ x.length) = false from decide_eq_false (by omega), Bool.false_and]
  · rw [if_neg h, show decide (i + y.length ≤ x.length) = true from decide_eq_true (by omega), Bool.true_and]
    have g : ∀ (d k j : Nat), j + d = y.length → d < k → spec_l06Occurs.l0 k x y (i : Int) (j : Int) = some (eqD x y i d j) := by
      intro d
      induction d with
      | zero =>
        intro k j hj hk
        obtain ⟨k, rfl⟩ := succ_of hk
        rw [spec_l06Occurs.l0, if_neg (by omega), eqD]
      | succ d ih =>
        intro k j hj hk
        obtain ⟨k, rfl⟩ := succ_of hk
        rw [spec_l06Occurs.l0, if_pos (by omega), w64 (n := (i : Int) + (j : Int)) (by omega) (by omega), if_pos (by omega), if_pos (by omega), if_pos (by omega), w64 (by omega) (by omega), eqD, show ((j : Int) + 1) = ((j + 1 : Nat) : Int) by omega, ih k (j + 1) (by omega) (by omega), show (i : Int) + (j : Int) = ((i + j : Nat) : Int) by omega]
        by_cases e : rd x ((i + j : Nat) : Int) = rd y (j : Int)
        · rw [if_pos e, decide_eq_true e, Bool.true_and]
        · rw [if_neg e, decide_eq_false e, Bool.false_and]
    exact g y.length k 0 (by omega) (by omega)
theorem implEq (x y : List Int) (i : Nat) (hi : i + y.length ≤ x.length) (hy : y.length ≤ 8) (k : Nat) (hk : 9 ≤ k) : slices_Equal_int64_int64.f k ((x.take (i + y.length)).drop i) y = some (occ x y i) := by
  have hl : ((x.take (i + y.length)).drop i).length = y.length := by rw [List.length_drop, List.length_take]; omega
  rw [slices_Equal_int64_int64.f, if_pos (by omega), occ, show decide (i + y.length ≤ x.length) = true from decide_eq_true (by omega), Bool.true_and, hl]
  have g : ∀ (d k j : Nat), j + d = y.length → d < k → slices_Equal_int64_int64.l0 k ((x.take (i + y.length)).drop i) y (y.length : Int) (j : Int) = some (eqD x y i d j) := by
    intro d
    induction d with
    | zero =>
      intro k j hj hk
      obtain ⟨k, rfl⟩ := succ_of hk
      rw [slices_Equal_int64_int64.l0, if_neg (by omega), eqD]
    | succ d ih =>
      intro k j hj hk
      obtain ⟨k, rfl⟩ := succ_of hk
      have e1 : rd ((x.take (i + y.length)).drop i) (j : Int) = rd x ((i + j : Nat) : Int) := by
        rw [rd_at (by omega), rd_at (by omega), List.getElem_drop, List.getElem_take]
      rw [slices_Equal_int64_int64.l0, if_pos (by omega), if_pos (by omega), if_pos (by omega), if_pos (by omega), w64 (by omega) (by omega), eqD, show ((j : Int) + 1) = ((j + 1 : Nat) : Int) by omega, ih k (j + 1) (by omega) (by omega), e1]
      by_cases e : rd x ((i + j : Nat) : Int) = rd y (j : Int)
      · rw [if_pos e, decide_eq_true e, Bool.true_and]
      · rw [if_neg e, decide_eq_false e, Bool.false_and]
  exact g y.length k 0 (by omega) (by omega)
def occL (x y : List Int) : Nat → Nat → List Int
  | 0, _ => []
  | d + 1, i => if occ x y i = true then (i : Int) :: occL x y d (i + 1) else occL x y d (i + 1)
theorem occL_nil (x y : List Int) (d : Nat) : ∀ i, x.length < i + y.length → occL x y d i = [] := by
  induction d with
  | zero => intro i _; rfl
  | succ d ih =>
    intro i hi
    rw [occL, occ, show decide (i + y.length ≤ x.length) = false from decide_eq_false (by omega), Bool.false_and, if_neg (by simp), ih (i + 1) (by omega)]
theorem occL_len (x y : List Int) (d : Nat) : ∀ i, (occL x y d i).length ≤ d := by
  induction d with
  | zero => intro i; exact Nat.le_refl _
  | succ d ih =>
    intro i
    have := ih (i + 1)
    rw [occL]
    split
    · simp only [List.length_cons]; omega
    · omega
theorem implOccs (x y : List Int) (hx : x.length ≤ 64) (hy : y.length ≤ 8) (hy2 : 2 ≤ y.length) (k : Nat) (hk : 100 ≤ k) : impl_occurrences.f k x y = some (occL x y x.length 0) := by
  have g : ∀ (d k i : Nat) (a : List Int), i + d = x.length → d + 20 ≤ k → a.length ≤ i → impl_occurrences.l0 k x y a (i : Int) = some (a ++ occL x y d i) := by
    intro d
    induction d with
    | zero =>
      intro k i a hi hk ha
      obtain ⟨k, rfl⟩ := succ_of (show 0 < k by omega)
      rw [impl_occurrences.l0, w64 (n := (i : Int) + (y.length : Int)) (by omega) (by omega), if_neg (by omega), occL, List.append_nil]
    | succ d ih =>
      intro k i a hi hk ha
      obtain ⟨k, rfl⟩ := succ_of (show 0 < k by omega)
      by_cases c : i + y.length ≤ x.length
      · rw [impl_occurrences.l0, w64 (n := (i : Int) + (y.length : Int)) (by omega) (by omega), if_pos (by omega), if_pos (by omega), if_pos (by omega), show ((i : Int) + (y.length : Int)).toNat = i + y.length by omega, Int.toNat_natCast, implEq x y i c hy k (by omega), Option.bind_some, w64 (n := (i : Int) + 1) (by omega) (by omega), show ((i : Int) + 1) = ((i + 1 : Nat) : Int) by omega, occL]
        by_cases e : occ x y i = true
        · rw [if_pos e, if_pos (by omega), if_pos e, ih k (i + 1) (a ++ [(i : Int)]) (by omega) (by omega) (by simp; omega), List.append_assoc]
          rfl
        · rw [if_neg e, if_neg e, ih k (i + 1) a (by omega) (by omega) (by omega)]
      · rw [impl_occurrences.l0, w64 (n := (i : Int) + (y.length : Int)) (by omega) (by omega), if_neg (by omega), occL_nil x y (d + 1) i (by omega), List.append_nil]
  exact g x.length k 0 [] (by omega) (by omega) (by simp)
theorem specFind (x y : List Int) (hx : x.length ≤ 64) (hy : y.length ≤ 8) (k : Nat) (hk : 100 ≤ k) : spec_l06Find.f k x y = some (occL x y x.length 0) := by
  have g : ∀ (d k i : Nat) (a : List Int), i + d = x.length → d + 20 ≤ k → a.length ≤ i → spec_l06Find.l0 k x y a (i : Int) = some (a ++ occL x y d i) := by
    intro d
    induction d with
    | zero =>
      intro k i a hi hk ha
      obtain ⟨k, rfl⟩ := succ_of (show 0 < k by omega)
      rw [spec_l06Find.l0, if_neg (by omega), occL, List.append_nil]
    | succ d ih =>
      intro k i a hi hk ha
      obtain ⟨k, rfl⟩ := succ_of (show 0 < k by omega)
      rw [spec_l06Find.l0, if_pos (by omega), specOcc x y i hx (by omega) hy k (by omega), Option.bind_some, w64 (n := (i : Int) + 1) (by omega) (by omega), show ((i : Int) + 1) = ((i + 1 : Nat) : Int) by omega, occL]
      by_cases e : occ x y i = true
      · rw [if_pos e, if_pos (by omega), if_pos e, ih k (i + 1) (a ++ [(i : Int)]) (by omega) (by omega) (by simp; omega), List.append_assoc]
        rfl
      · rw [if_neg e, if_neg e, ih k (i + 1) a (by omega) (by omega) (by omega)]
  exact g x.length k 0 [] (by omega) (by omega) (by simp)

end Go.Proofs.Yteljnbhbpidjpaa.Pure
