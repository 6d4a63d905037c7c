/- The law FnExactPhrasesText over lists, numbers and bytes alone. No condition. -/
import Derived.Test.YtlphcdophgkdpaaDoorIx0
import Derived.Test.YtlphcdophgkdpaaDoorIx1
import Derived.Test.YtlphcdophgkdpaaDoorIx10
import Derived.Test.YtlphcdophgkdpaaDoorIx18
import Derived.Test.YtlphcdophgkdpaaDoorIx19
import Derived.Test.YtlphcdophgkdpaaDoorIx23
import Derived.Test.YtlphcdophgkdpaaDoorIx24
import Derived.Test.YtlphcdophgkdpaaDoorIx25
import Derived.Test.YtlphcdophgkdpaaDoorIx26
import Derived.Test.YtlphcdophgkdpaaDoorIx27
import Derived.Test.YtlphcdophgkdpaaDoorIx28
import Derived.Test.YtlphcdophgkdpaaDoorTJoinI
namespace Go.Proofs.YtlphcdophgkdpaaDoor.Pure
open Go Go.RowKit Go.Proofs.YtlphcdophgkdpaaDoor.I Go.Proofs.YtlphcdophgkdpaaDoorW.PrintWords Go.Proofs.YtlphcdophgkdpaaDoorW.PrintLast
theorem w64 {n : Int} (h : -9223372036854775808 ≤ n) (h' : n ≤ 9223372036854775807) : wrap64 n = n := by unfold wrap64; omega
theorem wfi {n : Int} (h : (Lit.int .i64 n).wf = true) : -9223372036854775808 ≤ n ∧ n ≤ 9223372036854775807 := by
  have h2 : IntKind.i64.min ≤ n ∧ n ≤ IntKind.i64.max := by simpa [Lit.wf] using h
  have e1 : IntKind.i64.min = -9223372036854775808 := by decide
  have e2 : IntKind.i64.max = 9223372036854775807 := by decide
  omega
theorem succ_of {n k : Nat} (h : n < k) : ∃ m, k = m + 1 := ⟨k - 1, by omega⟩
theorem rd_at {x : List Int} {j : Nat} (h : j < x.length) : rd x (j : Int) = x[j] := by
  simp [rd, List.getD_eq_getElem?_getD, List.getElem?_eq_getElem h]
theorem take_set_snoc {α : Type} (x : List α) (i : Nat) (a : α) (h : i < x.length) : (x.set i a).take (i + 1) = x.take i ++ [a] := by
  rw [List.take_succ_eq_append_getElem (by simpa using h)]
  rw [List.take_set, List.set_eq_of_length_le (by rw [List.length_take]; omega)]
  simp
/-- The int helpers. -/
theorem eqI_l0 (d : Nat) : ∀ (x : List Int) (k i : Nat), x.length ≤ 4611686018427387904 → i + d = x.length → d < k → laws_eqInt64S.l0 k x x (i : Int) = some true := by
  induction d with
  | zero =>
    intro x k i hn hi hk
    obtain ⟨k, rfl⟩ := succ_of hk
    rw [laws_eqInt64S.l0, if_neg (by omega)]
  | succ d ih =>
    intro x k i hn hi hk
    obtain ⟨k, rfl⟩ := succ_of hk
    rw [laws_eqInt64S.l0, if_pos (by omega), if_pos (by omega), if_pos (by omega), if_pos rfl, w64 (by omega) (by omega)]
    exact ih x k (i + 1) hn (by omega) (by omega)
theorem eqI (x : List Int) (hn : x.length ≤ 4611686018427387904) (k : Nat) (hk : x.length < k) : laws_eqInt64S.f k x x = some true := by
  rw [laws_eqInt64S.f, if_pos rfl]
  exact eqI_l0 x.length x k 0 hn (by omega) hk
theorem toI_l0 (l : List Int) (hn : l.length ≤ 1048576) (d : Nat) : ∀ (y : List Int) (k i : Nat), y.length = l.length → i + d = l.length → d < k → y.take i = l.take i → laws_toInt64S.l0 k l y (i : Int) = some l := by
  induction d with
  | zero =>
    intro y k i hy hi hk ht
    obtain ⟨k, rfl⟩ := succ_of hk
    rw [laws_toInt64S.l0, if_neg (by omega)]
    rw [List.take_of_length_le (by omega), List.take_of_length_le (by omega)] at ht
    rw [ht]
  | succ d ih =>
    intro y k i hy hi hk ht
    obtain ⟨k, rfl⟩ := succ_of hk
    rw [laws_toInt64S.l0, if_pos (by omega), if_pos (by omega), if_pos (by omega), w64 (by omega) (by omega)]
    have := ih (y.set i l[i]) k (i + 1) (by simpa using hy) (by omega) (by omega) (by
      rw [take_set_snoc _ _ _ (by omega), ht, List.take_succ_eq_append_getElem (by omega)])
    rw [rd_at (by omega), Int.toNat_natCast]
    exact this
theorem toI (l : List Int) (hn : l.length ≤ 1048576) (k : Nat) (hk : 1048577 ≤ k) : laws_toInt64S.f k l = some l := by
  rw [laws_toInt64S.f, if_pos (by omega), if_pos (by omega)]
  exact toI_l0 l hn l.length _ k 0 (by simp) (by omega) (by omega) (by simp)
def inB (a lo hi : Int) : Bool := decide (lo ≤ a ∧ a ≤ hi)
theorem specIn (a lo hi : Int) : spec_l00In.f a lo hi = some (inB a lo hi) := by
  unfold spec_l00In.f inB
  by_cases h : a ≥ lo
  · rw [if_pos h]; congr 1; rw [decide_eq_decide]; exact ⟨fun h2 => ⟨h, h2⟩, fun h2 => h2.2⟩
  · rw [if_neg h]; congr 1; symm; rw [decide_eq_false_iff_not]; exact fun h2 => h h2.1
def allP (x : List Int) : Bool := x.all (inB · (-12) 23)
theorem specPit (x : List Int) (hn : x.length ≤ 1048576) (k : Nat) (hk : x.length < k) : spec_l05Pitches.f k x = some (allP x && decide (x.length ≤ 64)) := by
  have h : ∀ (d k i : Nat), i + d = x.length → d < k → spec_l05Pitches.l0 k x (i : Int) = some ((x.drop i).all (inB · (-12) 23) && decide (x.length ≤ 64)) := by
    intro d
    induction d with
    | zero =>
      intro k i hi hk
      obtain ⟨k, rfl⟩ := succ_of hk
      rw [spec_l05Pitches.l0, if_neg (by omega), List.drop_eq_nil_of_le (by omega)]
      simp only [List.all_nil, Bool.true_and]
      congr 1
      rw [decide_eq_decide]
      omega
    | succ d ih =>
      intro k i hi hk
      obtain ⟨k, rfl⟩ := succ_of hk
      have hlt : i < x.length := by omega
      rw [spec_l05Pitches.l0, if_pos (by omega), if_pos (by omega), rd_at hlt, List.drop_eq_getElem_cons hlt, List.all_cons, w64 (by omega) (by omega), spec_l03Pitch.f, specIn, show ((i : Int) + 1) = ((i + 1 : Nat) : Int) by omega, ih k (i + 1) (by omega) (by omega)]
      cases inB x[i] (-12) 23 <;> simp
  rw [spec_l05Pitches.f]
  have := h x.length k 0 (by omega) hk
  simpa [allP] using this
def phr (y : List Int) : Bool := allP y && decide (2 ≤ y.length ∧ y.length ≤ 8)
theorem specPhr (y : List Int) (hn : y.length ≤ 1048576) (k : Nat) (hk : y.length < k) : spec_l06Phrase.f k y = some (phr y) := by
  rw [spec_l06Phrase.f, specPit y hn k hk, phr]
  simp only [Option.bind_some]
  by_cases h2 : 2 ≤ y.length
  · by_cases h3 : y.length ≤ 8
    · rw [if_pos (show (y.length : Int) ≥ 2 by omega), decide_eq_true (show (y.length : Int) ≤ 8 by omega), decide_eq_true (show y.length ≤ 64 by omega), decide_eq_true (show 2 ≤ y.length ∧ y.length ≤ 8 from ⟨h2, h3⟩)]
      cases allP y <;> rfl
    · rw [if_pos (show (y.length : Int) ≥ 2 by omega), decide_eq_false (show ¬ (y.length : Int) ≤ 8 by omega), decide_eq_false (show ¬ (2 ≤ y.length ∧ y.length ≤ 8) by omega)]
      cases allP y <;> cases decide (y.length ≤ 64) <;> rfl
  · rw [if_neg (show ¬ (y.length : Int) ≥ 2 by omega), decide_eq_false (show ¬ (2 ≤ y.length ∧ y.length ≤ 8) by omega)]
    cases allP y <;> cases decide (y.length ≤ 64) <;> rfl
theorem implAll (x : List Int) : impl_allWithin.f x (-12) 23 = some (allP x) := rfl
theorem implPhr (y : List Int) : impl_phraseOk.f y = some (phr y) := by
  rw [impl_phraseOk.f, implAll, phr]
  by_cases h2 : (y.length : Int) ≥ 2
  · rw [if_pos h2]
    by_cases h3 : (y.length : Int) ≤ 8
    · rw [if_pos h3, show decide (2 ≤ y.length ∧ y.length ≤ 8) = true from decide_eq_true (by omega)]
      cases allP y <;> rfl
    · rw [if_neg h3, show decide (2 ≤ y.length ∧ y.length ≤ 8) = false from decide_eq_false (by omega), Bool.and_false]
  · rw [if_neg h2, show decide (2 ≤ y.length ∧ y.length ≤ 8) = false from decide_eq_false (by omega), Bool.and_false]
/-- Order of two rows: the first is before the second. -/
def bef (x y : List Int) : Nat → Nat → Bool
  | 0, _ => decide (x.length < y.length)
  | d + 1, i => if i < y.length then (if rd x (i : Int) = rd y (i : Int) then bef x y d (i + 1) else decide (rd x (i : Int) < rd y (i : Int))) else decide (x.length < y.length)
def befB (x y : List Int) : Bool := bef x y x.length 0
theorem specBef (x y : List Int) (hx : x.length ≤ 1048576) (hy : y.length ≤ 1048576) (k : Nat) (hk : 2100000 ≤ k) : spec_l06Before.f k x y = some (befB x y) := by
  have h : ∀ (d k i : Nat), i + d = x.length → 2 * d + 2 ≤ k → spec_l06Before.l0 k x y (i : Int) = some (bef x y d i) := by
    have hj : ∀ k (i : Int) b, spec_l06Before.j1 (k + 1) x y i b = if b = true then (if 0 ≤ i then (if i < (x.length : Int) then (if i < (y.length : Int) then (if (rd x i) = (rd y i) then (spec_l06Before.l0 k x y (wrap64 (i + 1))) else (some (decide ((rd x i) < (rd y i))))) else (none)) else (none)) else (none)) else (some (decide ((x.length : Int) < (y.length : Int)))) := fun _ _ _ => rfl
    intro d
    induction d with
    | zero =>
      intro k i hi hk
      obtain ⟨k, rfl⟩ := succ_of (show 0 < k by omega)
      obtain ⟨k, rfl⟩ := succ_of (show 0 < k by omega)
      rw [spec_l06Before.l0, if_neg (by omega), hj, if_neg (by simp), bef]
      congr 1
      rw [decide_eq_decide]
      omega
    | succ d ih =>
      intro k i hi hk
      obtain ⟨k, rfl⟩ := succ_of (show 0 < k by omega)
      obtain ⟨k, rfl⟩ := succ_of (show 0 < k by omega)
      rw [spec_l06Before.l0, if_pos (by omega), hj, bef]
      by_cases c : i < y.length
      · rw [decide_eq_true (show (i : Int) < (y.length : Int) by omega), if_pos rfl, if_pos (by omega), if_pos (by omega), if_pos (by omega), if_pos c, w64 (by omega) (by omega), show ((i : Int) + 1) = ((i + 1 : Nat) : Int) by omega, ih k (i + 1) (by omega) (by omega)]
        split <;> rfl
      · rw [decide_eq_false (show ¬ (i : Int) < (y.length : Int) by omega), if_neg (by simp), if_neg c]
        congr 1
        rw [decide_eq_decide]
        omega
  exact h x.length k 0 (by omega) (by omega)
theorem implCmp (x y : List Int) (hx : x.length ≤ 1048576) (hy : y.length ≤ 1048576) (k : Nat) (hk : 2100000 ≤ k) : ∃ r : Int, slices_Compare_int64_int64.f k x y = some r ∧ decide (r ≥ 0) = !(befB x y) := by
  have h : ∀ (d k i : Nat), i + d = x.length → d + 2 ≤ k → i ≤ y.length → ∃ r : Int, slices_Compare_int64_int64.l0 k x y x (x.length : Int) (i : Int) = some r ∧ decide (r ≥ 0) = !(bef x y d i) := by
    intro d
    induction d with
    | zero =>
      intro k i hi hk hy
      obtain ⟨k, rfl⟩ := succ_of (show 0 < k by omega)
      rw [slices_Compare_int64_int64.l0, if_neg (by omega), bef]
      by_cases c : x.length < y.length
      · rw [if_pos (by omega), decide_eq_true c]
        exact ⟨-1, rfl, rfl⟩
      · rw [if_neg (by omega), decide_eq_false c]
        exact ⟨0, rfl, rfl⟩
    | succ d ih =>
      intro k i hi hk hyy
      obtain ⟨k, rfl⟩ := succ_of (show 0 < k by omega)
      rw [slices_Compare_int64_int64.l0, if_pos (by omega), if_pos (by omega), if_pos (by omega), bef]
      by_cases c : i < y.length
      · rw [if_neg (by omega), if_pos (by omega), if_pos c, w64 (by omega) (by omega), show ((i : Int) + 1) = ((i + 1 : Nat) : Int) by omega]
        by_cases e : rd x (i : Int) = rd y (i : Int)
        · rw [if_pos e]
          obtain ⟨r, h1, h2⟩ := ih k (i + 1) (by omega) (by omega) (by omega)
          refine ⟨r, ?_, h2⟩
          rw [e, show cmp_Compare_int64.f (rd y (i : Int)) (rd y (i : Int)) = some 0 from by simp [cmp_Compare_int64.f, cmp_isNaN_int64.f], Option.bind_some, if_pos rfl, h1]
        · rw [if_neg e]
          by_cases g : rd x (i : Int) < rd y (i : Int)
          · rw [decide_eq_true g]
            refine ⟨-1, ?_, rfl⟩
            rw [show cmp_Compare_int64.f (rd x (i : Int)) (rd y (i : Int)) = some (-1) from by simp [cmp_Compare_int64.f, cmp_isNaN_int64.f, g], Option.bind_some, if_neg (by decide)]
          · rw [decide_eq_false g]
            refine ⟨1, ?_, rfl⟩
            rw [show cmp_Compare_int64.f (rd x (i : Int)) (rd y (i : Int)) = some 1 from by simp [cmp_Compare_int64.f, cmp_isNaN_int64.f, g, show rd x (i : Int) > rd y (i : Int) by omega], Option.bind_some, if_neg (by decide)]
      · rw [if_pos (by omega), if_neg c, decide_eq_false (by omega)]
        exact ⟨1, rfl, rfl⟩
  exact h x.length k 0 (by omega) (by omega) (by omega)
theorem rdR_at {x : List (List Int)} {j : Nat} (h : j < x.length) : rd_L9 x (j : Int) = x[j] := by
  simp [rd_L9, List.getD_eq_getElem?_getD, List.getElem?_eq_getElem h]
theorem szR_l0 (l : List (List Int)) (hn : l.length ≤ 1048576) (hv : ∀ x ∈ l, x.length ≤ maxLen) (d : Nat) : ∀ (k i : Nat) (a : Int), i + d = l.length → d < k → 0 ≤ a → a ≤ 1048576 → ∃ t, laws_szInt64SS.l0 k l a (i : Int) = some t ∧ (¬ t < 0 → ∀ j, i ≤ j → (h : j < l.length) → l[j].length ≤ 1048576) := by
  induction d with
  | zero =>
    intro k i a hi hk _ _
    obtain ⟨k, rfl⟩ := succ_of hk
    exact ⟨a, by rw [laws_szInt64SS.l0, if_neg (by omega)], fun _ j h1 h2 => by omega⟩
  | succ d ih =>
    intro k i a hi hk h0 h1
    obtain ⟨k, rfl⟩ := succ_of hk
    have hlt : i < l.length := by omega
    have hm := hv l[i] (List.getElem_mem hlt)
    unfold maxLen at hm
    rw [laws_szInt64SS.l0, if_pos (by omega), if_pos (by omega), w64 (n := (i : Int) + 1) (by omega) (by omega), laws_szInt64S.f, rdR_at hlt, w64 (n := a - (l[i].length : Int)) (by omega) (by omega)]
    rw [show ((i : Int) + 1) = ((i + 1 : Nat) : Int) by omega]
    by_cases h : a - (l[i].length : Int) < 0
    · rw [if_pos h]
      exact ⟨-1, rfl, fun h => absurd (by decide) h⟩
    · rw [if_neg h, Option.bind_some, if_neg h]
      obtain ⟨t, ht, hg⟩ := ih k (i + 1) (a - (l[i].length : Int)) (by omega) (by omega) (by omega) (by omega)
      refine ⟨t, ht, fun hn j h1 h2 => ?_⟩
      by_cases e : j = i
      · subst e; omega
      · exact hg hn j (by omega) h2
theorem szR (l : List (List Int)) (h : l.length ≤ maxLen) (hv : ∀ x ∈ l, x.length ≤ maxLen) (k : Nat) (hk : 1048577 ≤ k) : ∃ t, laws_szInt64SS.f k l 1048576 = some t ∧ (¬ t < 0 → l.length ≤ 1048576 ∧ ∀ x ∈ l, x.length ≤ 1048576) := by
  unfold maxLen at h
  rw [laws_szInt64SS.f, w64 (by omega) (by omega)]
  by_cases c : (1048576 : Int) - l.length < 0
  · rw [if_pos c]
    exact ⟨-1, rfl, fun h => absurd (by decide) h⟩
  · rw [if_neg c]
    obtain ⟨t, ht, hg⟩ := szR_l0 l (by omega) hv l.length k 0 (1048576 - l.length) (by omega) (by omega) (by omega) (by omega)
    refine ⟨t, ht, fun hn => ⟨by omega, fun x hx => ?_⟩⟩
    obtain ⟨j, hj, rfl⟩ := List.getElem_of_mem hx
    exact hg hn j (by omega) hj
theorem toR_l0 (l : List (List Int)) (hn : l.length ≤ 1048576) (hv : ∀ x ∈ l, x.length ≤ 1048576) (d : Nat) : ∀ (y : List (List Int)) (k i : Nat), y.length = l.length → i + d = l.length → d + 1048577 ≤ k → y.take i = l.take i →
    laws_toInt64SS.l0 k l y (i : Int) = some l := by
  induction d with
  | zero =>
    intro y k i hy hi hk ht
    obtain ⟨k, rfl⟩ := succ_of (show 0 < k by omega)
    rw [laws_toInt64SS.l0, if_neg (by omega)]
    rw [List.take_of_length_le (by omega), List.take_of_length_le (by omega)] at ht
    rw [ht]
  | succ d ih =>
    intro y k i hy hi hk ht
    obtain ⟨k, rfl⟩ := succ_of (show 0 < k by omega)
    have hlt : i < l.length := by omega
    rw [laws_toInt64SS.l0, if_pos (by omega), if_pos (by omega), rdR_at hlt, toI l[i] (hv _ (List.getElem_mem hlt)) k (by omega), Option.bind_some, if_pos (by omega), w64 (by omega) (by omega), Int.toNat_natCast]
    exact ih (y.set i l[i]) k (i + 1) (by simpa using hy) (by omega) (by omega) (by
      rw [take_set_snoc _ _ _ (by omega), ht, List.take_succ_eq_append_getElem (by omega)])
theorem toR (l : List (List Int)) (hn : l.length ≤ 1048576) (hv : ∀ x ∈ l, x.length ≤ 1048576) (k : Nat) (hk : 2100000 ≤ k) : laws_toInt64SS.f k l = some l := by
  rw [laws_toInt64SS.f, if_pos (by omega), if_pos (by omega)]
  exact toR_l0 l hn hv l.length _ k 0 (by simp) (by omega) (by omega) (by simp)
theorem eqR (l : List (List Int)) (hn : l.length ≤ 1048576) (hv : ∀ x ∈ l, x.length ≤ 1048576) (k : Nat) (hk : 2100000 ≤ k) : laws_eqInt64SS.f k l l = some true := by
  have h : ∀ (d k i : Nat), i + d = l.length → d + 1048578 ≤ k → laws_eqInt64SS.l0 k l l (i : Int) = some true := by
    intro d
    induction d with
    | zero =>
      intro k i hi hk
      obtain ⟨k, rfl⟩ := succ_of (show 0 < k by omega)
      rw [laws_eqInt64SS.l0, if_neg (by omega)]
    | succ d ih =>
      intro k i hi hk
      obtain ⟨k, rfl⟩ := succ_of (show 0 < k by omega)
      have hlt : i < l.length := by omega
      have hm := hv l[i] (List.getElem_mem hlt)
      rw [laws_eqInt64SS.l0, if_pos (by omega), if_pos (by omega), if_pos (by omega), rdR_at hlt, eqI l[i] (by omega) k (by omega), Option.bind_some, if_pos rfl, w64 (by omega) (by omega)]
      exact ih k (i + 1) (by omega) (by omega)
  rw [laws_eqInt64SS.f, if_pos rfl]
  exact h l.length k 0 (by omega) (by omega)
def chkR (x : List (List Int)) : Nat → Nat → Bool
  | 0, _ => true
  | d + 1, i => phr (rd_L9 x (i : Int)) && (if i = 0 then true else befB (rd_L9 x ((i - 1 : Nat) : Int)) (rd_L9 x (i : Int))) && chkR x d (i + 1)
theorem specOkR (x : List (List Int)) (hn : x.length ≤ 1048576) (hv : ∀ y ∈ x, y.length ≤ 1048576) (k : Nat) (hk : 4000000 ≤ k) : spec_l06Ok.f k x = some (chkR x x.length 0 && decide (x.length ≤ 12)) := by
  have hr : ∀ j : Nat, j < x.length → (rd_L9 x (j : Int)).length ≤ 1048576 := fun j hj => by rw [rdR_at hj]; exact hv _ (List.getElem_mem hj)
  have h : ∀ (d k i : Nat), i + d = x.length → d + 2200000 ≤ k → spec_l06Ok.l0 k x (i : Int) = some (chkR x d i && decide (x.length ≤ 12)) := by
    intro d
    induction d with
    | zero =>
      intro k i hi hk
      obtain ⟨k, rfl⟩ := succ_of (show 0 < k by omega)
      rw [spec_l06Ok.l0, if_neg (by omega), chkR, Bool.true_and]
      congr 1
      rw [decide_eq_decide]
      omega
    | succ d ih =>
      intro k i hi hk
      obtain ⟨k, rfl⟩ := succ_of (show 0 < k by omega)
      have h1 := hr i (by omega)
      have h2 := ih k (i + 1) (by omega) (by omega)
      rw [spec_l06Ok.l0, if_pos (by omega), if_pos (by omega), specPhr _ h1 k (by omega), Option.bind_some, chkR, w64 (n := (i : Int) + 1) (by omega) (by omega), w64 (n := (i : Int) - 1) (by omega) (by omega), show ((i : Int) + 1) = ((i + 1 : Nat) : Int) by omega, h2]
      cases phr (rd_L9 x (i : Int)) with
      | false => simp
      | true =>
        rw [if_pos rfl, Bool.true_and]
        by_cases h0 : i = 0
        · rw [if_neg (by omega), if_pos h0, Bool.true_and]
        · have h3 := hr (i - 1) (by omega)
          rw [if_pos (by omega), if_neg h0, if_pos (by omega), if_pos (by omega), show (i : Int) - 1 = ((i - 1 : Nat) : Int) by omega, specBef _ _ h3 h1 k (by omega), Option.bind_some]
          cases befB (rd_L9 x ((i - 1 : Nat) : Int)) (rd_L9 x (i : Int)) <;> simp
  exact h x.length k 0 (by omega) (by omega)
theorem implOkR (x : List (List Int)) (hn : x.length ≤ 1048576) (hv : ∀ y ∈ x, y.length ≤ 1048576) (k : Nat) (hk : 4000000 ≤ k) : impl_ValidPhrases.f k x = some (chkR x x.length 0 && decide (x.length ≤ 12)) := by
  have hr : ∀ j : Nat, j < x.length → (rd_L9 x (j : Int)).length ≤ 1048576 := fun j hj => by rw [rdR_at hj]; exact hv _ (List.getElem_mem hj)
  have h : ∀ (d k i : Nat), i + d = x.length → d + 2200000 ≤ k → impl_ValidPhrases.l0 k x x (x.length : Int) (i : Int) = some (chkR x d i) := by
    intro d
    induction d with
    | zero =>
      intro k i hi hk
      obtain ⟨k, rfl⟩ := succ_of (show 0 < k by omega)
      rw [impl_ValidPhrases.l0, if_neg (by omega), chkR]
    | succ d ih =>
      intro k i hi hk
      obtain ⟨k, rfl⟩ := succ_of (show 0 < k by omega)
      have h1 := hr i (by omega)
      have h2 := ih k (i + 1) (by omega) (by omega)
      rw [impl_ValidPhrases.l0, if_pos (by omega), if_pos (by omega), if_pos (by omega), implPhr, Option.bind_some, chkR, w64 (n := (i : Int) + 1) (by omega) (by omega), w64 (n := (i : Int) - 1) (by omega) (by omega), show ((i : Int) + 1) = ((i + 1 : Nat) : Int) by omega, h2]
      cases phr (rd_L9 x (i : Int)) with
      | false => simp
      | true =>
        rw [if_pos rfl, Bool.true_and]
        by_cases h0 : i = 0
        · rw [if_neg (by omega), if_pos h0, Bool.true_and]
        · have h3 := hr (i - 1) (by omega)
          obtain ⟨r, e1, e2⟩ := implCmp _ _ h3 h1 k (by omega)
          rw [if_pos (by omega), if_neg h0, if_pos (by omega), if_pos (by omega), show (i : Int) - 1 = ((i - 1 : Nat) : Int) by omega, e1, Option.bind_some]
          cases hb : befB (rd_L9 x ((i - 1 : Nat) : Int)) (rd_L9 x (i : Int)) with
          | false =>
            rw [hb] at e2
            rw [if_pos (of_decide_eq_true e2)]
            simp
          | true =>
            rw [hb] at e2
            rw [if_neg (of_decide_eq_false e2)]
            simp
  rw [impl_ValidPhrases.f]
  by_cases c : (x.length : Int) > 12
  · rw [if_pos c, decide_eq_false (show ¬ x.length ≤ 12 by omega), Bool.and_false]
  · rw [if_neg c, decide_eq_true (show x.length ≤ 12 by omega), Bool.and_true]
    exact h x.length k 0 (by omega) (by omega)
theorem chkR_all (x : List (List Int)) : ∀ (d i : Nat), i + d = x.length → chkR x d i = true → ∀ j, i ≤ j → (h : j < x.length) → phr x[j] = true
  | 0, i, hi, _, j, h1, h2 => by omega
  | d + 1, i, hi, hc, j, h1, h2 => by
    rw [chkR, Bool.and_eq_true, Bool.and_eq_true, rdR_at (show i < x.length by omega)] at hc
    by_cases c : j = i
    · subst c
      exact hc.1.1
    · exact chkR_all x d (i + 1) (by omega) hc.2 j (by omega) h2
theorem phr_ok (y : List Int) (h : phr y = true) : 0 < y.length ∧ y.length ≤ 64 ∧ ∀ z ∈ y, -1000000000000 ≤ z ∧ z ≤ 1000000000000 := by
  rw [phr, Bool.and_eq_true, decide_eq_true_eq, allP, List.all_eq_true] at h
  refine ⟨by omega, by omega, fun z hz => ?_⟩
  have := h.1 z hz
  simp only [inB, decide_eq_true_eq] at this
  omega
/-- The text of one phrase. -/
def phT (x : List Int) : List UInt8 := tx x x.length
structure PhOk (m : List (List Int)) : Prop where
  len : m.length ≤ 12
  all : ∀ x ∈ m, 0 < x.length ∧ x.length ≤ 64 ∧ ∀ z ∈ x, -1000000000000 ≤ z ∧ z ≤ 1000000000000
theorem ph_len {m : List (List Int)} (hm : PhOk m) : ∀ y ∈ m.map phT, y.length ≤ 1408 := by
  intro y hy
  obtain ⟨z, hz, rfl⟩ := List.mem_map.1 hy
  have := hm.all z hz
  exact tx_len z z.length this.2.1 (fun w hw => by have := this.2.2 w hw; exact ⟨by omega, by omega⟩)
theorem phs_l0 (m : List (List Int)) (hm : PhOk m) : ∀ (d i k : Nat), i + d = m.length → 1300 + d < k →
    spec_l06Text.l0 k m (bA (jt (m.map phT) [59] i)) (i : Int) = some (bA (jt (m.map phT) [59] m.length))
  | 0, i, k, hi, hk => by
    obtain ⟨k, rfl⟩ := dsucc (n := 0) (k := k) (by omega)
    rw [spec_l06Text.l0, if_neg (by omega), show i = m.length by omega]
  | d + 1, i, k, hi, hk => by
    have hl := hm.len
    have hx := hm.all m[i] (List.getElem_mem (show i < m.length by omega))
    have hs : (jt (m.map phT) [59] i).length ≤ 12 * (1408 + 1) := jt_len (m.map phT) [59] 1408 12 (by rw [List.length_map]; exact hl) (ph_len hm) i
    have hj := jt_succ (m.map phT) [59] i (by rw [List.length_map]; omega)
    rw [List.getElem_map] at hj
    obtain ⟨k, rfl⟩ := dsucc (n := 0) (k := k) (by omega)
    have hp := list_spec m[i] hx.1 hx.2.1 (fun w hw => by have := hx.2.2 w hw; exact ⟨by omega, by omega⟩) k (by omega)
    have hpl := tx_len m[i] m[i].length hx.2.1 (fun w hw => by have := hx.2.2 w hw; exact ⟨by omega, by omega⟩)
    have go := phs_l0 m hm d (i + 1) k (by omega) (by omega)
    rw [spec_l06Text.l0, if_pos (by omega)]
    by_cases c : i = 0
    · subst c
      rw [if_pos rfl] at hj
      rw [if_neg (by omega), if_pos (by omega), rdR_at (by omega), hp, Option.bind_some, if_pos (by rw [bA_size, bA_size]; omega), dw64 (by omega) (by omega), bA_app]
      rw [show jt (m.map phT) [59] 0 ++ tx m[0] m[0].length = jt (m.map phT) [59] (0 + 1) by rw [hj, jt_zero]; rfl]
      exact go
    · rw [if_neg c] at hj
      rw [if_pos (by omega), if_pos (by rw [bA_size]; omega), if_pos (by omega), rdR_at (by omega), hp, Option.bind_some, show bA (jt (m.map phT) [59] i) ++ (⟨#[59]⟩ : ByteArray) = bA (jt (m.map phT) [59] i ++ [59]) from bA_app _ [59], if_pos (by rw [bA_size, bA_size, List.length_append, List.length_singleton]; omega), dw64 (by omega) (by omega), bA_app]
      rw [show (jt (m.map phT) [59] i ++ [59]) ++ tx m[i] m[i].length = jt (m.map phT) [59] (i + 1) by rw [hj, List.append_assoc]; rfl, show ((i : Int) + 1) = ((i + 1 : Nat) : Int) by omega]
      exact go
theorem phs_i0 (m : List (List Int)) (hm : PhOk m) : ∀ (d i k : Nat), i + d = m.length → 1300 + d < k →
    impl_PhrasesText.l0 k (((m.map phT).take i).map bA) m (m.length : Int) (i : Int) = some (bA (jt (m.map phT) [59] m.length))
  | 0, i, k, hi, hk => by
    have hl := hm.len
    obtain ⟨k, rfl⟩ := dsucc (n := 0) (k := k) (by omega)
    have hs : (jt (m.map phT) [59] m.length).length ≤ 12 * (1408 + 1) := jt_len (m.map phT) [59] 1408 12 (by rw [List.length_map]; exact hl) (ph_len hm) m.length
    have hjn := join_f (m.map phT) [59] (by rw [List.length_map]; omega) (by rw [List.length_map]; omega)
    rw [List.length_map] at hjn
    rw [impl_PhrasesText.l0, if_neg (by omega), List.take_of_length_le (by rw [List.length_map]; omega)]
    rw [show (⟨#[59]⟩ : ByteArray) = bA [59] from rfl, hjn, Option.bind_some]
  | d + 1, i, k, hi, hk => by
    have hl := hm.len
    have hx := hm.all m[i] (List.getElem_mem (show i < m.length by omega))
    obtain ⟨k, rfl⟩ := dsucc (n := 0) (k := k) (by omega)
    have hlen : (((m.map phT).take i).map bA).length ≤ 12 := by rw [List.length_map, List.length_take, List.length_map]; omega
    have ht : ((m.map phT).take (i + 1)).map bA = ((m.map phT).take i).map bA ++ [bA (phT m[i])] := by
      rw [List.take_succ_eq_append_getElem (by rw [List.length_map]; omega), List.map_append, List.getElem_map]
      rfl
    have go := phs_i0 m hm d (i + 1) k (by omega) (by omega)
    rw [ht] at go
    rw [impl_PhrasesText.l0, if_pos (by omega), if_pos (by omega), if_pos (by omega), rdR_at (by omega), list_impl m[i] hx.1 hx.2.1 hx.2.2 k (by omega), Option.bind_some, if_pos (by omega), dw64 (by omega) (by omega), show ((i : Int) + 1) = ((i + 1 : Nat) : Int) by omega]
    exact go
theorem phs_both (x : List (List Int)) (hn : x.length ≤ 1048576) (hv : ∀ y ∈ x, y.length ≤ 1048576) : ∃ t, spec_PhrasesText.f 4000000 x = some t ∧ impl_PhrasesText.f 4000000 x = some t := by
  rw [spec_PhrasesText.f, impl_PhrasesText.f, specOkR x hn hv 4000000 (by omega), implOkR x hn hv 4000000 (by omega), Option.bind_some, Option.bind_some]
  cases q : (chkR x x.length 0 && decide (x.length ≤ 12))
  · exact ⟨_, rfl, rfl⟩
  · rw [Bool.and_eq_true, decide_eq_true_eq] at q
    have hm : PhOk x := ⟨q.2, fun y hy => by
      obtain ⟨j, hj, rfl⟩ := List.getElem_of_mem hy
      exact phr_ok _ (chkR_all x x.length 0 (by omega) q.1 j (by omega) hj)⟩
    have a := phs_l0 x hm x.length 0 4000000 (by omega) (by have := hm.len; omega)
    have b := phs_i0 x hm x.length 0 4000000 (by omega) (by have := hm.len; omega)
    rw [jt_zero] at a
    rw [if_pos rfl, if_pos rfl, spec_l06Text.f]
    have a' : spec_l06Text.l0 4000000 x (⟨#[]⟩ : ByteArray) 0 = some (bA (jt (x.map phT) [59] x.length)) := a
    refine ⟨_, by rw [a', Option.bind_some], ?_⟩
    exact b
theorem FnExactPhrasesText : laws_FnExactPhrasesText.Pure := by
  intro l0 h0
  refine ⟨4000000, ?_⟩
  obtain ⟨t, ht, hl⟩ := szR l0 h0.1 (fun x hx => (h0.2 x hx).1) 4000000 (by omega)
  rw [laws_FnExactPhrasesText.f, ht, Option.bind_some]
  by_cases c : t < 0
  · rw [if_pos c]
  · obtain ⟨hn, hv⟩ := hl c
    have T := toR l0 hn hv 4000000 (by omega)
    have E := eqR l0 hn hv 4000000 (by omega)
    obtain ⟨s, h1, h2⟩ := phs_both l0 hn hv
    rw [if_neg c]
    simp only [T, Option.bind_some, h1, h2]
    rw [if_pos trivial, E, Option.bind_some, if_pos rfl]
end Go.Proofs.YtlphcdophgkdpaaDoor.Pure
