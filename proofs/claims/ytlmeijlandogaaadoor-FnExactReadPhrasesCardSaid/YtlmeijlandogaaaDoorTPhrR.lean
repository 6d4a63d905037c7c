/- Phrases: their test and their text. No condition. -/
import Derived.Test.YtlmeijlandogaaaDoorRx0
import Derived.Test.YtlmeijlandogaaaDoorRx7
import Derived.Test.YtlmeijlandogaaaDoorRx23
import Derived.Test.YtlmeijlandogaaaDoorRx30
import Derived.Test.YtlmeijlandogaaaDoorTCoreR
import Derived.Test.YtlmeijlandogaaaDoorBaseR
namespace Go.Proofs.YtlmeijlandogaaaDoor.Pure
open Go Go.RowKit Go.Proofs.YtlmeijlandogaaaDoor.R Go.Proofs.YtlmeijlandogaaaDoorW.PrintWords Go.Proofs.YtlmeijlandogaaaDoorW.PrintLast
def inB (a lo hi : Int) : Bool := decide (lo ≤ a ∧ a ≤ hi)
theorem specIn (a lo hi : Int) : spec_l00In.f a lo hi = some (inB a lo hi) := by
  unfold spec_l00In.f inB
  by_cases h : a ≥ lo
  · rw [if_pos h]; congr 1; rw [decide_eq_decide]; exact ⟨fun h2 => ⟨h, h2⟩, fun h2 => h2.2⟩
  · rw [if_neg h]; congr 1; symm; rw [decide_eq_false_iff_not]; exact fun h2 => h h2.1
def allP (x : List Int) : Bool := x.all (inB · (-12) 23)
theorem specPit (x : List Int) (hn : x.length ≤ 1048576) (k : Nat) (hk : x.length < k) : spec_l05Pitches.f k x = some (allP x && decide (x.length ≤ 64)) := by
  have h : ∀ (d k i : Nat), i + d = x.length → d < k → spec_l05Pitches.l0 k x (i : Int) = some ((x.drop i).all (inB · (-12) 23) && decide (x.length ≤ 64)) := by
    intro d
    induction d with
    | zero =>
      intro k i hi hk
      obtain ⟨k, rfl⟩ := succ_of hk
      rw [spec_l05Pitches.l0, if_neg (by omega), List.drop_eq_nil_of_le (by omega)]
      simp only [List.all_nil, Bool.true_and]
      congr 1
      rw [decide_eq_decide]
      omega
    | succ d ih =>
      intro k i hi hk
      obtain ⟨k, rfl⟩ := succ_of hk
      have hlt : i < x.length := by omega
      rw [spec_l05Pitches.l0, if_pos (by omega), if_pos (by omega), rd_at hlt, List.drop_eq_getElem_cons hlt, List.all_cons, w64 (by omega) (by omega), spec_l03Pitch.f, specIn, show ((i : Int) + 1) = ((i + 1 : Nat) : Int) by omega, ih k (i + 1) (by omega) (by omega)]
      cases inB x[i] (-12) 23 <;> simp
  rw [spec_l05Pitches.f]
  have := h x.length k 0 (by omega) hk
  simpa [allP] using this
def phr (y : List Int) : Bool := allP y && decide (2 ≤ y.length ∧ y.length ≤ 8)
theorem specPhr (y : List Int) (hn : y.length ≤ 1048576) (k : Nat) (hk : y.length < k) : spec_l06Phrase.f k y = some (phr y) := by
  rw [spec_l06Phrase.f, specPit y hn k hk, phr]
  simp only [Option.bind_some]
  by_cases h2 : 2 ≤ y.length
  · by_cases h3 : y.length ≤ 8
    · rw [if_pos (show (y.length : Int) ≥ 2 by omega), decide_eq_true (show (y.length : Int) ≤ 8 by omega), decide_eq_true (show y.length ≤ 64 by omega), decide_eq_true (show 2 ≤ y.length ∧ y.length ≤ 8 from ⟨h2, h3⟩)]
      cases allP y <;> rfl
    · rw [if_pos (show (y.length : Int) ≥ 2 by omega), decide_eq_false (show ¬ (y.length : Int) ≤ 8 by omega), decide_eq_false (show ¬ (2 ≤ y.length ∧ y.length ≤ 8) by omega)]
      cases allP y <;> cases decide (y.length ≤ 64) <;> rfl
  · rw [if_neg (show ¬ (y.length : Int) ≥ 2 by omega), decide_eq_false (show ¬ (2 ≤ y.length ∧ y.length ≤ 8) by omega)]
    cases allP y <;> cases decide (y.length ≤ 64) <;> rfl
theorem implAll (x : List Int) : impl_allWithin.f x (-12) 23 = some (allP x) := rfl
theorem implPhr (y : List Int) : impl_phraseOk.f y = some (phr y) := by
  rw [impl_phraseOk.f, implAll, phr]
  by_cases h2 : (y.length : Int) ≥ 2
  · rw [if_pos h2]
    by_cases h3 : (y.length : Int) ≤ 8
    · rw [if_pos h3, show decide (2 ≤ y.length ∧ y.length ≤ 8) = true from decide_eq_true (by omega)]
      cases allP y <;> rfl
    · rw [if_neg h3, show decide (2 ≤ y.length ∧ y.length ≤ 8) = false from decide_eq_false (by omega), Bool.and_false]
  · rw [if_neg h2, show decide (2 ≤ y.length ∧ y.length ≤ 8) = false from decide_eq_false (by omega), Bool.and_false]
/-- Order of two rows: the first is before the second. -/
def bef (x y : List Int) : Nat → Nat → Bool
  | 0, _ => decide (x.length < y.length)
  | d + 1, i => if i < y.length then (if rd x (i : Int) = rd y (i : Int) then bef x y d (i + 1) else decide (rd x (i : Int) < rd y (i : Int))) else decide (x.length < y.length)
def befB (x y : List Int) : Bool := bef x y x.length 0
theorem specBef (x y : List Int) (hx : x.length ≤ 1048576) (hy : y.length ≤ 1048576) (k : Nat) (hk : 2100000 ≤ k) : spec_l06Before.f k x y = some (befB x y) := by
  have h : ∀ (d k i : Nat), i + d = x.length → 2 * d + 2 ≤ k → spec_l06Before.l0 k x y (i : Int) = some (bef x y d i) := by
    have hj : ∀ k (i : Int) b, spec_l06Before.j1 (k + 1) x y i b = if b = true then (if 0 ≤ i then (if i < (x.length : Int) then (if i < (y.length : Int) then (if (rd x i) = (rd y i) then (spec_l06Before.l0 k x y (wrap64 (i + 1))) else (some (decide ((rd x i) < (rd y i))))) else (none)) else (none)) else (none)) else (some (decide ((x.length : Int) < (y.length : Int)))) := fun _ _ _ => rfl
    intro d
    induction d with
    | zero =>
      intro k i hi hk
      obtain ⟨k, rfl⟩ := succ_of (show 0 < k by omega)
      obtain ⟨k, rfl⟩ := succ_of (show 0 < k by omega)
      rw [spec_l06Before.l0, if_neg (by omega), hj, if_neg (by simp), bef]
      congr 1
      rw [decide_eq_decide]
      omega
    | succ d ih =>
      intro k i hi hk
      obtain ⟨k, rfl⟩ := succ_of (show 0 < k by omega)
      obtain ⟨k, rfl⟩ := succ_of (show 0 < k by omega)
      rw [spec_l06Before.l0, if_pos (by omega), hj, bef]
      by_cases c : i < y.length
      · rw [decide_eq_true (show (i : Int) < (y.length : Int) by omega), if_pos rfl, if_pos (by omega), if_pos (by omega), if_pos (by omega), if_pos c, w64 (by omega) (by omega), show ((i : Int) + 1) = ((i + 1 : Nat) : Int) by omega, ih k (i + 1) (by omega) (by omega)]
        split <;> rfl
      · rw [decide_eq_false (show ¬ (i : Int) < (y.length : Int) by omega), if_neg (by simp), if_neg c]
        congr 1
        rw [decide_eq_decide]
        omega
  exact h x.length k 0 (by omega) (by omega)
theorem implCmp (x y : List Int) (hx : x.length ≤ 1048576) (hy : y.length ≤ 1048576) (k : Nat) (hk : 2100000 ≤ k) : ∃ r : Int, slices_Compare_int64_int64.f k x y = some r ∧ decide (r ≥ 0) = !(befB x y) := by
  have h : ∀ (d k i : Nat), i + d = x.length → d + 2 ≤ k → i ≤ y.length → ∃ r : Int, slices_Compare_int64_int64.l0 k x y x (x.length : Int) (i : Int) = some r ∧ decide (r ≥ 0) = !(bef x y d i) := by
    intro d
    induction d with
    | zero =>
      intro k i hi hk hy
      obtain ⟨k, rfl⟩ := succ_of (show 0 < k by omega)
      rw [slices_Compare_int64_int64.l0, if_neg (by omega), bef]
      by_cases c : x.length < y.length
      · rw [if_pos (by omega), decide_eq_true c]
        exact ⟨-1, rfl, rfl⟩
      · rw [if_neg (by omega), decide_eq_false c]
        exact ⟨0, rfl, rfl⟩
    | succ d ih =>
      intro k i hi hk hyy
      obtain ⟨k, rfl⟩ := succ_of (show 0 < k by omega)
      rw [slices_Compare_int64_int64.l0, if_pos (by omega), if_pos (by omega), if_pos (by omega), bef]
      by_cases c : i < y.length
      · rw [if_neg (by omega), if_pos (by omega), if_pos c, w64 (by omega) (by omega), show ((i : Int) + 1) = ((i + 1 : Nat) : Int) by omega]
        by_cases e : rd x (i : Int) = rd y (i : Int)
        · rw [if_pos e]
          obtain ⟨r, h1, h2⟩ := ih k (i + 1) (by omega) (by omega) (by omega)
          refine ⟨r, ?_, h2⟩
          rw [e, show cmp_Compare_int64.f (rd y (i : Int)) (rd y (i : Int)) = some 0 from by simp [cmp_Compare_int64.f, cmp_isNaN_int64.f], Option.bind_some, if_pos rfl, h1]
        · rw [if_neg e]
          by_cases g : rd x (i : Int) < rd y (i : Int)
          · rw [decide_eq_true g]
            refine ⟨-1, ?_, rfl⟩
            rw [show cmp_Compare_int64.f (rd x (i : Int)) (rd y (i : Int)) = some (-1) from by simp [cmp_Compare_int64.f, cmp_isNaN_int64.f, g], Option.bind_some, if_neg (by decide)]
          · rw [decide_eq_false g]
            refine ⟨1, ?_, rfl⟩
            rw [show cmp_Compare_int64.f (rd x (i : Int)) (rd y (i : Int)) = some 1 from by simp [cmp_Compare_int64.f, cmp_isNaN_int64.f, g, show rd x (i : Int) > rd y (i : Int) by omega], Option.bind_some, if_neg (by decide)]
      · rw [if_pos (by omega), if_neg c, decide_eq_false (by omega)]
        exact ⟨1, rfl, rfl⟩
  exact h x.length k 0 (by omega) (by omega) (by omega)
theorem rdR_at {x : List (List Int)} {j : Nat} (h : j < x.length) : rd_L3 x (j : Int) = x[j] := by
  simp [rd_L3, List.getD_eq_getElem?_getD, List.getElem?_eq_getElem h]
theorem eqR (l : List (List Int)) (hn : l.length ≤ 1048576) (hv : ∀ x ∈ l, x.length ≤ 1048576) (k : Nat) (hk : 2100000 ≤ k) : laws_eqInt64SS.f k l l = some true := by
  have h : ∀ (d k i : Nat), i + d = l.length → d + 1048578 ≤ k → laws_eqInt64SS.l0 k l l (i : Int) = some true := by
    intro d
    induction d with
    | zero =>
      intro k i hi hk
      obtain ⟨k, rfl⟩ := succ_of (show 0 < k by omega)
      rw [laws_eqInt64SS.l0, if_neg (by omega)]
    | succ d ih =>
      intro k i hi hk
      obtain ⟨k, rfl⟩ := succ_of (show 0 < k by omega)
      have hlt : i < l.length := by omega
      have hm := hv l[i] (List.getElem_mem hlt)
      rw [laws_eqInt64SS.l0, if_pos (by omega), if_pos (by omega), if_pos (by omega), rdR_at hlt, eqI l[i] (by omega) k (by omega), Option.bind_some, if_pos rfl, w64 (by omega) (by omega)]
      exact ih k (i + 1) (by omega) (by omega)
  rw [laws_eqInt64SS.f, if_pos rfl]
  exact h l.length k 0 (by omega) (by omega)
def chkR (x : List (List Int)) : Nat → Nat → Bool
  | 0, _ => true
  | d + 1, i => phr (rd_L3 x (i : Int)) && (if i = 0 then true else befB (rd_L3 x ((i - 1 : Nat) : Int)) (rd_L3 x (i : Int))) && chkR x d (i + 1)
theorem specOkR (x : List (List Int)) (hn : x.length ≤ 1048577) (hv : ∀ y ∈ x, y.length ≤ 1048576) (k : Nat) (hk : 4000000 ≤ k) : spec_l06Ok.f k x = some (chkR x x.length 0 && decide (x.length ≤ 12)) := by
  have hr : ∀ j : Nat, j < x.length → (rd_L3 x (j : Int)).length ≤ 1048576 := fun j hj => by rw [rdR_at hj]; exact hv _ (List.getElem_mem hj)
  have h : ∀ (d k i : Nat), i + d = x.length → d + 2200000 ≤ k → spec_l06Ok.l0 k x (i : Int) = some (chkR x d i && decide (x.length ≤ 12)) := by
    intro d
    induction d with
    | zero =>
      intro k i hi hk
      obtain ⟨k, rfl⟩ := succ_of (show 0 < k by omega)
      rw [spec_l06Ok.l0, if_neg (by omega), chkR, Bool.true_and]
      congr 1
      rw [decide_eq_decide]
      omega
    | succ d ih =>
      intro k i hi hk
      obtain ⟨k, rfl⟩ := succ_of (show 0 < k by omega)
      have h1 := hr i (by omega)
      have h2 := ih k (i + 1) (by omega) (by omega)
      rw [spec_l06Ok.l0, if_pos (by omega), if_pos (by omega), specPhr _ h1 k (by omega), Option.bind_some, chkR, w64 (n := (i : Int) + 1) (by omega) (by omega), w64 (n := (i : Int) - 1) (by omega) (by omega), show ((i : Int) + 1) = ((i + 1 : Nat) : Int) by omega, h2]
      cases phr (rd_L3 x (i : Int)) with
      | false => simp
      | true =>
        rw [if_pos rfl, Bool.true_and]
        by_cases h0 : i = 0
        · rw [if_neg (by omega), if_pos h0, Bool.true_and]
        · have h3 := hr (i - 1) (by omega)
          rw [if_pos (by omega), if_neg h0, if_pos (by omega), if_pos (by omega), show (i : Int) - 1 = ((i - 1 : Nat) : Int) by omega, specBef _ _ h3 h1 k (by omega), Option.bind_some]
          cases befB (rd_L3 x ((i - 1 : Nat) : Int)) (rd_L3 x (i : Int)) <;> simp
  exact h x.length k 0 (by omega) (by omega)
theorem implOkR (x : List (List Int)) (hn : x.length ≤ 1048576) (hv : ∀ y ∈ x, y.length ≤ 1048576) (k : Nat) (hk : 4000000 ≤ k) : impl_ValidPhrases.f k x = some (chkR x x.length 0 && decide (x.length ≤ 12)) := by
  have hr : ∀ j : Nat, j < x.length → (rd_L3 x (j : Int)).length ≤ 1048576 := fun j hj => by rw [rdR_at hj]; exact hv _ (List.getElem_mem hj)
  have h : ∀ (d k i : Nat), i + d = x.length → d + 2200000 ≤ k → impl_ValidPhrases.l0 k x x (x.length : Int) (i : Int) = some (chkR x d i) := by
    intro d
    induction d with
    | zero =>
      intro k i hi hk
      obtain ⟨k, rfl⟩ := succ_of (show 0 < k by omega)
      rw [impl_ValidPhrases.l0, if_neg (by omega), chkR]
    | succ d ih =>
      intro k i hi hk
      obtain ⟨k, rfl⟩ := succ_of (show 0 < k by omega)
      have h1 := hr i (by omega)
      have h2 := ih k (i + 1) (by omega) (by omega)
      rw [impl_ValidPhrases.l0, if_pos (by omega), if_pos (by omega), if_pos (by omega), implPhr, Option.bind_some, chkR, w64 (n := (i : Int) + 1) (by omega) (by omega), w64 (n := (i : Int) - 1) (by omega) (by omega), show ((i : Int) + 1) = ((i + 1 : Nat) : Int) by omega, h2]
      cases phr (rd_L3 x (i : Int)) with
      | false => simp
      | true =>
        rw [if_pos rfl, Bool.true_and]
        by_cases h0 : i = 0
        · rw [if_neg (by omega), if_pos h0, Bool.true_and]
        · have h3 := hr (i - 1) (by omega)
          obtain ⟨r, e1, e2⟩ := implCmp _ _ h3 h1 k (by omega)
          rw [if_pos (by omega), if_neg h0, if_pos (by omega), if_pos (by omega), show (i : Int) - 1 = ((i - 1 : Nat) : Int) by omega, e1, Option.bind_some]
          cases hb : befB (rd_L3 x ((i - 1 : Nat) : Int)) (rd_L3 x (i : Int)) with
          | false =>
            rw [hb] at e2
            rw [if_pos (of_decide_eq_true e2)]
            simp
          | true =>
            rw [hb] at e2
            rw [if_neg (of_decide_eq_false e2)]
            simp
  rw [impl_ValidPhrases.f]
  by_cases c : (x.length : Int) > 12
  · rw [if_pos c, decide_eq_false (show ¬ x.length ≤ 12 by omega), Bool.and_false]
  · rw [if_neg c, decide_eq_true (show x.length ≤ 12 by omega), Bool.and_true]
    exact h x.length k 0 (by omega) (by omega)
theorem chkR_all (x : List (List Int)) : ∀ (d i : Nat), i + d = x.length → chkR x d i = true → ∀ j, i ≤ j → (h : j < x.length) → phr x[j] = true
  | 0, i, hi, _, j, h1, h2 => by omega
  | d + 1, i, hi, hc, j, h1, h2 => by
    rw [chkR, Bool.and_eq_true, Bool.and_eq_true, rdR_at (show i < x.length by omega)] at hc
    by_cases c : j = i
    · subst c
      exact hc.1.1
    · exact chkR_all x d (i + 1) (by omega) hc.2 j (by omega) h2
theorem phr_ok (y : List Int) (h : phr y = true) : 0 < y.length ∧ y.length ≤ 64 ∧ ∀ z ∈ y, -1000000000000 ≤ z ∧ z ≤ 1000000000000 := by
  rw [phr, Bool.and_eq_true, decide_eq_true_eq, allP, List.all_eq_true] at h
  refine ⟨by omega, by omega, fun z hz => ?_⟩
  have := h.1 z hz
  simp only [inB, decide_eq_true_eq] at this
  omega
/-- The text of one phrase. -/
def phT (x : List Int) : List UInt8 := tx x x.length
structure PhOk (m : List (List Int)) : Prop where
  len : m.length ≤ 12
  all : ∀ x ∈ m, 0 < x.length ∧ x.length ≤ 64 ∧ ∀ z ∈ x, -1000000000000 ≤ z ∧ z ≤ 1000000000000
theorem ph_len {m : List (List Int)} (hm : PhOk m) : ∀ y ∈ m.map phT, y.length ≤ 1408 := by
  intro y hy
  obtain ⟨z, hz, rfl⟩ := List.mem_map.1 hy
  have := hm.all z hz
  exact tx_len z z.length this.2.1 (fun w hw => by have := this.2.2 w hw; exact ⟨by omega, by omega⟩)
theorem phs_i0 (m : List (List Int)) (hm : PhOk m) : ∀ (d i k : Nat), i + d = m.length → 1300 + d < k →
    impl_PhrasesText.l0 k (((m.map phT).take i).map bA) m (m.length : Int) (i : Int) = some (bA (jt (m.map phT) [59] m.length))
  | 0, i, k, hi, hk => by
    have hl := hm.len
    obtain ⟨k, rfl⟩ := dsucc (n := 0) (k := k) (by omega)
    have hs : (jt (m.map phT) [59] m.length).length ≤ 12 * (1408 + 1) := jt_len (m.map phT) [59] 1408 12 (by rw [List.length_map]; exact hl) (ph_len hm) m.length
    have hjn := join_f (m.map phT) [59] (by rw [List.length_map]; omega) (by rw [List.length_map]; omega)
    rw [List.length_map] at hjn
    rw [impl_PhrasesText.l0, if_neg (by omega), List.take_of_length_le (by rw [List.length_map]; omega)]
    rw [show (⟨#[59]⟩ : ByteArray) = bA [59] from rfl, hjn, Option.bind_some]
  | d + 1, i, k, hi, hk => by
    have hl := hm.len
    have hx := hm.all m[i] (List.getElem_mem (show i < m.length by omega))
    obtain ⟨k, rfl⟩ := dsucc (n := 0) (k := k) (by omega)
    have hlen : (((m.map phT).take i).map bA).length ≤ 12 := by rw [List.length_map, List.length_take, List.length_map]; omega
    have ht : ((m.map phT).take (i + 1)).map bA = ((m.map phT).take i).map bA ++ [bA (phT m[i])] := by
      rw [List.take_succ_eq_append_getElem (by rw [List.length_map]; omega), List.map_append, List.getElem_map]
      rfl
    have go := phs_i0 m hm d (i + 1) k (by omega) (by omega)
    rw [ht] at go
    rw [impl_PhrasesText.l0, if_pos (by omega), if_pos (by omega), if_pos (by omega), rdR_at (by omega), list_impl m[i] hx.1 hx.2.1 hx.2.2 k (by omega), Option.bind_some, if_pos (by omega), dw64 (by omega) (by omega), show ((i : Int) + 1) = ((i + 1 : Nat) : Int) by omega]
    exact go
end Go.Proofs.YtlmeijlandogaaaDoor.Pure
