/- The law FnExactValidPhrases over lists alone. No condition. -/
import Derived.Test.YtnnblnbepnfbhaaM2x0
import Derived.Test.YtnnblnbepnfbhaaM2x17
import Derived.Test.YtnnblnbepnfbhaaM2x19
import Derived.Test.YtnnblnbepnfbhaaM2x20
import Derived.Test.YtnnblnbepnfbhaaM2x22
import Derived.Test.YtnnblnbepnfbhaaM2x23
import Derived.Test.YtnnblnbepnfbhaaM2x24
import Derived.Test.YtnnblnbepnfbhaaOcc
import Derived.Test.YtnnblnbepnfbhaaPTo
import Derived.Test.YtnnblnbepnfbhaaBef
namespace Go.Proofs.Ytnnblnbepnfbhaa.Pure
open Go.RowKit Go.Proofs.Ytnnblnbepnfbhaa.M2 Go.Proofs.YtnnblnbepnfbhaaW.PrintWords Go.Proofs.YtnnblnbepnfbhaaW.PrintLast
theorem rdR_at {x : List (List Int)} {j : Nat} (h : j < x.length) : rd_L1 x (j : Int) = x[j] := by
  simp [rd_L1, List.getD_eq_getElem?_getD, List.getElem?_eq_getElem h]
theorem szR_l0 (l : List (List Int)) (hn : l.length ≤ 1048576) (hv : ∀ x ∈ l, x.length ≤ maxLen) (d : Nat) : ∀ (k i : Nat) (a : Int), i + d = l.length → d < k → 0 ≤ a → a ≤ 1048576 → ∃ t, laws_szInt64SS.l0 k l a (i : Int) = some t ∧ (¬ t < 0 → ∀ j, i ≤ j → (h : j < l.length) → l[j].length ≤ 1048576) := by
  induction d with
  | zero =>
    intro k i a hi hk _ _
    obtain ⟨k, rfl⟩ := succ_of hk
    exact ⟨a, by rw [laws_szInt64SS.l0, if_neg (by omega)], fun _ j h1 h2 => by omega⟩
  | succ d ih =>
    intro k i a hi hk h0 h1
    obtain ⟨k, rfl⟩ := succ_of hk
    have hlt : i < l.length := by omega
    have hm := hv l[i] (List.getElem_mem hlt)
    unfold maxLen at hm
    rw [laws_szInt64SS.l0, if_pos (by omega), if_pos (by omega), w64 (n := (i : Int) + 1) (by omega) (by omega), laws_szInt64S.f, rdR_at hlt, w64 (n := a - (l[i].length : Int)) (by omega) (by omega)]
    rw [show ((i : Int) + 1) = ((i + 1 : Nat) : Int) by omega]
    by_cases h : a - (l[i].length : Int) < 0
    · rw [if_pos h]
      exact ⟨-1, rfl, fun h => absurd (by decide) h⟩
    · rw [if_neg h, Option.bind_some, if_neg h]
      obtain ⟨t, ht, hg⟩ := ih k (i + 1) (a - (l[i].length : Int)) (by omega) (by omega) (by omega) (by omega)
      refine ⟨t, ht, fun hn j h1 h2 => ?_⟩
      by_cases e : j = i
      · subst e; omega
      · exact hg hn j (by omega) h2
theorem szR (l : List (List Int)) (h : l.length ≤ maxLen) (hv : ∀ x ∈ l, x.length ≤ maxLen) (k : Nat) (hk : 1048577 ≤ k) : ∃ t, laws_szInt64SS.f k l 1048576 = some t ∧ (¬ t < 0 → l.length ≤ 1048576 ∧ ∀ x ∈ l, x.length ≤ 1048576) := by
  unfold maxLen at h
  rw [laws_szInt64SS.f, w64 (by omega) (by omega)]
  by_cases c : (1048576 : Int) - l.length < 0
  · rw [if_pos c]
    exact ⟨-1, rfl, fun h => absurd (by decide) h⟩
  · rw [if_neg c]
    obtain ⟨t, ht, hg⟩ := szR_l0 l (by omega) hv l.length k 0 (1048576 - l.length) (by omega) (by omega) (by omega) (by omega)
    refine ⟨t, ht, fun hn => ⟨by omega, fun x hx => ?_⟩⟩
    obtain ⟨j, hj, rfl⟩ := List.getElem_of_mem hx
    exact hg hn j (by omega) hj
theorem toR_l0 (l : List (List Int)) (hn : l.length ≤ 1048576) (hv : ∀ x ∈ l, x.length ≤ 1048576) (d : Nat) : ∀ (y : List (List Int)) (k i : Nat), y.length = l.length → i + d = l.length → d + 1048577 ≤ k → y.take i = l.take i →
    laws_toInt64SS.l0 k l y (i : Int) = some l := by
  induction d with
  | zero =>
    intro y k i hy hi hk ht
    obtain ⟨k, rfl⟩ := succ_of (show 0 < k by omega)
    rw [laws_toInt64SS.l0, if_neg (by omega)]
    rw [List.take_of_length_le (by omega), List.take_of_length_le (by omega)] at ht
    rw [ht]
  | succ d ih =>
    intro y k i hy hi hk ht
    obtain ⟨k, rfl⟩ := succ_of (show 0 < k by omega)
    have hlt : i < l.length := by omega
    rw [laws_toInt64SS.l0, if_pos (by omega), if_pos (by omega), rdR_at hlt, toI l[i] (hv _ (List.getElem_mem hlt)) k (by omega), Option.bind_some, if_pos (by omega), w64 (by omega) (by omega), Int.toNat_natCast]
    exact ih (y.set i l[i]) k (i + 1) (by simpa using hy) (by omega) (by omega) (by
      rw [take_set_snoc _ _ _ (by omega), ht, List.take_succ_eq_append_getElem (by omega)])
theorem toR (l : List (List Int)) (hn : l.length ≤ 1048576) (hv : ∀ x ∈ l, x.length ≤ 1048576) (k : Nat) (hk : 2100000 ≤ k) : laws_toInt64SS.f k l = some l := by
  rw [laws_toInt64SS.f, if_pos (by omega), if_pos (by omega)]
  exact toR_l0 l hn hv l.length _ k 0 (by simp) (by omega) (by omega) (by simp)
theorem eqR (l : List (List Int)) (hn : l.length ≤ 1048576) (hv : ∀ x ∈ l, x.length ≤ 1048576) (k : Nat) (hk : 2100000 ≤ k) : laws_eqInt64SS.f k l l = some true := by
  have h : ∀ (d k i : Nat), i + d = l.length → d + 1048578 ≤ k → laws_eqInt64SS.l0 k l l (i : Int) = some true := by
    intro d
    induction d with
    | zero =>
      intro k i hi hk
      obtain ⟨k, rfl⟩ := succ_of (show 0 < k by omega)
      rw [laws_eqInt64SS.l0, if_neg (by omega)]
    | succ d ih =>
      intro k i hi hk
      obtain ⟨k, rfl⟩ := succ_of (show 0 < k by omega)
      have hlt : i < l.length := by omega
      have hm := hv l[i] (List.getElem_mem hlt)
      rw [laws_eqInt64SS.l0, if_pos (by omega), if_pos (by omega), if_pos (by omega), rdR_at hlt, eqI l[i] (by omega) k (by omega), Option.bind_some, if_pos rfl, w64 (by omega) (by omega)]
      exact ih k (i + 1) (by omega) (by omega)
  rw [laws_eqInt64SS.f, if_pos rfl]
  exact h l.length k 0 (by omega) (by omega)
def chkR (x : List (List Int)) : Nat → Nat → Bool
  | 0, _ => true
  | d + 1, i => phr (rd_L1 x (i : Int)) && (if i = 0 then true else befB (rd_L1 x ((i - 1 : Nat) : Int)) (rd_L1 x (i : Int))) && chkR x d (i + 1)
theorem specOkR (x : List (List Int)) (hn : x.length ≤ 1048576) (hv : ∀ y ∈ x, y.length ≤ 1048576) (k : Nat) (hk : 4000000 ≤ k) : spec_l06Ok.f k x = some (chkR x x.length 0 && decide (x.length ≤ 12)) := by
  have hr : ∀ j : Nat, j < x.length → (rd_L1 x (j : Int)).length ≤ 1048576 := fun j hj => by rw [rdR_at hj]; exact hv _ (List.getElem_mem hj)
  have h : ∀ (d k i : Nat), i + d = x.length → d + 2200000 ≤ k → spec_l06Ok.l0 k x (i : Int) = some (chkR x d i && decide (x.length ≤ 12)) := by
    intro d
    induction d with
    | zero =>
      intro k i hi hk
      obtain ⟨k, rfl⟩ := succ_of (show 0 < k by omega)
      rw [spec_l06Ok.l0, if_neg (by omega), chkR, Bool.true_and]
      congr 1
      rw [decide_eq_decide]
      omega
    | succ d ih =>
      intro k i hi hk
      obtain ⟨k, rfl⟩ := succ_of (show 0 < k by omega)
      have h1 := hr i (by omega)
      have h2 := ih k (i + 1) (by omega) (by omega)
      rw [spec_l06Ok.l0, if_pos (by omega), if_pos (by omega), specPhr _ h1 k (by omega), Option.bind_some, chkR, w64 (n := (i : Int) + 1) (by omega) (by omega), w64 (n := (i : Int) - 1) (by omega) (by omega), show ((i : Int) + 1) = ((i + 1 : Nat) : Int) by omega, h2]
      cases phr (rd_L1 x (i : Int)) with
      | false => simp
      | true =>
        rw [if_pos rfl, Bool.true_and]
        by_cases h0 : i = 0
        · rw [if_neg (by omega), if_pos h0, Bool.true_and]
        · have h3 := hr (i - 1) (by omega)
          rw [if_pos (by omega), if_neg h0, if_pos (by omega), if_pos (by omega), show (i : Int) - 1 = ((i - 1 : Nat) : Int) by omega, specBef _ _ h3 h1 k (by omega), Option.bind_some]
          cases befB (rd_L1 x ((i - 1 : Nat) : Int)) (rd_L1 x (i : Int)) <;> simp
  exact h x.length k 0 (by omega) (by omega)
theorem implOkR (x : List (List Int)) (hn : x.length ≤ 1048576) (hv : ∀ y ∈ x, y.length ≤ 1048576) (k : Nat) (hk : 4000000 ≤ k) : impl_ValidPhrases.f k x = some (chkR x x.length 0 && decide (x.length ≤ 12)) := by
  have hr : ∀ j : Nat, j < x.length → (rd_L1 x (j : Int)).length ≤ 1048576 := fun j hj => by rw [rdR_at hj]; exact hv _ (List.getElem_mem hj)
  have h : ∀ (d k i : Nat), i + d = x.length → d + 2200000 ≤ k → impl_ValidPhrases.l0 k x x (x.length : Int) (i : Int) = some (chkR x d i) := by
    intro d
    induction d with
    | zero =>
      intro k i hi hk
      obtain ⟨k, rfl⟩ := succ_of (show 0 < k by omega)
      rw [impl_ValidPhrases.l0, if_neg (by omega), chkR]
    | succ d ih =>
      intro k i hi hk
      obtain ⟨k, rfl⟩ := succ_of (show 0 < k by omega)
      have h1 := hr i (by omega)
      have h2 := ih k (i + 1) (by omega) (by omega)
      rw [impl_ValidPhrases.l0, if_pos (by omega), if_pos (by omega), if_pos (by omega), implPhr, Option.bind_some, chkR, w64 (n := (i : Int) + 1) (by omega) (by omega), w64 (n := (i : Int) - 1) (by omega) (by omega), show ((i : Int) + 1) = ((i + 1 : Nat) : Int) by omega, h2]
      cases phr (rd_L1 x (i : Int)) with
      | false => simp
      | true =>
        rw [if_pos rfl, Bool.true_and]
        by_cases h0 : i = 0
        · rw [if_neg (by omega), if_pos h0, Bool.true_and]
        · have h3 := hr (i - 1) (by omega)
          obtain ⟨r, e1, e2⟩ := implCmp _ _ h3 h1 k (by omega)
          rw [if_pos (by omega), if_neg h0, if_pos (by omega), if_pos (by omega), show (i : Int) - 1 = ((i - 1 : Nat) : Int) by omega, e1, Option.bind_some]
          cases hb : befB (rd_L1 x ((i - 1 : Nat) : Int)) (rd_L1 x (i : Int)) with
          | false =>
            rw [hb] at e2
            rw [if_pos (of_decide_eq_true e2)]
            simp
          | true =>
            rw [hb] at e2
            rw [if_neg (of_decide_eq_false e2)]
            simp
  rw [impl_ValidPhrases.f]
  by_cases c : (x.length : Int) > 12
  · rw [if_pos c, decide_eq_false (show ¬ x.length ≤ 12 by omega), Bool.and_false]
  · rw [if_neg c, decide_eq_true (show x.length ≤ 12 by omega), Bool.and_true]
    exact h x.length k 0 (by omega) (by omega)
theorem FnExactValidPhrases : laws_FnExactValidPhrases.Pure := by
  intro l0 h0
  obtain ⟨k, hk⟩ : ∃ k, 4000000 ≤ k := ⟨_, Nat.le_refl _⟩
  refine ⟨k, ?_⟩
  obtain ⟨t, ht, hl⟩ := szR l0 h0.1 (fun x hx => (h0.2 x hx).1) k (by omega)
  rw [laws_FnExactValidPhrases.f, ht, Option.bind_some]
  by_cases c : t < 0
  · rw [if_pos c]
  · obtain ⟨hn, hv⟩ := hl c
    have T := toR l0 hn hv k (by omega)
    have E := eqR l0 hn hv k (by omega)
    have S := specOkR l0 hn hv k hk
    have I := implOkR l0 hn hv k hk
    rw [if_neg c]
    simp only [T, Option.bind_some, spec_ValidPhrases.f, S, I, E, bne_self_eq_false, Bool.false_eq_true, if_false, if_true]

end Go.Proofs.Ytnnblnbepnfbhaa.Pure
