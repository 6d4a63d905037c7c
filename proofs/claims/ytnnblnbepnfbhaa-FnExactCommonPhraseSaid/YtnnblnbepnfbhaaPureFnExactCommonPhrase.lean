/- The law FnExactCommonPhrase over lists alone. No condition. -/
import Derived.Test.YtnnblnbepnfbhaaM2x0
import Derived.Test.YtnnblnbepnfbhaaM2x6
import Derived.Test.YtnnblnbepnfbhaaM2x8
import Derived.Test.YtnnblnbepnfbhaaM2x11
import Derived.Test.YtnnblnbepnfbhaaM2x12
import Derived.Test.YtnnblnbepnfbhaaM2x15
import Derived.Test.YtnnblnbepnfbhaaM2x18
import Derived.Test.YtnnblnbepnfbhaaM2x21
import Derived.Test.YtnnblnbepnfbhaaM2x24
import Derived.Test.YtnnblnbepnfbhaaM2x25
import Derived.Test.YtnnblnbepnfbhaaM2x26
import Derived.Test.YtnnblnbepnfbhaaM2x27
import Derived.Test.YtnnblnbepnfbhaaOcc
import Derived.Test.YtnnblnbepnfbhaaPTo
import Derived.Test.YtnnblnbepnfbhaaBef
namespace Go.Proofs.Ytnnblnbepnfbhaa.Pure
open Go.RowKit Go.Proofs.Ytnnblnbepnfbhaa.M2 Go.Proofs.YtnnblnbepnfbhaaW.PrintWords Go.Proofs.YtnnblnbepnfbhaaW.PrintLast
theorem implOccs1 (x y : List Int) (hx : x.length ≤ 64) (hy : y.length ≤ 8) (hy2 : 1 ≤ y.length) (k : Nat) (hk : 100 ≤ k) : impl_occurrences.f k x y = some (occL x y x.length 0) := by
  have g : ∀ (d k i : Nat) (a : List Int), i + d = x.length → d + 20 ≤ k → a.length ≤ i → impl_occurrences.l0 k x y a (i : Int) = some (a ++ occL x y d i) := by
    intro d
    induction d with
    | zero =>
      intro k i a hi hk ha
      obtain ⟨k, rfl⟩ := succ_of (show 0 < k by omega)
      rw [impl_occurrences.l0, w64 (n := (i : Int) + (y.length : Int)) (by omega) (by omega), if_neg (by omega), occL, List.append_nil]
    | succ d ih =>
      intro k i a hi hk ha
      obtain ⟨k, rfl⟩ := succ_of (show 0 < k by omega)
      by_cases c : i + y.length ≤ x.length
      · rw [impl_occurrences.l0, w64 (n := (i : Int) + (y.length : Int)) (by omega) (by omega), if_pos (by omega), if_pos (by omega), if_pos (by omega), show ((i : Int) + (y.length : Int)).toNat = i + y.length by omega, Int.toNat_natCast, implEq x y i c hy k (by omega), Option.bind_some, w64 (n := (i : Int) + 1) (by omega) (by omega), show ((i : Int) + 1) = ((i + 1 : Nat) : Int) by omega, occL]
        by_cases e : occ x y i = true
        · rw [if_pos e, if_pos (by omega), if_pos e, ih k (i + 1) (a ++ [(i : Int)]) (by omega) (by omega) (by simp; omega), List.append_assoc]
          rfl
        · rw [if_neg e, if_neg e, ih k (i + 1) a (by omega) (by omega) (by omega)]
      · rw [impl_occurrences.l0, w64 (n := (i : Int) + (y.length : Int)) (by omega) (by omega), if_neg (by omega), occL_nil x y (d + 1) i (by omega), List.append_nil]
  exact g x.length k 0 [] (by omega) (by omega) (by simp)
theorem eqD_iff (x y : List Int) (i d : Nat) : ∀ j : Nat, eqD x y i d j = true ↔ ∀ t, j ≤ t → t < j + d → rd x ((i + t : Nat) : Int) = rd y (t : Int) := by
  induction d with
  | zero => intro j; exact ⟨fun _ t h1 h2 => by omega, fun _ => rfl⟩
  | succ d ih =>
    intro j
    rw [eqD, Bool.and_eq_true, decide_eq_true_eq, ih (j + 1)]
    constructor
    · rintro ⟨h1, h2⟩ t h3 h4
      by_cases e : t = j
      · subst e; exact h1
      · exact h2 t (by omega) (by omega)
    · intro h
      exact ⟨h j (by omega) (by omega), fun t h1 h2 => h t (by omega) (by omega)⟩
theorem occL_iff (x y : List Int) (d : Nat) : ∀ i, (occL x y d i).length = 0 ↔ ∀ p, i ≤ p → p < i + d → occ x y p = false := by
  induction d with
  | zero => intro i; exact ⟨fun _ p h1 h2 => by omega, fun _ => rfl⟩
  | succ d ih =>
    intro i
    rw [occL]
    cases h : occ x y i with
    | true =>
      rw [if_pos rfl, List.length_cons]
      constructor
      · intro h; omega
      · intro g
        have := g i (by omega) (by omega)
        rw [h] at this
        exact absurd this (by simp)
    | false =>
      rw [if_neg (by simp), ih (i + 1)]
      constructor
      · intro g p h1 h2
        by_cases e : p = i
        · subst e; exact h
        · exact g p (by omega) (by omega)
      · intro g p h1 h2
        exact g p (by omega) (by omega)
def sub (x : List Int) (i n : Nat) : List Int := (x.take (i + n)).drop i
theorem sub_len (x : List Int) (i n : Nat) (h : i + n ≤ x.length) : (sub x i n).length = n := by rw [sub, List.length_drop, List.length_take]; omega
theorem sub_rd (x : List Int) (i n t : Nat) (h : i + n ≤ x.length) (ht : t < n) : rd (sub x i n) (t : Int) = rd x ((i + t : Nat) : Int) := by
  have hl := sub_len x i n h
  rw [rd_at (by omega), rd_at (by omega)]
  simp only [sub, List.getElem_drop, List.getElem_take]
theorem none_more (x z : List Int) (i n : Nat) (h : i + (n + 1) ≤ x.length) (h0 : (occL z (sub x i n) z.length 0).length = 0) : (occL z (sub x i (n + 1)) z.length 0).length = 0 := by
  rw [occL_iff] at h0 ⊢
  intro p h1 h2
  have g := h0 p h1 h2
  cases e : occ z (sub x i (n + 1)) p with
  | false => rfl
  | true =>
    rw [occ, Bool.and_eq_true, decide_eq_true_eq, sub_len x i (n + 1) h, eqD_iff] at e
    have : occ z (sub x i n) p = true := by
      rw [occ, Bool.and_eq_true, decide_eq_true_eq, sub_len x i n (by omega), eqD_iff]
      refine ⟨by omega, fun t h3 h4 => ?_⟩
      rw [e.2 t h3 (by omega), sub_rd x i (n + 1) t h (by omega), sub_rd x i n t (by omega) (by omega)]
    rw [this] at g
    exact absurd g (by simp)
def better (y b : List Int) : List Int := if (y.length : Int) > (b.length : Int) then y else if (y.length : Int) = (b.length : Int) then (if befB y b = true then y else b) else b
def inn (x z : List Int) (i : Nat) : Nat → Nat → List Int → List Int
  | 0, _, b => b
  | d + 1, n, b => if i + n ≤ x.length then (if (occL z (sub x i n) z.length 0).length = 0 then b else inn x z i d (n + 1) (better (sub x i n) b)) else b
theorem better_len {y b : List Int} (h1 : y.length ≤ 8) (h2 : b.length ≤ 8) : (better y b).length ≤ 8 := by
  unfold better
  split
  · exact h1
  · split
    · split
      · exact h1
      · exact h2
    · exact h2
theorem inn_len (x z : List Int) (i d : Nat) : ∀ (n : Nat) (b : List Int), n + d = 9 → b.length ≤ 8 → (inn x z i d n b).length ≤ 8 := by
  induction d with
  | zero => intro n b _ h; exact h
  | succ d ih =>
    intro n b hn hb
    rw [inn]
    by_cases h1 : i + n ≤ x.length
    · rw [if_pos h1]
      by_cases h2 : (occL z (sub x i n) z.length 0).length = 0
      · rw [if_pos h2]; exact hb
      · rw [if_neg h2]
        exact ih (n + 1) _ (by omega) (better_len (by rw [sub_len x i n h1]; omega) hb)
    · rw [if_neg h1]; exact hb
theorem inn_none (x z : List Int) (i d n : Nat) (b : List Int) (_h : i + n ≤ x.length) (h0 : (occL z (sub x i n) z.length 0).length = 0) : inn x z i d (n + 1) b = b := by
  cases d with
  | zero => rfl
  | succ d =>
    rw [inn]
    by_cases h1 : i + (n + 1) ≤ x.length
    · rw [if_pos h1, if_pos (none_more x z i n h1 h0)]
    · rw [if_neg h1]
theorem spec_in (x z : List Int) (hx : x.length ≤ 64) (hz : z.length ≤ 64) (i : Nat) (hi : i < x.length) (d : Nat) : ∀ (n : Nat) (b : List Int) (k : Nat), n + d = 9 → 1 ≤ n → b.length ≤ 8 → 2200000 + 2 * d ≤ k → ∃ k', k ≤ k' + 2 * d + 2 ∧ spec_CommonPhrase.l1 k x z b (i : Int) (n : Int) = spec_CommonPhrase.l0 k' x z (inn x z i d n b) ((i + 1 : Nat) : Int) := by
  have hj : ∀ k (b : List Int) (n : Nat) g, n ≤ 9 → spec_CommonPhrase.j3 (k + 1) x z b (i : Int) (n : Int) g = if g = true then (if i + n ≤ x.length then ((spec_l06Find.f k z (sub x i n)).bind fun t341 => (if (t341.length : Int) = 0 then (spec_CommonPhrase.l0 k x z b ((i + 1 : Nat) : Int)) else (if ((sub x i n).length : Int) > (b.length : Int) then (spec_CommonPhrase.l1 k x z (sub x i n) (i : Int) ((n + 1 : Nat) : Int)) else (if ((sub x i n).length : Int) = (b.length : Int) then ((spec_l06Before.f k (sub x i n) b).bind fun t344 => (if t344 = true then (spec_CommonPhrase.l1 k x z (sub x i n) (i : Int) ((n + 1 : Nat) : Int)) else (spec_CommonPhrase.l1 k x z b (i : Int) ((n + 1 : Nat) : Int)))) else (spec_CommonPhrase.l1 k x z b (i : Int) ((n + 1 : Nat) : Int)))))) else none) else (spec_CommonPhrase.l0 k x z b ((i + 1 : Nat) : Int)) := by
    intro k b n g hn
    rw [spec_CommonPhrase.j3, w64 (n := (i : Int) + (n : Int)) (by omega) (by omega), w64 (n := (i : Int) + 1) (by omega) (by omega), w64 (n := (n : Int) + 1) (by omega) (by omega), if_pos (show (0 : Int) ≤ (i : Int) by omega), if_pos (show (i : Int) ≤ (i : Int) + (n : Int) by omega), Option.bind_some, show ((i : Int) + (n : Int)).toNat = i + n by omega, Int.toNat_natCast, show ((i : Int) + 1) = ((i + 1 : Nat) : Int) by omega, show ((n : Int) + 1) = ((n + 1 : Nat) : Int) by omega]
    by_cases h : i + n ≤ x.length
    · rw [if_pos h, if_pos (show (i : Int) + (n : Int) ≤ (x.length : Int) by omega)]
      rfl
    · rw [if_neg h, if_neg (show ¬ (i : Int) + (n : Int) ≤ (x.length : Int) by omega)]
  induction d with
  | zero =>
    intro n b k hn h1 hb hk
    obtain ⟨k, rfl⟩ := succ_of (show 0 < k by omega)
    obtain ⟨k, rfl⟩ := succ_of (show 0 < k by omega)
    refine ⟨k, by omega, ?_⟩
    rw [spec_CommonPhrase.l1, if_neg (by omega), hj k b n false (by omega), if_neg (by simp), inn]
  | succ d ih =>
    intro n b k hn h1 hb hk
    obtain ⟨k, rfl⟩ := succ_of (show 0 < k by omega)
    obtain ⟨k, rfl⟩ := succ_of (show 0 < k by omega)
    rw [spec_CommonPhrase.l1, if_pos (by omega), w64 (n := (i : Int) + (n : Int)) (by omega) (by omega), hj k b n _ (by omega), inn]
    by_cases h : i + n ≤ x.length
    · have hl := sub_len x i n h
      rw [decide_eq_true (show (i : Int) + (n : Int) ≤ (x.length : Int) by omega), if_pos rfl, if_pos h, if_pos h, specFind z (sub x i n) hz (by omega) k (by omega), Option.bind_some]
      by_cases h0 : (occL z (sub x i n) z.length 0).length = 0
      · rw [if_pos h0, if_pos (by omega)]
        exact ⟨k, by omega, rfl⟩
      · rw [if_neg h0, if_neg (by omega)]
        obtain ⟨k', e1, e2⟩ := ih (n + 1) (better (sub x i n) b) k (by omega) (by omega) (better_len (by omega) hb) (by omega)
        refine ⟨k', by omega, ?_⟩
        rw [← e2, specBef (sub x i n) b (by omega) (by omega) k (by omega), Option.bind_some]
        unfold better
        split
        · rfl
        · split
          · split <;> rfl
          · rfl
    · rw [decide_eq_false (show ¬ (i : Int) + (n : Int) ≤ (x.length : Int) by omega), if_neg (by simp), if_neg h]
      exact ⟨k, by omega, rfl⟩
theorem impl_in (x z : List Int) (hx : x.length ≤ 64) (hz : z.length ≤ 64) (i : Nat) (hi : i < x.length) (d : Nat) : ∀ (n : Nat) (b : List Int) (k : Nat), n + d = 9 → 1 ≤ n → b.length ≤ 8 → 2200000 + 2 * d ≤ k → ∃ k', k ≤ k' + 2 * d + 2 ∧ impl_CommonPhrase.l1 k x z b (i : Int) ((i + n : Nat) : Int) (x.length : Int) (i : Int) = impl_CommonPhrase.l0 k' x z (inn x z i d n b) (x.length : Int) ((i + 1 : Nat) : Int) := by
  have hm : mn (wrap64 ((i : Int) + 8)) (x.length : Int) = if (i : Int) + 8 ≤ (x.length : Int) then (i : Int) + 8 else (x.length : Int) := by
    rw [w64 (n := (i : Int) + 8) (by omega) (by omega)]
    unfold mn
    split <;> split <;> omega
  have hs : ∀ k (b : List Int) (n : Nat), n ≤ 9 → ¬ (n ≤ 8 ∧ i + n ≤ x.length) → impl_CommonPhrase.l1 (k + 1) x z b (i : Int) ((i + n : Nat) : Int) (x.length : Int) (i : Int) = impl_CommonPhrase.l0 k x z b (x.length : Int) ((i + 1 : Nat) : Int) := by
    intro k b n hn hc
    rw [impl_CommonPhrase.l1, hm, w64 (n := (i : Int) + 1) (by omega) (by omega), if_neg (by split <;> omega), show ((i : Int) + 1) = ((i + 1 : Nat) : Int) by omega]
  have hg : ∀ k (b : List Int) (n : Nat), n ≤ 8 → i + n ≤ x.length → impl_CommonPhrase.l1 (k + 1) x z b (i : Int) ((i + n : Nat) : Int) (x.length : Int) (i : Int) = (if ((sub x i n).length : Int) > (b.length : Int) then ((impl_occurrences.f k z (sub x i n)).bind fun t355 => (if (t355.length : Int) > 0 then (impl_CommonPhrase.l1 k x z (sub x i n) (i : Int) ((i + (n + 1) : Nat) : Int) (x.length : Int) (i : Int)) else (impl_CommonPhrase.l1 k x z b (i : Int) ((i + (n + 1) : Nat) : Int) (x.length : Int) (i : Int)))) else (if ((sub x i n).length : Int) = (b.length : Int) then ((slices_Compare_int64_int64.f k (sub x i n) b).bind fun t358 => (if t358 < 0 then ((impl_occurrences.f k z (sub x i n)).bind fun t359 => (if (t359.length : Int) > 0 then (impl_CommonPhrase.l1 k x z (sub x i n) (i : Int) ((i + (n + 1) : Nat) : Int) (x.length : Int) (i : Int)) else (impl_CommonPhrase.l1 k x z b (i : Int) ((i + (n + 1) : Nat) : Int) (x.length : Int) (i : Int)))) else (impl_CommonPhrase.l1 k x z b (i : Int) ((i + (n + 1) : Nat) : Int) (x.length : Int) (i : Int)))) else (impl_CommonPhrase.l1 k x z b (i : Int) ((i + (n + 1) : Nat) : Int) (x.length : Int) (i : Int)))) := by
    intro k b n hn hc
    rw [impl_CommonPhrase.l1, hm, w64 (n := ((i + n : Nat) : Int) + 1) (by omega) (by omega), if_pos (by split <;> omega), if_pos (show (0 : Int) ≤ (i : Int) by omega), if_pos (show (i : Int) ≤ ((i + n : Nat) : Int) by omega), if_pos (show ((i + n : Nat) : Int) ≤ (x.length : Int) by omega), Option.bind_some, Int.toNat_natCast, Int.toNat_natCast, show ((i + n : Nat) : Int) + 1 = ((i + (n + 1) : Nat) : Int) by omega]
    rfl
  induction d with
  | zero =>
    intro n b k hn h1 hb hk
    obtain ⟨k, rfl⟩ := succ_of (show 0 < k by omega)
    exact ⟨k, by omega, by rw [hs k b n (by omega) (by omega), inn]⟩
  | succ d ih =>
    intro n b k hn h1 hb hk
    obtain ⟨k, rfl⟩ := succ_of (show 0 < k by omega)
    rw [inn]
    by_cases h : i + n ≤ x.length
    · have hl := sub_len x i n h
      have hO := implOccs1 z (sub x i n) hz (by omega) (by omega) k (by omega)
      obtain ⟨q, c1, c2⟩ := implCmp (sub x i n) b (by omega) (by omega) k (by omega)
      rw [hg k b n (by omega) h, if_pos h, hO, c1]
      simp only [Option.bind_some]
      by_cases h0 : (occL z (sub x i n) z.length 0).length = 0
      · obtain ⟨k', e1, e2⟩ := ih (n + 1) b k (by omega) (by omega) hb (by omega)
        rw [inn_none x z i d n b h h0] at e2
        refine ⟨k', by omega, ?_⟩
        rw [if_pos h0, ← e2, if_neg (show ¬ ((occL z (sub x i n) z.length 0).length : Int) > 0 by omega)]
        split
        · rfl
        · split
          · split <;> rfl
          · rfl
      · obtain ⟨k', e1, e2⟩ := ih (n + 1) (better (sub x i n) b) k (by omega) (by omega) (better_len (by omega) hb) (by omega)
        refine ⟨k', by omega, ?_⟩
        rw [if_neg h0, ← e2, if_pos (show ((occL z (sub x i n) z.length 0).length : Int) > 0 by omega)]
        unfold better
        by_cases g1 : ((sub x i n).length : Int) > (b.length : Int)
        · rw [if_pos g1, if_pos g1]
        · rw [if_neg g1, if_neg g1]
          by_cases g2 : ((sub x i n).length : Int) = (b.length : Int)
          · rw [if_pos g2, if_pos g2]
            cases g3 : befB (sub x i n) b with
            | true =>
              rw [g3] at c2
              have : ¬ q ≥ 0 := of_decide_eq_false c2
              rw [if_pos (by omega), if_pos rfl]
            | false =>
              rw [g3] at c2
              have : q ≥ 0 := of_decide_eq_true c2
              rw [if_neg (by omega), if_neg (by simp)]
          · rw [if_neg g2, if_neg g2]
    · rw [if_neg h]
      exact ⟨k, by omega, hs k b n (by omega) (by omega)⟩
theorem com_out (x z : List Int) (hx : x.length ≤ 64) (hz : z.length ≤ 64) (e : Nat) : ∀ (i : Nat) (b : List Int), i + e = x.length → b.length ≤ 8 → ∃ w : List Int, w.length ≤ 8 ∧ ∀ k, 2200040 + 30 * e ≤ k → spec_CommonPhrase.l0 k x z b (i : Int) = some (w, 0) ∧ ∀ k, 2200040 + 30 * e ≤ k → impl_CommonPhrase.l0 k x z b (x.length : Int) (i : Int) = some (w, 0) := by
  induction e with
  | zero =>
    intro i b hi hb
    refine ⟨b, hb, fun k hk => ⟨?_, fun k hk => ?_⟩⟩
    · obtain ⟨k, rfl⟩ := succ_of (show 0 < k by omega)
      rw [spec_CommonPhrase.l0, if_neg (by omega), spec_l00Own.f]
      simp only [Option.bind_some, List.length_nil, List.nil_append]
      rw [if_pos (by omega), Option.bind_some]
    · obtain ⟨k, rfl⟩ := succ_of (show 0 < k by omega)
      rw [impl_CommonPhrase.l0, if_neg (by omega), slices_Clone_int64_int64.f, if_pos (by omega), Option.bind_some]
  | succ e ih =>
    intro i b hi hb
    obtain ⟨w, hw, hk'⟩ := ih (i + 1) (inn x z i 8 1 b) (by omega) (inn_len x z i 8 1 b rfl hb)
    refine ⟨w, hw, fun k hk => ⟨?_, fun k hk => ?_⟩⟩
    · obtain ⟨k, rfl⟩ := succ_of (show 0 < k by omega)
      obtain ⟨k', e1, e2⟩ := spec_in x z hx hz i (by omega) 8 1 b k rfl (Nat.le_refl _) hb (by omega)
      rw [show ((1 : Nat) : Int) = 1 from rfl] at e2
      rw [spec_CommonPhrase.l0, if_pos (by omega), e2]
      exact (hk' k' (by omega)).1
    · obtain ⟨k, rfl⟩ := succ_of (show 0 < k by omega)
      obtain ⟨k', e1, e2⟩ := impl_in x z hx hz i (by omega) 8 1 b k rfl (Nat.le_refl _) hb (by omega)
      rw [impl_CommonPhrase.l0, if_pos (by omega), w64 (by omega) (by omega), show ((i : Int) + 1) = ((i + 1 : Nat) : Int) by omega, e2]
      exact (hk' k' (by omega)).2 k' (by omega)
theorem common_both (x y : List Int) (hx : x.length ≤ 1048576) (hy : y.length ≤ 1048576) : ∃ (w : List Int) (c : Int), w.length ≤ 1100000 ∧ ∀ k, 2300000 ≤ k → spec_CommonPhrase.f k x y = some (w, c) ∧ impl_CommonPhrase.f k x y = some (w, c) := by
  have iP : ∀ x : List Int, impl_pitchesOk.f x = some (allP x && decide (x.length ≤ 64)) := by
    intro x
    rw [impl_pitchesOk.f, implAll]
    by_cases h : (x.length : Int) ≤ 64
    · rw [if_pos h, decide_eq_true (show x.length ≤ 64 by omega), Bool.and_true]
      rfl
    · rw [if_neg h, decide_eq_false (show ¬ x.length ≤ 64 by omega), Bool.and_false]
  have sj : ∀ k g, spec_CommonPhrase.j0 (k + 1) x y g = if g = true then (some (([] : List Int), 7)) else (spec_CommonPhrase.l0 k x y (([] : List Int)) 0) := fun _ _ => rfl
  have ij : ∀ k g, impl_CommonPhrase.j0 (k + 1) x y g = if g = true then (some (([] : List Int), 7)) else (impl_CommonPhrase.l0 k x y ([] : List Int) (x.length : Int) 0) := fun _ _ => rfl
  cases h1 : (allP x && decide (x.length ≤ 64)) with
  | false =>
    refine ⟨[], 7, by simp, fun k hk => ?_⟩
    obtain ⟨k, rfl⟩ := succ_of (show 0 < k by omega)
    rw [spec_CommonPhrase.f, impl_CommonPhrase.f, specPit x hx (k + 1) (by omega), iP x, h1]
    exact ⟨rfl, rfl⟩
  | true =>
    cases h2 : (allP y && decide (y.length ≤ 64)) with
    | false =>
      refine ⟨[], 7, by simp, fun k hk => ?_⟩
      obtain ⟨k, rfl⟩ := succ_of (show 0 < k by omega)
      rw [spec_CommonPhrase.f, impl_CommonPhrase.f, specPit x hx (k + 1) (by omega), specPit y hy (k + 1) (by omega), iP x, iP y, h1, h2]
      exact ⟨rfl, rfl⟩
    | true =>
      have lx : x.length ≤ 64 := by
        rw [Bool.and_eq_true, decide_eq_true_eq] at h1
        exact h1.2
      have ly : y.length ≤ 64 := by
        rw [Bool.and_eq_true, decide_eq_true_eq] at h2
        exact h2.2
      obtain ⟨w, hw, hk'⟩ := com_out x y lx ly x.length 0 [] (by omega) (by simp)
      refine ⟨w, 0, by omega, fun k hk => ?_⟩
      obtain ⟨k, rfl⟩ := succ_of (show 0 < k by omega)
      have a := (hk' k (by omega)).1
      have b := (hk' k (by omega)).2 k (by omega)
      rw [spec_CommonPhrase.f, impl_CommonPhrase.f, specPit x hx (k + 1) (by omega), specPit y hy (k + 1) (by omega), iP x, iP y, h1, h2]
      exact ⟨a, b⟩
theorem markA (x : List Int) (a : Int) (hn : x.length ≤ 1048576) (h0 : 0 ≤ a) (h1 : a ≤ 4000000) (k : Nat) (hk : x.length < k) : laws_markInt64S.f k x a = some (a + (x.length : Int), mks a x.length) := by
  rw [laws_markInt64S.f]
  have := markI_l0 x.length x a k 0 (by omega) h0 (by omega) (by omega) hk
  simpa using this
theorem FnExactCommonPhrase : laws_FnExactCommonPhrase.Pure := by
  intro l0 l1 h0 h1
  obtain ⟨k, hk⟩ : ∃ k, 2400000 ≤ k := ⟨_, Nat.le_refl _⟩
  refine ⟨k + 5, ?_⟩
  rw [laws_FnExactCommonPhrase.f]
  by_cases c : (l0.length : Int) > 1048576
  · rw [if_pos c]
  · by_cases c' : (l1.length : Int) > 1048576
    · rw [if_neg c, if_pos c']
    · have hn : l0.length ≤ 1048576 := by omega
      have hm : l1.length ≤ 1048576 := by omega
      obtain ⟨w, cd, hw, hb⟩ := common_both l0 l1 hn hm
      have S := fun j hj => (hb j hj).1
      have I := fun j hj => (hb j hj).2
      have T0 := toI l0 hn
      have T1 := toI l1 hm
      have E0 := eqI l0 (by omega)
      have E1 := eqI l1 (by omega)
      have M0 := markI l0 (by omega)
      have M1 := markA l1 (1 + (l0.length : Int)) hm (by omega) (by omega)
      have E := eqI w (by omega)
      have M := markI w (by omega)
      have H := heldI w.length (by omega)
      have c1 : ¬ ((1 + (l0.length : Int) + (l1.length : Int)) < 0) := by omega
      have c2 : ¬ ((1 + (w.length : Int)) < 0) := by omega
      rw [if_neg c, if_neg c']
      rw [T0 (k + 5) (by omega), T1 (k + 5) (by omega)]
      simp only [Option.bind_some]
      rw [S (k + 5) (by omega), Option.bind_some, I (k + 5) (by omega), Option.bind_some]
      dsimp only
      rw [E (k + 5) (by omega), Option.bind_some, if_pos rfl, laws_FnExactCommonPhrase.j0, if_neg (by simp), T0 (k + 4) (by omega), Option.bind_some, E0 (k + 4) (by omega), Option.bind_some, if_pos rfl, T1 (k + 4) (by omega), Option.bind_some, E1 (k + 4) (by omega), Option.bind_some, if_pos rfl, M0 (k + 4) (by omega), Option.bind_some]
      dsimp only
      rw [M1 (k + 4) (by omega), Option.bind_some]
      dsimp only
      rw [if_neg c1, E (k + 4) (by omega), Option.bind_some, if_pos rfl, laws_FnExactCommonPhrase.j1, if_neg (by simp), M (k + 3) (by omega), Option.bind_some]
      dsimp only
      rw [H (k + 3) (by omega), Option.bind_some, if_neg c2, if_pos rfl, T0 (k + 3) (by omega), Option.bind_some, T1 (k + 3) (by omega), Option.bind_some, I (k + 3) (by omega), Option.bind_some]
      dsimp only
      rw [E (k + 3) (by omega), Option.bind_some, if_pos rfl, laws_FnExactCommonPhrase.j2, if_neg (by simp), H (k + 2) (by omega), Option.bind_some, if_neg c2, if_pos rfl]

end Go.Proofs.Ytnnblnbepnfbhaa.Pure
