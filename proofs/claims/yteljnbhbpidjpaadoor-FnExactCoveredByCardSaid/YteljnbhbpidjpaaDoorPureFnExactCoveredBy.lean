/- The law FnExactCoveredBy over lists alone. No condition. -/
import Derived.Test.YteljnbhbpidjpaaDoorCx0
import Derived.Test.YteljnbhbpidjpaaDoorCx7
import Derived.Test.YteljnbhbpidjpaaDoorCx11
import Derived.Test.YteljnbhbpidjpaaDoorCx12
import Derived.Test.YteljnbhbpidjpaaDoorCx15
import Derived.Test.YteljnbhbpidjpaaDoorCx17
import Derived.Test.YteljnbhbpidjpaaDoorCx18
import Derived.Test.YteljnbhbpidjpaaDoorCovC
namespace Go.Proofs.YteljnbhbpidjpaaDoor.Pure
open Go.RowKit Go.Proofs.YteljnbhbpidjpaaDoor.C Go.Proofs.YteljnbhbpidjpaaDoorW.PrintWords Go.Proofs.YteljnbhbpidjpaaDoorW.PrintLast Go.Proofs.YteljnbhbpidjpaaDoorW.PrintMore
def sel (f : Nat → Bool) : Nat → Nat → List Int
  | 0, _ => []
  | d + 1, i => if f i = true then (i : Int) :: sel f d (i + 1) else sel f d (i + 1)
theorem sel_len (f : Nat → Bool) : ∀ d i, (sel f d i).length ≤ d
  | 0, _ => Nat.le_refl _
  | d + 1, i => by
    have := sel_len f d (i + 1)
    rw [sel]
    split
    · simp only [List.length_cons]; omega
    · omega
theorem sel_none (f : Nat → Bool) : ∀ d i, (∀ j, i ≤ j → f j = false) → sel f d i = []
  | 0, _, _ => rfl
  | d + 1, i, h => by rw [sel, h i (Nat.le_refl _), if_neg (by decide), sel_none f d (i + 1) (fun j hj => h j (by omega))]
theorem sel_more (f : Nat → Bool) (e : Nat) : ∀ d i, (∀ j, i + d ≤ j → f j = false) → sel f (d + e) i = sel f d i
  | 0, i, h => by rw [Nat.zero_add, sel, sel_none f e i (fun j hj => h j (by omega))]
  | d + 1, i, h => by rw [show d + 1 + e = (d + e) + 1 by omega, sel, sel, sel_more f e d (i + 1) (fun j hj => h j (by omega))]
theorem low_off (i m : Nat) : (2 ^ i * (2 * m + 1)) &&& (2 ^ i * (2 * m + 1) - 1) = 2 ^ (i + 1) * m := by
  have h0 : 0 < 2 ^ i := Nat.pow_pos (by decide)
  have e : 2 ^ i * (2 * m + 1) - 1 = 2 ^ i * (2 * m) + (2 ^ i - 1) := by rw [Nat.mul_add, Nat.mul_one]; omega
  have e2 : 2 ^ (i + 1) * m = 2 ^ i * (2 * m) + 0 := by rw [Nat.pow_succ, Nat.mul_assoc, Nat.add_zero]
  have e3 : 2 ^ i * (2 * m + 1) = 2 ^ i * (2 * m + 1) + 0 := (Nat.add_zero _).symm
  rw [e, e2, e3]
  apply Nat.eq_of_testBit_eq
  intro j
  rw [Nat.testBit_and, Nat.testBit_two_pow_mul_add _ h0, Nat.testBit_two_pow_mul_add _ (by omega), Nat.testBit_two_pow_mul_add _ h0]
  by_cases c : j < i
  · rw [if_pos c, if_pos c, if_pos c, Nat.zero_testBit, Bool.false_and]
  · rw [if_neg c, if_neg c, if_neg c]
    cases j - i with
    | zero => simp
    | succ t =>
      rw [Nat.testBit_succ, Nat.testBit_succ, show (2 * m + 1) / 2 = m by omega, show (2 * m) / 2 = m by omega, Bool.and_self]
theorem ctz_at (i m : Nat) (h : 2 ^ i * (2 * m + 1) < 2 ^ 64) : Lib.ctz 64 (2 ^ i * (2 * m + 1)) = i := by
  have h0 : 0 < 2 ^ i * (2 * m + 1) := Nat.mul_pos (Nat.pow_pos (by decide)) (by omega)
  obtain ⟨h1, _⟩ := Lib.lowest_bit 64 _ (by omega) h
  rw [Lib.and_neg 64 i m h] at h1
  exact ((Nat.pow_right_inj (by decide)).1 h1).symm
theorem setL (s : Nat) (hs : s < 2 ^ 64) : ∀ (d i k : Nat) (acc : List Int), i + d = 64 → d < k → acc.length ≤ i → impl_setList.l0 k ((2 ^ i * (s / 2 ^ i) : Nat) : Int) acc = some (acc ++ sel s.testBit d i)
  | 0, i, k, acc, hi, hk, ha => by
    obtain ⟨k, rfl⟩ := succ_of hk
    obtain rfl : i = 64 := by omega
    rw [Nat.div_eq_of_lt hs, Nat.mul_zero, impl_setList.l0, if_pos (by rfl), sel, List.append_nil]
  | d + 1, i, k, acc, hi, hk, ha => by
    obtain ⟨k, rfl⟩ := succ_of (show 0 < k by omega)
    have hd : s / 2 ^ i / 2 = s / 2 ^ (i + 1) := by rw [Nat.div_div_eq_div_mul, Nat.pow_succ]
    have hb : s.testBit i = decide (s / 2 ^ i % 2 = 1) := Nat.testBit_eq_decide_div_mod_eq
    have hle : 2 ^ i * (s / 2 ^ i) ≤ s := Nat.mul_div_le s (2 ^ i)
    by_cases c : s / 2 ^ i % 2 = 1
    · rw [sel, hb, decide_eq_true c, if_pos rfl]
      have hm : s / 2 ^ i = 2 * (s / 2 ^ (i + 1)) + 1 := by omega
      have ih := setL s hs d (i + 1) k (acc ++ [(i : Int)]) (by omega) (by omega) (by simp; omega)
      rw [hm] at hle ⊢
      generalize s / 2 ^ (i + 1) = m at hle ih ⊢
      have h1 : 2 ^ i * (2 * m + 1) < 2 ^ 64 := by omega
      have h0 : 0 < 2 ^ i * (2 * m + 1) := Nat.mul_pos (Nat.pow_pos (by decide)) (by omega)
      have hz := ctz_at i m h1
      have hf := low_off i m
      generalize 2 ^ i * (2 * m + 1) = X at h0 h1 hz hf ⊢
      have h2 : X < 18446744073709551616 := h1
      rw [impl_setList.l0, if_neg (by omega), bits_TrailingZeros64.f, if_pos ⟨by omega, by omega⟩, Option.bind_some, Int.toNat_natCast, hz, if_pos (by omega), show IntKind.u64.wrap ((X : Int) - 1) = ((X - 1 : Nat) : Int) by rw [IntKind.wrap_u64]; omega, bits_and_u64_nat X (X - 1) h2 (by omega), hf, ih, List.append_assoc]
      rfl
    · rw [sel, hb, decide_eq_false c, if_neg (by decide)]
      have hm : s / 2 ^ i = 2 * (s / 2 ^ (i + 1)) := by omega
      have ih := setL s hs d (i + 1) (k + 1) acc (by omega) (by omega) (by omega)
      rw [hm, ← Nat.mul_assoc, ← Nat.pow_succ]
      exact ih
theorem specSel (o : List Bool) (ho : o.length ≤ 64) : ∀ (d i k : Nat) (acc : List Int), i + d = o.length → d < k → acc.length ≤ i → spec_CoveredBy.l0 k o acc (i : Int) = some (acc ++ sel (fun j => o.getD j false) d i, 0)
  | 0, i, k, acc, hi, hk, ha => by
    obtain ⟨k, rfl⟩ := succ_of hk
    rw [spec_CoveredBy.l0, if_neg (by omega), sel, List.append_nil]
  | d + 1, i, k, acc, hi, hk, ha => by
    obtain ⟨k, rfl⟩ := succ_of (show 0 < k by omega)
    rw [spec_CoveredBy.l0, if_pos (by omega), if_pos (by omega), w64 (by omega) (by omega), show ((i : Int) + 1) = ((i + 1 : Nat) : Int) by omega, sel, rdOf, Int.toNat_natCast]
    by_cases c : o.getD i false = true
    · rw [if_pos c, if_pos c, if_pos (by omega), specSel o ho d (i + 1) k _ (by omega) (by omega) (by simp; omega), List.append_assoc]
      rfl
    · rw [if_neg c, if_neg c, specSel o ho d (i + 1) k _ (by omega) (by omega) (by omega)]
theorem implPit (x : List Int) : impl_pitchesOk.f x = some (allP x && decide (x.length ≤ 64)) := by
  rw [impl_pitchesOk.f, implAll, Option.bind_some]
  by_cases h : x.length ≤ 64
  · rw [if_pos (by omega), decide_eq_true h, Bool.and_true]
  · rw [if_neg (by omega), decide_eq_false h, Bool.and_false]
theorem cov_both (x : List Int) (l : List (List Int)) (hx : x.length ≤ 1048576) (hl : l.length ≤ 1048576) (hv : ∀ y ∈ l, y.length ≤ 1048576) : ∃ (w : List Int) (c : Int), w.length ≤ 1048576 ∧ ∀ k, 4000000 ≤ k → spec_CoveredBy.f k x l = some (w, c) ∧ impl_CoveredBy.f k x l = some (w, c) := by
  by_cases c1 : (chkR l l.length 0 && decide (l.length ≤ 12)) = true
  · by_cases c2 : (allP x && decide (x.length ≤ 64)) = true
    · have h12 : l.length ≤ 12 := by rw [Bool.and_eq_true, decide_eq_true_eq] at c1; exact c1.2
      have h64 : x.length ≤ 64 := by rw [Bool.and_eq_true, decide_eq_true_eq] at c2; exact c2.2
      have hp : ∀ y ∈ l, 2 ≤ y.length ∧ y.length ≤ 8 := fun y hy => by
        obtain ⟨j, hj, rfl⟩ := List.getElem_of_mem hy
        rw [Bool.and_eq_true] at c1
        have h := chkR_all l l.length 0 (by omega) c1.1 j (by omega) hj
        rw [phr, Bool.and_eq_true, decide_eq_true_eq] at h
        exact h.2
      have he : sel (mask x l).testBit 64 0 = sel (fun j => (flags x l).getD j false) (flags x l).length 0 := by
        rw [show (fun j => (flags x l).getD j false) = (mask x l).testBit from funext (flags_mask x l), flags_len]
        have g := sel_more (mask x l).testBit (64 - x.length) x.length 0 (fun j hj => mask_bit x l j (by omega))
        rw [show x.length + (64 - x.length) = 64 by omega] at g
        exact g
      refine ⟨sel (mask x l).testBit 64 0, 0, by have := sel_len (mask x l).testBit 64 0; omega, fun k hk => ⟨?_, ?_⟩⟩
      · rw [spec_CoveredBy.f, specOkR l hl hv k hk, Option.bind_some, if_pos c1, specPit x hx k (by omega), Option.bind_some, if_pos c2, specCov x h64 l h12 (fun y hy => (hp y hy).2) k (by omega), Option.bind_some]
        have g := specSel (flags x l) (by rw [flags_len]; exact h64) (flags x l).length 0 k [] (by omega) (by rw [flags_len]; omega) (by simp)
        rw [show ((0 : Nat) : Int) = 0 from rfl, List.nil_append, ← he] at g
        exact g
      · have hm : mask x l < 2 ^ 64 := Nat.lt_of_lt_of_le (mask_lt x l) (Nat.pow_le_pow_right (by decide) h64)
        have g := setL (mask x l) hm 64 0 k [] (by omega) (by omega) (by simp)
        rw [Nat.pow_zero, Nat.div_one, Nat.one_mul, List.nil_append] at g
        rw [impl_CoveredBy.f, implOkR l hl hv k hk, Option.bind_some, if_pos c1, implPit, Option.bind_some, if_pos c2, implCov x h64 l h12 hp k (by omega), Option.bind_some, impl_setList.f, g, Option.bind_some]
    · refine ⟨[], 7, by simp, fun k hk => ⟨?_, ?_⟩⟩
      · rw [spec_CoveredBy.f, specOkR l hl hv k hk, Option.bind_some, if_pos c1, specPit x hx k (by omega), Option.bind_some, if_neg c2]
      · rw [impl_CoveredBy.f, implOkR l hl hv k hk, Option.bind_some, if_pos c1, implPit, Option.bind_some, if_neg c2]
  · refine ⟨[], 1, by simp, fun k hk => ⟨?_, ?_⟩⟩
    · rw [spec_CoveredBy.f, specOkR l hl hv k hk, Option.bind_some, if_neg c1]
    · rw [impl_CoveredBy.f, implOkR l hl hv k hk, Option.bind_some, if_neg c1]
theorem mkA_eq (n : Nat) : ∀ a : Int, 0 ≤ a → a + n ≤ 4611686018427387904 → mkA n a = a + n := by
  induction n with
  | zero => intro a _ _; simp [mkA]
  | succ n ih =>
    intro a h0 h1
    rw [mkA, w64 (by omega) (by omega), ih (a + 1) (by omega) (by omega)]
    omega
theorem mkS_nn : ∀ (l : List (List Int)) (a : Int), (∀ x ∈ l, x.length ≤ 1048576) → 0 ≤ a → a + l.length * 1048576 ≤ 4611686018427387904 → 0 ≤ mkS l a
  | [], a, _, h0, _ => h0
  | x :: l, a, hx, h0, h1 => by
    have h2 := hx x List.mem_cons_self
    simp only [List.length_cons] at h1
    rw [mkS, mkA_eq _ _ h0 (by omega)]
    exact mkS_nn l _ (fun y hy => hx y (List.mem_cons_of_mem _ hy)) (by omega) (by omega)
theorem FnExactCoveredBy : laws_FnExactCoveredBy.Pure := by
  intro x l h0 h1
  obtain ⟨k, hk⟩ : ∃ k, 4000010 ≤ k := ⟨_, Nat.le_refl _⟩
  refine ⟨k, ?_⟩
  rw [laws_FnExactCoveredBy.f]
  by_cases c0 : (x.length : Int) > 1048576
  · rw [if_pos c0]
  rw [if_neg c0]
  have hx : x.length ≤ 1048576 := by omega
  obtain ⟨t, ht, hl⟩ := szR l h1.1 (fun y hy => (h1.2 y hy).1) k (by omega)
  rw [ht, Option.bind_some]
  by_cases c : t < 0
  · rw [if_pos c]
  obtain ⟨hn, hv⟩ := hl c
  obtain ⟨k, rfl⟩ : ∃ m, k = m + 3 := ⟨k - 3, by omega⟩
  obtain ⟨w, cd, hw, hb⟩ := cov_both x l hx hn hv
  have S := fun j hj => (hb j hj).1
  have I := fun j hj => (hb j hj).2
  have T0 := toI x hx
  have T1 := toR l hn hv
  have E0 := eqI x (by omega)
  have E1 := eqR l hn hv
  have EW := eqI w (by omega)
  have M0 := markI x (by omega)
  have MW := markI w (by omega)
  have HW := heldI w.length (by omega)
  have Rn : ¬ mkS l (1 + (x.length : Int)) < 0 := by
    have := mkS_nn l (1 + (x.length : Int)) hv (by omega) (by omega)
    omega
  rw [if_neg c, T0 _ (by omega), Option.bind_some, T1 _ (by omega), Option.bind_some, S _ (by omega), Option.bind_some, Option.bind_some, Option.bind_some, I _ (by omega), Option.bind_some]
  dsimp only
  rw [EW _ (by omega), Option.bind_some, if_pos rfl, bne_self_eq_false, laws_FnExactCoveredBy.j0, if_neg (by decide), T0 _ (by omega), Option.bind_some, E0 _ (by omega), Option.bind_some, if_pos rfl, T1 _ (by omega), Option.bind_some, E1 _ (by omega), Option.bind_some, if_pos rfl, M0 _ (by omega), Option.bind_some]
  dsimp only
  rw [laws_markInt64SS.f, Option.bind_some, if_neg Rn, EW _ (by omega), Option.bind_some, if_pos rfl, bne_self_eq_false, laws_FnExactCoveredBy.j1, if_neg (by decide), MW _ (by omega), Option.bind_some]
  dsimp only
  rw [HW _ (by omega), Option.bind_some, if_neg (by omega), if_pos rfl, T0 _ (by omega), Option.bind_some, T1 _ (by omega), Option.bind_some, I _ (by omega), Option.bind_some]
  dsimp only
  rw [EW _ (by omega), Option.bind_some, if_pos rfl, bne_self_eq_false, laws_FnExactCoveredBy.j2, if_neg (by decide), HW _ (by omega), Option.bind_some, if_neg (by omega), if_pos rfl]

end Go.Proofs.YteljnbhbpidjpaaDoor.Pure
