/- The law FnExactFrequentPhrase over lists alone. No condition. -/
import Derived.Test.YtnnblnbepnfbhaaM2x0
import Derived.Test.YtnnblnbepnfbhaaM2x6
import Derived.Test.YtnnblnbepnfbhaaM2x8
import Derived.Test.YtnnblnbepnfbhaaM2x12
import Derived.Test.YtnnblnbepnfbhaaM2x14
import Derived.Test.YtnnblnbepnfbhaaM2x15
import Derived.Test.YtnnblnbepnfbhaaM2x18
import Derived.Test.YtnnblnbepnfbhaaM2x21
import Derived.Test.YtnnblnbepnfbhaaM2x24
import Derived.Test.YtnnblnbepnfbhaaM2x28
import Derived.Test.YtnnblnbepnfbhaaM2x29
import Derived.Test.YtnnblnbepnfbhaaM2x30
import Derived.Test.YtnnblnbepnfbhaaOcc
import Derived.Test.YtnnblnbepnfbhaaPTo
import Derived.Test.YtnnblnbepnfbhaaBef
namespace Go.Proofs.Ytnnblnbepnfbhaa.Pure
open Go.RowKit Go.Proofs.Ytnnblnbepnfbhaa.M2 Go.Proofs.YtnnblnbepnfbhaaW.PrintWords Go.Proofs.YtnnblnbepnfbhaaW.PrintLast
theorem fown_is (l : List Int) (h : l.length ≤ 1048576) : spec_l00Own.f l = some l := by
  rw [spec_l00Own.f]
  simp only [Option.bind_some, List.length_nil, List.nil_append]
  rw [if_pos (by omega)]
theorem fclone_is (l : List Int) (h : l.length ≤ 1048576) : slices_Clone_int64_int64.f l = some l := by
  rw [slices_Clone_int64_int64.f, if_pos (by omega)]
theorem freq_l0 (x : List Int) (n : Nat) (hx : x.length ≤ 64) (h2 : 2 ≤ n) (h8 : n ≤ 8) (d : Nat) : ∀ (i : Nat) (b : List Int) (c : Int), x.length ≤ i + d → i ≤ 64 → b.length ≤ 8 → ∃ r : List Int × Int × Int, r.1.length ≤ 8 ∧ ∀ k, d + 2100010 ≤ k → spec_FrequentPhrase.l0 k x (n : Int) b c (i : Int) = some r ∧ impl_FrequentPhrase.l0 k x (n : Int) b c (i : Int) = some r := by
  have stop : ∀ (i : Nat) (b : List Int) (c : Int), i ≤ 64 → b.length ≤ 8 → ¬ i + n ≤ x.length → ∃ r : List Int × Int × Int, r.1.length ≤ 8 ∧ ∀ k, 1 ≤ k → spec_FrequentPhrase.l0 k x (n : Int) b c (i : Int) = some r ∧ impl_FrequentPhrase.l0 k x (n : Int) b c (i : Int) = some r := by
    intro i b c hi hb hs
    by_cases z : c = 0
    · refine ⟨([], 0, 3), by simp, fun k hk => ?_⟩
      obtain ⟨k, rfl⟩ := succ_of (show 0 < k by omega)
      rw [spec_FrequentPhrase.l0, impl_FrequentPhrase.l0, w64 (n := (i : Int) + (n : Int)) (by omega) (by omega), if_neg (show ¬ ((i : Int) + (n : Int) ≤ (x.length : Int)) by omega), if_neg (show ¬ ((i : Int) + (n : Int) ≤ (x.length : Int)) by omega), if_pos z, if_pos z]
      exact ⟨rfl, rfl⟩
    · refine ⟨(b, c, 0), hb, fun k hk => ?_⟩
      obtain ⟨k, rfl⟩ := succ_of (show 0 < k by omega)
      rw [spec_FrequentPhrase.l0, impl_FrequentPhrase.l0, w64 (n := (i : Int) + (n : Int)) (by omega) (by omega), if_neg (show ¬ ((i : Int) + (n : Int) ≤ (x.length : Int)) by omega), if_neg (show ¬ ((i : Int) + (n : Int) ≤ (x.length : Int)) by omega), if_neg z, if_neg z, fown_is b (by omega), fclone_is b (by omega)]
      exact ⟨rfl, rfl⟩
  induction d with
  | zero =>
    intro i b c hd hi hb
    obtain ⟨r, h1, hr⟩ := stop i b c hi hb (by omega)
    exact ⟨r, h1, fun k hk => hr k (by omega)⟩
  | succ d ih =>
    intro i b c hd hi hb
    by_cases hs : i + n ≤ x.length
    · have hl : ((x.take (i + n)).drop i).length = n := by rw [List.length_drop, List.length_take]; omega
      have hF : ∀ k, 100 ≤ k → spec_l06Find.f k x ((x.take (i + n)).drop i) = some (occL x ((x.take (i + n)).drop i) x.length 0) := fun k hk => specFind x _ hx (by omega) k hk
      have hO : ∀ k, 100 ≤ k → impl_occurrences.f k x ((x.take (i + n)).drop i) = some (occL x ((x.take (i + n)).drop i) x.length 0) := fun k hk => implOccs x _ hx (by omega) (by omega) k hk
      have hB : ∀ k, 2100000 ≤ k → spec_l06Before.f k ((x.take (i + n)).drop i) b = some (befB ((x.take (i + n)).drop i) b) := fun k hk => specBef _ b (by omega) (by omega) k hk
      have hC : ∀ k, 2100000 ≤ k → ∃ r : Int, slices_Compare_int64_int64.f k ((x.take (i + n)).drop i) b = some r ∧ decide (r ≥ 0) = !(befB ((x.take (i + n)).drop i) b) := fun k hk => implCmp _ b (by omega) (by omega) k hk
      have step : ∀ k, spec_FrequentPhrase.l0 (k + 1) x (n : Int) b c (i : Int) = ((spec_l06Find.f k x ((x.take (i + n)).drop i)).bind fun t424 => (if (t424.length : Int) > c then (spec_FrequentPhrase.l0 k x (n : Int) ((x.take (i + n)).drop i) (t424.length : Int) ((i + 1 : Nat) : Int)) else (if (t424.length : Int) = c then ((spec_l06Before.f k ((x.take (i + n)).drop i) b).bind fun t427 => (if t427 = true then (spec_FrequentPhrase.l0 k x (n : Int) ((x.take (i + n)).drop i) (t424.length : Int) ((i + 1 : Nat) : Int)) else (spec_FrequentPhrase.l0 k x (n : Int) b c ((i + 1 : Nat) : Int)))) else (spec_FrequentPhrase.l0 k x (n : Int) b c ((i + 1 : Nat) : Int))))) := by
        intro k
        rw [spec_FrequentPhrase.l0, w64 (n := (i : Int) + (n : Int)) (by omega) (by omega), if_pos (by omega), if_pos (by omega), if_pos (by omega), Option.bind_some, show ((i : Int) + (n : Int)).toNat = i + n by omega, Int.toNat_natCast, w64 (n := (i : Int) + 1) (by omega) (by omega), show ((i : Int) + 1) = ((i + 1 : Nat) : Int) by omega]
      have stepi : ∀ k, impl_FrequentPhrase.l0 (k + 1) x (n : Int) b c (i : Int) = ((impl_occurrences.f k x ((x.take (i + n)).drop i)).bind fun t438 => (if (t438.length : Int) > c then (impl_FrequentPhrase.l0 k x (n : Int) ((x.take (i + n)).drop i) (t438.length : Int) ((i + 1 : Nat) : Int)) else (if (t438.length : Int) = c then ((slices_Compare_int64_int64.f k ((x.take (i + n)).drop i) b).bind fun t441 => (if t441 < 0 then (impl_FrequentPhrase.l0 k x (n : Int) ((x.take (i + n)).drop i) (t438.length : Int) ((i + 1 : Nat) : Int)) else (impl_FrequentPhrase.l0 k x (n : Int) b c ((i + 1 : Nat) : Int)))) else (impl_FrequentPhrase.l0 k x (n : Int) b c ((i + 1 : Nat) : Int))))) := by
        intro k
        rw [impl_FrequentPhrase.l0, w64 (n := (i : Int) + (n : Int)) (by omega) (by omega), if_pos (by omega), if_pos (by omega), if_pos (by omega), Option.bind_some, show ((i : Int) + (n : Int)).toNat = i + n by omega, Int.toNat_natCast, w64 (n := (i : Int) + 1) (by omega) (by omega), show ((i : Int) + 1) = ((i + 1 : Nat) : Int) by omega]
      generalize (x.take (i + n)).drop i = y at *
      obtain ⟨r1, g1, k1⟩ := ih (i + 1) y ((occL x y x.length 0).length : Int) (by omega) (by omega) (by omega)
      obtain ⟨r2, g2, k2⟩ := ih (i + 1) b c (by omega) (by omega) hb
      by_cases c1 : ((occL x y x.length 0).length : Int) > c
      · refine ⟨r1, g1, fun k hk => ?_⟩
        obtain ⟨k, rfl⟩ := succ_of (show 0 < k by omega)
        rw [step, stepi, hF k (by omega), hO k (by omega), Option.bind_some, Option.bind_some, if_pos c1, if_pos c1]
        exact k1 k (by omega)
      · by_cases c2 : ((occL x y x.length 0).length : Int) = c
        · cases hb2 : befB y b with
          | true =>
            refine ⟨r1, g1, fun k hk => ?_⟩
            obtain ⟨k, rfl⟩ := succ_of (show 0 < k by omega)
            obtain ⟨q, e1, e2⟩ := hC k (by omega)
            rw [hb2] at e2
            have e3 : ¬ q ≥ 0 := of_decide_eq_false e2
            rw [step, stepi, hF k (by omega), hO k (by omega), Option.bind_some, Option.bind_some, if_neg c1, if_neg c1, if_pos c2, if_pos c2, hB k (by omega), e1, hb2, Option.bind_some, Option.bind_some, if_pos rfl, if_pos (by omega)]
            exact k1 k (by omega)
          | false =>
            refine ⟨r2, g2, fun k hk => ?_⟩
            obtain ⟨k, rfl⟩ := succ_of (show 0 < k by omega)
            obtain ⟨q, e1, e2⟩ := hC k (by omega)
            rw [hb2] at e2
            have e3 : q ≥ 0 := of_decide_eq_true e2
            rw [step, stepi, hF k (by omega), hO k (by omega), Option.bind_some, Option.bind_some, if_neg c1, if_neg c1, if_pos c2, if_pos c2, hB k (by omega), e1, hb2, Option.bind_some, Option.bind_some, if_neg (by simp), if_neg (by omega)]
            exact k2 k (by omega)
        · refine ⟨r2, g2, fun k hk => ?_⟩
          obtain ⟨k, rfl⟩ := succ_of (show 0 < k by omega)
          rw [step, stepi, hF k (by omega), hO k (by omega), Option.bind_some, Option.bind_some, if_neg c1, if_neg c1, if_neg c2, if_neg c2]
          exact k2 k (by omega)
    · obtain ⟨r, h1, hr⟩ := stop i b c hi hb hs
      exact ⟨r, h1, fun k hk => hr k (by omega)⟩
theorem freq_both (x : List Int) (hn : x.length ≤ 1048576) (a1 : Int) : ∃ (w : List Int) (u c : Int), w.length ≤ 1100000 ∧ ∀ k, 2200000 ≤ k → spec_FrequentPhrase.f k x a1 = some (w, u, c) ∧ impl_FrequentPhrase.f k x a1 = some (w, u, c) := by
  have iIn : ∀ a lo hi, impl_within.f a lo hi = some (inB a lo hi) := specIn
  have iP : impl_pitchesOk.f x = some (allP x && decide (x.length ≤ 64)) := by
    rw [impl_pitchesOk.f, implAll]
    by_cases h : (x.length : Int) ≤ 64
    · rw [if_pos h, decide_eq_true (show x.length ≤ 64 by omega), Bool.and_true]
      rfl
    · rw [if_neg h, decide_eq_false (show ¬ x.length ≤ 64 by omega), Bool.and_false]
  cases h : (allP x && decide (x.length ≤ 64)) with
  | false =>
    refine ⟨[], 0, 7, by simp, fun k hk => ?_⟩
    rw [spec_FrequentPhrase.f, impl_FrequentPhrase.f, specPit x hn k (by omega), iP, h]
    exact ⟨rfl, rfl⟩
  | true =>
    have hl : x.length ≤ 64 := by
      rw [Bool.and_eq_true, decide_eq_true_eq] at h
      exact h.2
    cases h2 : inB a1 2 8 with
    | false =>
      refine ⟨[], 0, 2, by simp, fun k hk => ?_⟩
      rw [spec_FrequentPhrase.f, impl_FrequentPhrase.f, specPit x hn k (by omega), iP, h, specIn, iIn, h2]
      exact ⟨rfl, rfl⟩
    | true =>
      have ha : 2 ≤ a1 ∧ a1 ≤ 8 := by simpa [inB] using h2
      obtain ⟨⟨w, u, c⟩, g, hw⟩ := freq_l0 x a1.toNat hl (by omega) (by omega) x.length 0 [] 0 (by omega) (by omega) (by simp)
      refine ⟨w, u, c, by simp at g; omega, fun k hk => ?_⟩
      have hw := hw k (by omega)
      rw [Int.toNat_of_nonneg (by omega), show ((0 : Nat) : Int) = 0 from rfl] at hw
      rw [spec_FrequentPhrase.f, impl_FrequentPhrase.f, specPit x hn k (by omega), iP, h, specIn, iIn, h2]
      exact hw
theorem FnExactFrequentPhrase : laws_FnExactFrequentPhrase.Pure := by
  intro l0 a1 h0 h1
  obtain ⟨k, hk⟩ : ∃ k, 2200000 ≤ k := ⟨_, Nat.le_refl _⟩
  refine ⟨k + 5, ?_⟩
  rw [laws_FnExactFrequentPhrase.f]
  by_cases c : (l0.length : Int) > 1048576
  · rw [if_pos c]
  · have hn : l0.length ≤ 1048576 := by omega
    obtain ⟨w, u, cd, hw, hb⟩ := freq_both l0 hn a1
    have S := fun j hj => (hb j hj).1
    have I := fun j hj => (hb j hj).2
    have T := toI l0 hn
    have EN := eqI l0 (by omega)
    have MN := markI l0 (by omega)
    have E := eqI w (by omega)
    have M := markI w (by omega)
    have H := heldI w.length (by omega)
    have c1 : ¬ ((1 + (l0.length : Int)) < 0) := by omega
    have c2 : ¬ ((1 + (w.length : Int)) < 0) := by omega
    rw [if_neg c]
    rw [T (k + 5) (by omega)]
    simp only [Option.bind_some]
    rw [S (k + 5) (by omega), Option.bind_some, I (k + 5) (by omega), Option.bind_some]
    dsimp only
    rw [E (k + 5) (by omega), Option.bind_some, if_pos rfl, if_pos rfl, laws_FnExactFrequentPhrase.j0, if_neg (by simp), T (k + 4) (by omega), Option.bind_some, EN (k + 4) (by omega), Option.bind_some, if_pos rfl, MN (k + 4) (by omega), Option.bind_some]
    dsimp only
    rw [if_neg c1, E (k + 4) (by omega), Option.bind_some, if_pos rfl, if_pos rfl, laws_FnExactFrequentPhrase.j1, if_neg (by simp), M (k + 3) (by omega), Option.bind_some]
    dsimp only
    rw [H (k + 3) (by omega), Option.bind_some, if_neg c2, if_pos rfl, T (k + 3) (by omega), Option.bind_some, I (k + 3) (by omega), Option.bind_some]
    dsimp only
    rw [E (k + 3) (by omega), Option.bind_some, if_pos rfl, if_pos rfl, laws_FnExactFrequentPhrase.j2, if_neg (by simp), H (k + 2) (by omega), Option.bind_some, if_neg c2, if_pos rfl]

end Go.Proofs.Ytnnblnbepnfbhaa.Pure
