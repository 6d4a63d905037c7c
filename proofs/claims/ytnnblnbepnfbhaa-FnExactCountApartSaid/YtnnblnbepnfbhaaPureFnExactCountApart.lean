/- The law FnExactCountApart over lists alone. No condition. -/
import Derived.Test.YtnnblnbepnfbhaaM2x0
import Derived.Test.YtnnblnbepnfbhaaM2x5
import Derived.Test.YtnnblnbepnfbhaaM2x9
import Derived.Test.YtnnblnbepnfbhaaM2x10
import Derived.Test.YtnnblnbepnfbhaaOcc
import Derived.Test.YtnnblnbepnfbhaaPTo
namespace Go.Proofs.Ytnnblnbepnfbhaa.Pure
open Go.RowKit Go.Proofs.Ytnnblnbepnfbhaa.M2 Go.Proofs.YtnnblnbepnfbhaaW.PrintWords Go.Proofs.YtnnblnbepnfbhaaW.PrintLast
def cnt (n : Nat) : List Int → Int → Int → Int
  | [], c, _ => c
  | o :: l, c, u => if o ≥ u then cnt n l (c + 1) (o + n) else cnt n l c u
theorem cnt_ge (x y : List Int) (d : Nat) : ∀ (j : Nat) (u c : Int), u ≤ j → cnt y.length (occL x y d j) c u = cnt y.length (occL x y d j) c j := by
  induction d with
  | zero => intro j u c _; rfl
  | succ d ih =>
    intro j u c hu
    rw [occL]
    by_cases e : occ x y j = true
    · rw [if_pos e, cnt, cnt, if_pos (by omega), if_pos (by omega)]
    · rw [if_neg e, ih (j + 1) u c (by omega), ih (j + 1) (j : Int) c (by omega)]
theorem cnt_skip (x y : List Int) (m : Nat) : ∀ (d i : Nat) (c : Int), m ≤ d → cnt y.length (occL x y d i) c ((i + m : Nat) : Int) = cnt y.length (occL x y (d - m) (i + m)) c ((i + m : Nat) : Int) := by
  induction m with
  | zero => intro d i c _; rfl
  | succ m ih =>
    intro d i c hd
    obtain ⟨d, rfl⟩ := succ_of (show 0 < d by omega)
    have h := ih d (i + 1) c (by omega)
    rw [show i + 1 + m = i + (m + 1) by omega] at h
    rw [show d + 1 - (m + 1) = d - m by omega, ← h, occL]
    by_cases e : occ x y i = true
    · rw [if_pos e, cnt, if_neg (by omega)]
    · rw [if_neg e]
theorem specCount (x y : List Int) (hx : x.length ≤ 64) (hy : y.length ≤ 8) (hy2 : 2 ≤ y.length) (d : Nat) : ∀ (k i : Nat) (c : Int), x.length - i = d → i ≤ x.length → 0 ≤ c → c ≤ i → d + 20 ≤ k → spec_CountApart.l0 k x y c (i : Int) = some (cnt y.length (occL x y d i) c i, 0) := by
  induction d using Nat.strongRecOn with
  | ind d ih =>
    intro k i c hd hi h0 hc hk
    obtain ⟨k, rfl⟩ := succ_of (show 0 < k by omega)
    by_cases z : i < x.length
    · obtain ⟨d, rfl⟩ := succ_of (show 0 < d by omega)
      rw [spec_CountApart.l0, if_pos (by omega), specOcc x y i hx (by omega) hy k (by omega), Option.bind_some, occL, w64 (n := c + 1) (by omega) (by omega), w64 (n := (i : Int) + (y.length : Int)) (by omega) (by omega), w64 (n := (i : Int) + 1) (by omega) (by omega)]
      by_cases e : occ x y i = true
      · have hl : i + y.length ≤ x.length := by
          rw [occ, Bool.and_eq_true, decide_eq_true_eq] at e
          exact e.1
        have hs := cnt_skip x y (y.length - 1) d (i + 1) (c + 1) (by omega)
        rw [show i + 1 + (y.length - 1) = i + y.length by omega, show d - (y.length - 1) = d + 1 - y.length by omega] at hs
        rw [if_pos e, if_pos e, show (i : Int) + (y.length : Int) = ((i + y.length : Nat) : Int) by omega, ih (d + 1 - y.length) (by omega) k (i + y.length) (c + 1) (by omega) (by omega) (by omega) (by omega) (by omega), cnt, if_pos (by omega), show (i : Int) + (y.length : Int) = ((i + y.length : Nat) : Int) by omega, hs]
      · rw [if_neg e, if_neg e, show ((i : Int) + 1) = ((i + 1 : Nat) : Int) by omega, ih d (by omega) k (i + 1) c (by omega) (by omega) (by omega) (by omega) (by omega), cnt_ge x y d (i + 1) (i : Int) c (by omega)]
    · have : d = 0 := by omega
      subst this
      rw [spec_CountApart.l0, if_neg (by omega)]
      rfl
theorem occL_at (x y : List Int) (d : Nat) : ∀ (i : Nat), ∀ o ∈ occL x y d i, (i : Int) ≤ o ∧ o < i + d := by
  induction d with
  | zero => intro i o ho; exact absurd ho (by simp [occL])
  | succ d ih =>
    intro i o ho
    rw [occL] at ho
    split at ho
    · rw [List.mem_cons] at ho
      rcases ho with h | h
      · omega
      · have := ih (i + 1) o h
        omega
    · have := ih (i + 1) o ho
      omega
theorem implCount (y : List Int) (hy : y.length ≤ 8) (L : List Int) (hL : L.length ≤ 64) (hv : ∀ o ∈ L, 0 ≤ o ∧ o ≤ 64) (d : Nat) : ∀ (k j : Nat) (c u : Int), j + d = L.length → d < k → 0 ≤ c → c ≤ j → impl_CountApart.l0 k y c u L (L.length : Int) (j : Int) = some (cnt y.length (L.drop j) c u, 0) := by
  induction d with
  | zero =>
    intro k j c u hj hk h0 hc
    obtain ⟨k, rfl⟩ := succ_of hk
    rw [impl_CountApart.l0, if_neg (by omega), List.drop_eq_nil_of_le (by omega)]
    rfl
  | succ d ih =>
    intro k j c u hj hk h0 hc
    obtain ⟨k, rfl⟩ := succ_of hk
    have hlt : j < L.length := by omega
    have ho := hv L[j] (List.getElem_mem hlt)
    rw [impl_CountApart.l0, if_pos (by omega), if_pos (by omega), if_pos (by omega), rd_at hlt, List.drop_eq_getElem_cons hlt, cnt, w64 (n := c + 1) (by omega) (by omega), w64 (n := L[j] + (y.length : Int)) (by omega) (by omega), w64 (n := (j : Int) + 1) (by omega) (by omega), show ((j : Int) + 1) = ((j + 1 : Nat) : Int) by omega]
    by_cases e : L[j] ≥ u
    · rw [if_pos e, if_pos e, ih k (j + 1) (c + 1) _ (by omega) (by omega) (by omega) (by omega)]
    · rw [if_neg e, if_neg e, ih k (j + 1) c u (by omega) (by omega) (by omega) (by omega)]
theorem count_both (x y : List Int) (hx : x.length ≤ 1048576) (hy : y.length ≤ 1048576) : ∃ (w c : Int), ∀ k, 1100000 ≤ k → spec_CountApart.f k x y = some (w, c) ∧ impl_CountApart.f k x y = some (w, c) := by
  by_cases h : code x y = 0
  · obtain ⟨h1, h2, h3⟩ := code_zero h
    have hl := occL_len x y x.length 0
    refine ⟨cnt y.length (occL x y x.length 0) 0 0, 0, fun k hk => ?_⟩
    have a := specCount x y h1 h3 h2 x.length k 0 0 (by omega) (by omega) (by omega) (by omega) (by omega)
    have b := implCount y h3 (occL x y x.length 0) (by omega) (fun o ho => by have := occL_at x y x.length 0 o ho; omega) (occL x y x.length 0).length k 0 0 0 (by omega) (by omega) (by omega) (by omega)
    rw [show ((0 : Nat) : Int) = 0 from rfl] at a b
    rw [spec_CountApart.f, impl_CountApart.f, specAsk x y hx hy k (by omega), implAsk, Option.bind_some, Option.bind_some, if_pos h, if_pos h, implOccs x y h1 h3 h2 k (by omega), Option.bind_some, a, b]
    exact ⟨rfl, rfl⟩
  · refine ⟨0, code x y, fun k hk => ?_⟩
    rw [spec_CountApart.f, impl_CountApart.f, specAsk x y hx hy k (by omega), implAsk, Option.bind_some, Option.bind_some, if_neg h, if_neg h]
    exact ⟨rfl, rfl⟩
theorem FnExactCountApart : laws_FnExactCountApart.Pure := by
  intro l0 l1 h0 h1
  obtain ⟨k, hk⟩ : ∃ k, 1200000 ≤ k := ⟨_, Nat.le_refl _⟩
  refine ⟨k + 5, ?_⟩
  rw [laws_FnExactCountApart.f]
  by_cases c : (l0.length : Int) > 1048576
  · rw [if_pos c]
  · by_cases c' : (l1.length : Int) > 1048576
    · rw [if_neg c, if_pos c']
    · have hn : l0.length ≤ 1048576 := by omega
      have hm : l1.length ≤ 1048576 := by omega
      obtain ⟨w, cd, hb⟩ := count_both l0 l1 hn hm
      have S := fun j hj => (hb j hj).1
      have I := fun j hj => (hb j hj).2
      have T0 := toI l0 hn
      have T1 := toI l1 hm
      have E0 := eqI l0 (by omega)
      have E1 := eqI l1 (by omega)
      rw [if_neg c, if_neg c']
      simp (disch := omega) only [T0, T1, S, I, E0, E1, laws_FnExactCountApart.j0, Option.bind_some, bne_self_eq_false, Bool.false_eq_true, if_false, if_true]

end Go.Proofs.Ytnnblnbepnfbhaa.Pure
