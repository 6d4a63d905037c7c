/- The law FnExactBorderOf over lists alone. No condition. -/
import Derived.Test.YtnnblnbepnfbhaaM2x0
import Derived.Test.YtnnblnbepnfbhaaM2x3
import Derived.Test.YtnnblnbepnfbhaaM2x7
import Derived.Test.YtnnblnbepnfbhaaM2x31
import Derived.Test.YtnnblnbepnfbhaaM2x32
import Derived.Test.YtnnblnbepnfbhaaM2x33
import Derived.Test.YtnnblnbepnfbhaaOcc
import Derived.Test.YtnnblnbepnfbhaaPTo
namespace Go.Proofs.Ytnnblnbepnfbhaa.Pure
open Go.RowKit Go.Proofs.Ytnnblnbepnfbhaa.M2 Go.Proofs.YtnnblnbepnfbhaaW.PrintWords Go.Proofs.YtnnblnbepnfbhaaW.PrintLast
theorem implEq2 (x : List Int) (n : Nat) (hn : n ≤ x.length) (hx : x.length ≤ 8) (k : Nat) (hk : 9 ≤ k) : slices_Equal_int64_int64.f k (x.take n) (x.drop (x.length - n)) = some (occ x (x.take n) (x.length - n)) := by
  have hl : (x.take n).length = n := by rw [List.length_take]; omega
  have hl2 : (x.drop (x.length - n)).length = n := by rw [List.length_drop]; omega
  rw [slices_Equal_int64_int64.f, if_pos (by omega), occ, show decide (x.length - n + (x.take n).length ≤ x.length) = true from decide_eq_true (by omega), Bool.true_and, hl]
  have g : ∀ (d k j : Nat), j + d = n → d < k → slices_Equal_int64_int64.l0 k (x.take n) (x.drop (x.length - n)) (n : Int) (j : Int) = some (eqD x (x.take n) (x.length - n) d j) := by
    intro d
    induction d with
    | zero =>
      intro k j hj hk
      obtain ⟨k, rfl⟩ := succ_of hk
      rw [slices_Equal_int64_int64.l0, if_neg (by omega), eqD]
    | succ d ih =>
      intro k j hj hk
      obtain ⟨k, rfl⟩ := succ_of hk
      have e1 : rd (x.drop (x.length - n)) (j : Int) = rd x ((x.length - n + j : Nat) : Int) := by
        rw [rd_at (by omega), rd_at (by omega), List.getElem_drop]
      rw [slices_Equal_int64_int64.l0, if_pos (by omega), if_pos (by omega), if_pos (by omega), if_pos (by omega), w64 (by omega) (by omega), eqD, show ((j : Int) + 1) = ((j + 1 : Nat) : Int) by omega, ih k (j + 1) (by omega) (by omega), e1]
      by_cases e : rd x ((x.length - n + j : Nat) : Int) = rd (x.take n) (j : Int)
      · rw [if_pos e.symm, decide_eq_true e, Bool.true_and]
      · rw [if_neg (fun h => e h.symm), decide_eq_false e, Bool.false_and]
  exact g n k 0 (by omega) (by omega)
theorem border_l0 (x : List Int) (hx : x.length ≤ 8) (n : Nat) : n ≤ x.length → ∃ w : Int, ∀ k, n + 20 ≤ k → spec_BorderOf.l0 k x (n : Int) = some (w, 0) ∧ impl_BorderOf.l0 k x (n : Int) = some (w, 0) := by
  have hs : ∀ n : Nat, n ≤ x.length → ∀ k, 9 ≤ k → spec_l06Occurs.f k x (x.take n) ((x.length - n : Nat) : Int) = some (occ x (x.take n) (x.length - n)) := fun n hn k hk =>
    specOcc x (x.take n) (x.length - n) (by omega) (by omega) (by rw [List.length_take]; omega) k hk
  induction n with
  | zero =>
    intro hn
    refine ⟨0, fun k hk => ?_⟩
    obtain ⟨k, rfl⟩ := succ_of (show 0 < k by omega)
    have h1 := hs 0 hn k (by omega)
    have h2 := implEq2 x 0 hn hx k (by omega)
    have h3 : occ x (x.take 0) (x.length - 0) = true := by simp [occ, eqD]
    rw [spec_BorderOf.l0, impl_BorderOf.l0, w64 (n := (x.length : Int) - ((0 : Nat) : Int)) (by omega) (by omega), show (x.length : Int) - ((0 : Nat) : Int) = ((x.length - 0 : Nat) : Int) by omega, Int.toNat_natCast, Int.toNat_natCast, h1, h2, h3]
    rw [if_pos (by omega), if_pos (by omega), if_pos (by omega), if_pos (by omega), if_pos (by omega), if_pos (by omega)]
    exact ⟨rfl, rfl⟩
  | succ n ih =>
    intro hn
    obtain ⟨w, hw⟩ := ih (by omega)
    cases h3 : occ x (x.take (n + 1)) (x.length - (n + 1)) with
    | true =>
      refine ⟨((n + 1 : Nat) : Int), fun k hk => ?_⟩
      obtain ⟨k, rfl⟩ := succ_of (show 0 < k by omega)
      have h1 := hs (n + 1) hn k (by omega)
      have h2 := implEq2 x (n + 1) hn hx k (by omega)
      rw [spec_BorderOf.l0, impl_BorderOf.l0, w64 (n := (x.length : Int) - ((n + 1 : Nat) : Int)) (by omega) (by omega), show (x.length : Int) - ((n + 1 : Nat) : Int) = ((x.length - (n + 1) : Nat) : Int) by omega, Int.toNat_natCast, Int.toNat_natCast, h1, h2, h3]
      rw [if_pos (by omega), if_pos (by omega), if_pos (by omega), if_pos (by omega), if_pos (by omega), if_pos (by omega)]
      exact ⟨rfl, rfl⟩
    | false =>
      refine ⟨w, fun k hk => ?_⟩
      obtain ⟨k, rfl⟩ := succ_of (show 0 < k by omega)
      have h1 := hs (n + 1) hn k (by omega)
      have h2 := implEq2 x (n + 1) hn hx k (by omega)
      have hw := hw k (by omega)
      rw [spec_BorderOf.l0, impl_BorderOf.l0, w64 (n := (x.length : Int) - ((n + 1 : Nat) : Int)) (by omega) (by omega), show (x.length : Int) - ((n + 1 : Nat) : Int) = ((x.length - (n + 1) : Nat) : Int) by omega, Int.toNat_natCast, Int.toNat_natCast, h1, h2, h3, w64 (n := ((n + 1 : Nat) : Int) - 1) (by omega) (by omega), show ((n + 1 : Nat) : Int) - 1 = (n : Int) by omega]
      rw [if_pos (by omega), if_pos (by omega), if_pos (by omega), if_pos (by omega), if_pos (by omega), if_pos (by omega)]
      exact hw
theorem border_both (x : List Int) (hx : x.length ≤ 1048576) : ∃ (w : Int) (c : Int), ∀ k, 1100000 ≤ k → spec_BorderOf.f k x = some (w, c) ∧ impl_BorderOf.f k x = some (w, c) := by
  cases h : phr x with
  | false =>
    refine ⟨0, 1, fun k hk => ?_⟩
    rw [spec_BorderOf.f, impl_BorderOf.f, specPhr x hx k (by omega), implPhr, h]
    exact ⟨rfl, rfl⟩
  | true =>
    have hl : 2 ≤ x.length ∧ x.length ≤ 8 := by
      have h' := h
      rw [phr, Bool.and_eq_true, decide_eq_true_eq] at h'
      exact h'.2
    obtain ⟨w, hw⟩ := border_l0 x hl.2 (x.length - 1) (by omega)
    refine ⟨w, 0, fun k hk => ?_⟩
    have hw := hw k (by omega)
    rw [show ((x.length - 1 : Nat) : Int) = (x.length : Int) - 1 by omega] at hw
    rw [spec_BorderOf.f, impl_BorderOf.f, specPhr x hx k (by omega), implPhr, h, w64 (n := (x.length : Int) - 1) (by omega) (by omega)]
    exact hw
theorem FnExactBorderOf : laws_FnExactBorderOf.Pure := by
  intro l0 h0
  obtain ⟨k, hk⟩ : ∃ k, 1200000 ≤ k := ⟨_, Nat.le_refl _⟩
  refine ⟨k + 5, ?_⟩
  rw [laws_FnExactBorderOf.f]
  by_cases c : (l0.length : Int) > 1048576
  · rw [if_pos c]
  · have hn : l0.length ≤ 1048576 := by omega
    obtain ⟨w, cd, hb⟩ := border_both l0 hn
    have S := fun j hj => (hb j hj).1
    have I := fun j hj => (hb j hj).2
    have T := toI l0 hn
    have EN := eqI l0 (by omega)
    rw [if_neg c]
    simp (disch := omega) only [T, S, I, EN, laws_FnExactBorderOf.j0, Option.bind_some, bne_self_eq_false, Bool.false_eq_true, if_false, if_true]

end Go.Proofs.Ytnnblnbepnfbhaa.Pure
