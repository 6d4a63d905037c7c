/- The law FnExactWorthOf over lists alone. No condition. -/
import Derived.Test.YtnnblnbepnfbhaaM3x0
import Derived.Test.YtnnblnbepnfbhaaM3x9
import Derived.Test.YtnnblnbepnfbhaaM3x13
import Derived.Test.YtnnblnbepnfbhaaM3x14
import Derived.Test.YtnnblnbepnfbhaaWalk2
import Derived.Test.YtnnblnbepnfbhaaTo
namespace Go.Proofs.Ytnnblnbepnfbhaa.Pure
open Go.RowKit Go.Proofs.Ytnnblnbepnfbhaa.M3 Go.Proofs.YtnnblnbepnfbhaaW.PrintWords Go.Proofs.YtnnblnbepnfbhaaW.PrintLast
theorem worth_both (x : List S26) (y : List Int) (hn : x.length ≤ 1048576) (hm : y.length ≤ 1048576) : ∃ (w c : Int), ∀ k, 2200000 ≤ k → spec_WorthOf.f k x y = some (w, c) ∧ impl_WorthOf.f k x y = some (w, c) := by
  cases h : okM x with
  | false =>
    refine ⟨0, 1, fun k hk => ?_⟩
    rw [spec_WorthOf.f, impl_WorthOf.f, specOkM x hn k (by omega), implOkM x hn k (by omega), h]
    exact ⟨rfl, rfl⟩
  | true =>
    cases h2 : okO x.length y with
    | false =>
      refine ⟨0, 7, fun k hk => ?_⟩
      rw [spec_WorthOf.f, impl_WorthOf.f, specOkM x hn k (by omega), implOkM x hn k (by omega), h, specOrd x y hn hm k (by omega), implOrd x y hn hm k (by omega), h2]
      exact ⟨rfl, rfl⟩
    | true =>
      obtain ⟨w, hw⟩ := worth_l0 x y hm h2 y.length 0 0 (by omega)
      refine ⟨w, 0, fun k hk => ?_⟩
      have hw := hw k (by omega)
      rw [show ((0 : Nat) : Int) = 0 from rfl] at hw
      rw [spec_WorthOf.f, impl_WorthOf.f, specOkM x hn k (by omega), implOkM x hn k (by omega), h, specOrd x y hn hm k (by omega), implOrd x y hn hm k (by omega), h2]
      simp only [Option.bind_some, if_true, spec_l08Worth.f, hw.1, hw.2, and_self]
theorem FnExactWorthOf : laws_FnExactWorthOf.Pure := by
  intro l0 l1  h0 h1 
  obtain ⟨k, hk⟩ : ∃ k, 2200000 ≤ k := ⟨_, Nat.le_refl _⟩
  refine ⟨k + 5, ?_⟩
  obtain ⟨t, ht, hl⟩ := szM l0 h0.1 (k + 5) (by omega)
  rw [laws_FnExactWorthOf.f]
  by_cases c1 : (l1.length : Int) > 1048576
  · rw [if_pos c1]
  · rw [if_neg c1, ht, Option.bind_some]
    by_cases c : t < 0
    · rw [if_pos c]
    · have hn := hl c
      have hm : l1.length ≤ 1048576 := by omega
      have hn' : (l0.map cvM).length ≤ 1048576 := by simpa using hn
      obtain ⟨w, cd, hb⟩ := worth_both (l0.map cvM) l1  hn' hm
      have S := fun j hj => (hb j hj).1
      have I := fun j hj => (hb j hj).2
      have TM := toM l0 hn
      have TI := toI l1 hm
      have EM := eqM (l0.map cvM) (by omega)
      have EI := eqI l1 (by omega)
      rw [if_neg c]
      generalize l0.map cvM = m at *
      simp (disch := omega) only [TM, TI, S, I, EM, EI, laws_FnExactWorthOf.j0, Option.bind_some, bne_self_eq_false, Bool.false_eq_true, if_false, if_true]


end Go.Proofs.Ytnnblnbepnfbhaa.Pure
