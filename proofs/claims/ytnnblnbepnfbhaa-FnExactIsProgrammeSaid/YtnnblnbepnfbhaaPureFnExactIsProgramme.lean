/- The law FnExactIsProgramme over lists alone. No condition. -/
import Derived.Test.YtnnblnbepnfbhaaM3x0
import Derived.Test.YtnnblnbepnfbhaaM3x4
import Derived.Test.YtnnblnbepnfbhaaM3x10
import Derived.Test.YtnnblnbepnfbhaaM3x12
import Derived.Test.YtnnblnbepnfbhaaM3x14
import Derived.Test.YtnnblnbepnfbhaaM3x16
import Derived.Test.YtnnblnbepnfbhaaM3x17
import Derived.Test.YtnnblnbepnfbhaaM3x18
import Derived.Test.YtnnblnbepnfbhaaM3x19
import Derived.Test.YtnnblnbepnfbhaaM3x20
import Derived.Test.YtnnblnbepnfbhaaM3x21
import Derived.Test.YtnnblnbepnfbhaaWalk2
import Derived.Test.YtnnblnbepnfbhaaTo
namespace Go.Proofs.Ytnnblnbepnfbhaa.Pure
open Go.RowKit Go.Proofs.Ytnnblnbepnfbhaa.M3 Go.Proofs.YtnnblnbepnfbhaaW.PrintWords Go.Proofs.YtnnblnbepnfbhaaW.PrintLast
theorem prog_both (x : List S26) (y : List Int) (a b z : Int) (hn : x.length ≤ 1048576) (hm : y.length ≤ 1048576) : ∃ (w : Bool), ∀ k, 2200000 ≤ k → spec_IsProgramme.f k x y a b z = some w ∧ impl_IsProgramme.f k x y a b z = some w := by
  have ij : ∀ k b, impl_EndOf.j0 (k + 1) x y a z b = if b = true then (some (0, 2)) else ((impl_Item_92.f k x y).bind fun t707 => (if t707 = true then ((impl_endOf.f k x y a z).bind fun bt708 => (if bt708.2 = true then (some (bt708.1, 0)) else (some (0, 6)))) else (some (0, 7)))) := fun _ _ => rfl
  cases h : okM x with
  | false =>
    refine ⟨false, fun k hk => ?_⟩
    rw [spec_IsProgramme.f, impl_IsProgramme.f, impl_EndOf.f, specOkM x hn k (by omega), implOkM x hn k (by omega), h]
    exact ⟨rfl, rfl⟩
  | true =>
    cases h1 : inB a 0 1439 with
    | false =>
      refine ⟨false, fun k hk => ?_⟩
      obtain ⟨k, rfl⟩ := succ_of (show 0 < k by omega)
      rw [spec_IsProgramme.f, impl_IsProgramme.f, impl_EndOf.f, specOkM x hn (k + 1) (by omega), implOkM x hn (k + 1) (by omega), h, spec_l08Minute.f, impl_minuteOk.f, specIn, implIn, h1]
      simp only [Option.bind_some, if_true, Bool.false_eq_true, if_false, ij]
      first | exact ⟨rfl, rfl⟩ | exact ⟨trivial, rfl⟩ | simp
    | true =>
      cases h2 : inB z 0 5 with
      | false =>
        refine ⟨false, fun k hk => ?_⟩
        obtain ⟨k, rfl⟩ := succ_of (show 0 < k by omega)
        rw [spec_IsProgramme.f, impl_IsProgramme.f, impl_EndOf.f, specOkM x hn (k + 1) (by omega), implOkM x hn (k + 1) (by omega), h, spec_l08Minute.f, impl_minuteOk.f, spec_l08Season.f, impl_seasonOk.f, specIn, implIn, specIn, implIn, h1, h2]
        simp only [Option.bind_some, if_true, Bool.not_false, Bool.false_eq_true, if_false, ij]
        first | exact ⟨rfl, rfl⟩ | exact ⟨trivial, rfl⟩ | simp
      | true =>
        cases h3 : okO x.length y with
        | false =>
          refine ⟨false, fun k hk => ?_⟩
          obtain ⟨k, rfl⟩ := succ_of (show 0 < k by omega)
          rw [spec_IsProgramme.f, impl_IsProgramme.f, impl_EndOf.f, specOkM x hn (k + 1) (by omega), implOkM x hn (k + 1) (by omega), h, spec_l08Minute.f, impl_minuteOk.f, spec_l08Season.f, impl_seasonOk.f, specIn, implIn, specIn, implIn, h1, h2]
          simp only [Option.bind_some, if_true, Bool.not_true, Bool.false_eq_true, if_false, ij, specOrd x y hn hm (k + 1) (by omega), implOrd x y hn hm k (by omega), h3, spec_l08Until.f, specIn]
          cases inB b a (wrap64 (a + 1440)) <;> exact ⟨rfl, rfl⟩
        | true =>
          obtain ⟨w, hw⟩ := end_l0 x y z hm h h3 y.length 0 a (by omega)
          refine ⟨if w.2 = true then (if inB b a (wrap64 (a + 1440)) = true then decide (w.1 ≤ b) else false) else false, fun k hk => ?_⟩
          obtain ⟨k, rfl⟩ := succ_of (show 0 < k by omega)
          have hw1 := hw k (by omega)
          have hw2 := hw (k + 1) (by omega)
          rw [show ((0 : Nat) : Int) = 0 from rfl] at hw1 hw2
          rw [spec_IsProgramme.f, impl_IsProgramme.f, impl_EndOf.f, specOkM x hn (k + 1) (by omega), implOkM x hn (k + 1) (by omega), h, spec_l08Minute.f, impl_minuteOk.f, spec_l08Season.f, impl_seasonOk.f, specIn, implIn, specIn, implIn, h1, h2]
          simp only [Option.bind_some, if_true, Bool.not_true, Bool.false_eq_true, if_false, ij, specOrd x y hn hm (k + 1) (by omega), implOrd x y hn hm k (by omega), h3, spec_l08Until.f, specIn, implIn, spec_l08End.f, impl_endOf.f, hw2.1, hw1.2]
          cases w.2 <;> cases inB b a (wrap64 (a + 1440)) <;> exact ⟨rfl, rfl⟩
theorem FnExactIsProgramme : laws_FnExactIsProgramme.Pure := by
  intro l0 l1 a2 a3 a4 h0 h1 h2 h3 h4
  obtain ⟨k, hk⟩ : ∃ k, 2200000 ≤ k := ⟨_, Nat.le_refl _⟩
  refine ⟨k + 5, ?_⟩
  obtain ⟨t, ht, hl⟩ := szM l0 h0.1 (k + 5) (by omega)
  rw [laws_FnExactIsProgramme.f]
  by_cases c1 : (l1.length : Int) > 1048576
  · rw [if_pos c1]
  · rw [if_neg c1, ht, Option.bind_some]
    by_cases c : t < 0
    · rw [if_pos c]
    · have hn := hl c
      have hm : l1.length ≤ 1048576 := by omega
      have hn' : (l0.map cvM).length ≤ 1048576 := by simpa using hn
      obtain ⟨w, hb⟩ := prog_both (l0.map cvM) l1 a2 a3 a4 hn' hm
      have S := fun j hj => (hb j hj).1
      have I := fun j hj => (hb j hj).2
      have TM := toM l0 hn
      have TI := toI l1 hm
      have EM := eqM (l0.map cvM) (by omega)
      have EI := eqI l1 (by omega)
      rw [if_neg c]
      generalize l0.map cvM = m at *
      simp (disch := omega) only [TM, TI, S, I, EM, EI, Option.bind_some, bne_self_eq_false, Bool.false_eq_true, if_false, if_true]


end Go.Proofs.Ytnnblnbepnfbhaa.Pure
