/- The law FnExactNextStart over numbers and bytes alone. No condition. -/
import Derived.Test.YtnnblnbepnfbhaaMx0
import Derived.Test.YtnnblnbepnfbhaaMx1
import Derived.Test.YtnnblnbepnfbhaaMx4
import Derived.Test.YtnnblnbepnfbhaaMx5
import Derived.Test.YtnnblnbepnfbhaaMx7
import Derived.Test.YtnnblnbepnfbhaaMx8
import Derived.Test.YtnnblnbepnfbhaaMx9
import Derived.Test.YtnnblnbepnfbhaaMx10
import Derived.Test.YtnnblnbepnfbhaaMx24
import Derived.Test.YtnnblnbepnfbhaaMx25
import Derived.Test.YtnnblnbepnfbhaaMx26
import Derived.Test.YtnnblnbepnfbhaaFits
namespace Go.Proofs.Ytnnblnbepnfbhaa.Pure
open Go.RowKit Go.Proofs.Ytnnblnbepnfbhaa.M Go.Proofs.YtnnblnbepnfbhaaW.PrintWords Go.Proofs.YtnnblnbepnfbhaaW.PrintLast
theorem fits_self {a b c z : Int} : fitsB a b c a z = if c ≠ -1 ∧ c ≠ z then false else true := by
  unfold fitsB fitsT
  by_cases h1 : c ≠ -1 ∧ c ≠ z
  · simp [h1]
  · rw [if_neg h1, if_neg h1]
    by_cases h2 : a < b <;> simp [h2]
theorem next_both (s : ByteArray) (a b c d e m z : Int) (hm' : 0 ≤ a ∧ a ≤ 1439) : ∃ r, spec_NextStart.f 12 s a b c d e m z = some r ∧ impl_NextStart.f 12 s a b c d e m z = some r := by
  have sj : ∀ x, spec_NextStart.j0 12 m z x s a b c d e = if x = true then (some (0, 2)) else ((spec_l08Fits.f 11 s a b c d e m z).bind fun t270 => (if t270 = true then (some (m, 0)) else ((spec_l08Fits.f 11 s a b c d e a z).bind fun t271 => (if t271 = true then (some (a, 0)) else (some (0, 3)))))) := fun _ => rfl
  have ij : ∀ x, impl_NextStart.j0 12 m z x s a b c d e = if x = true then (some (0, 2)) else (if c = (-1) then (impl_NextStart.j1 11 m z false s a b c d e) else (impl_NextStart.j1 11 m z (c != z) s a b c d e)) := fun _ => rfl
  have ij1 : ∀ x, impl_NextStart.j1 11 m z x s a b c d e = if x = true then (some (0, 3)) else ((impl_Item_fits.f 10 s a b c d e m z).bind fun t276 => (if t276 = true then (some (m, 0)) else (some (a, 0)))) := fun _ => rfl
  rw [spec_NextStart.f, impl_NextStart.f, specOne s a b c d e 12 (Nat.le_refl _), implOne s a b c d e 12 (Nat.le_refl _)]
  simp only [Option.bind_some, spec_l08Minute.f, spec_l08Season.f, impl_minuteOk.f, impl_seasonOk.f, specIn, implIn, sj, ij, ij1]
  cases h1 : itB s a b c d e with
  | false => exact ⟨_, rfl, rfl⟩
  | true =>
    have hc := itB_c h1
    cases h2 : inB m 0 1439 with
    | false => exact ⟨_, rfl, rfl⟩
    | true =>
      rw [specFits s a b c d e m z hc.1 (inB_true.mp h2) 11 (by omega), implFits s a b c d e m z 10 (by omega), specFits s a b c d e a z hc.1 hm' 11 (by omega)]
      simp only [Option.bind_some, fits_self, if_true]
      cases h3 : inB z 0 5 with
      | false => exact ⟨_, rfl, rfl⟩
      | true =>
        by_cases h4 : c = -1
        · subst h4
          cases fitsB a b (-1) m z <;> simp
        · by_cases h5 : c = z
          · subst h5
            cases fitsB a b c m c <;> simp [h4]
          · have : fitsB a b c m z = false := by simp [fitsB, h4, h5]
            rw [this]
            simp [h4, h5]
theorem FnExactNextStart : laws_FnExactNextStart.Pure := by
  intro s a b c d e m z _ _ _ _ _ _ _ _
  refine ⟨12, ?_⟩
  rw [laws_FnExactNextStart.f, laws_szItem.f]
  by_cases h : wrap64 (1048576 - (s.size : Int)) < 0
  · rw [if_pos h, Option.bind_some, if_pos (by decide)]
  · rw [if_neg h, Option.bind_some, if_neg h]
    simp only [laws_toItem.f, Option.bind_some]
    by_cases hm' : 0 ≤ a ∧ a ≤ 1439
    · obtain ⟨r, h1, h2⟩ := next_both s a b c d e m z hm'
      rw [h1, h2]
      simp
    · have h1 : itB s a b c d e = false := by
        cases h1 : itB s a b c d e with
        | false => rfl
        | true => exact absurd (itB_a h1) hm'
      rw [spec_NextStart.f, impl_NextStart.f, specOne s a b c d e 12 (Nat.le_refl _), implOne s a b c d e 12 (Nat.le_refl _), h1]
      simp

end Go.Proofs.Ytnnblnbepnfbhaa.Pure
