/- The law FnExactSameMelody over lists alone. No condition. -/
import Derived.Test.YtbhmalpncnkmaaaMx0
import Derived.Test.YtbhmalpncnkmaaaMx14
import Derived.Test.YtbhmalpncnkmaaaMx15
import Derived.Test.YtbhmalpncnkmaaaMx18
import Derived.Test.YtbhmalpncnkmaaaMx19
import Derived.Test.YtbhmalpncnkmaaaMx22
import Derived.Test.YtbhmalpncnkmaaaBase
namespace Go.Proofs.Ytbhmalpncnkmaaa.Pure
open Go.RowKit Go.Proofs.Ytbhmalpncnkmaaa.M Go.Proofs.YtbhmalpncnkmaaaW.PrintWords Go.Proofs.YtbhmalpncnkmaaaW.PrintLast
theorem same_sim (x y : List S72) : ∀ (k : Nat) (i : Int), impl_Note_90.l0 k x y (x.length : Int) i = spec_l09Same.l0 k x y i := by
  intro k
  induction k with
  | zero => intro i; rfl
  | succ k ih =>
    intro i
    rw [impl_Note_90.l0, spec_l09Same.l0]
    simp only [ih]
    by_cases h : i < (x.length : Int) <;> simp [h]
theorem same_total (x y : List S72) (hn : x.length ≤ 1048576) (hxy : x.length = y.length) (d : Nat) : ∀ (k i : Nat), i + d = x.length → d < k → ∃ r, spec_l09Same.l0 k x y (i : Int) = some r := by
  induction d with
  | zero =>
    intro k i hi hk
    obtain ⟨k, rfl⟩ := succ_of hk
    rw [spec_l09Same.l0, if_neg (by omega)]
    exact ⟨_, rfl⟩
  | succ d ih =>
    intro k i hi hk
    obtain ⟨k, rfl⟩ := succ_of hk
    rw [spec_l09Same.l0, if_pos (by omega), if_pos (by omega), if_pos (by omega), w64 (by omega) (by omega)]
    have := ih k (i + 1) (by omega) (by omega)
    split
    · exact ⟨_, rfl⟩
    · exact this
theorem same_both (x y : List S72) (hn : x.length ≤ 1048576) (k : Nat) (hk : 1048577 ≤ k) : ∃ r, spec_SameMelody.f k x y = some r ∧ impl_SameMelody.f k x y = some r := by
  rw [spec_SameMelody.f, impl_SameMelody.f, spec_l09Same.f, impl_Note_90.f]
  by_cases h : (x.length : Int) = (y.length : Int)
  · rw [if_pos h, if_pos h, same_sim]
    obtain ⟨r, hr⟩ := same_total x y hn (by omega) x.length k 0 (by omega) (by omega)
    exact ⟨r, by rw [show (0 : Int) = ((0 : Nat) : Int) from rfl, hr]; rfl, by rw [show (0 : Int) = ((0 : Nat) : Int) from rfl, hr]; rfl⟩
  · rw [if_neg h, if_neg h]
    exact ⟨_, rfl, rfl⟩
theorem FnExactSameMelody : laws_FnExactSameMelody.Pure := by
  intro l0 l1 h0 h1
  refine ⟨1048600, ?_⟩
  rw [laws_FnExactSameMelody.f, szN l0 _ h0.1 (by omega) (by omega), Option.bind_some]
  by_cases c : (1048576 : Int) - l0.length < 0
  · simp [c]
  · have hn : l0.length ≤ 1048576 := by omega
    have hn' : (l0.map cvN).length ≤ 1048576 := by simpa using hn
    rw [if_neg c, if_neg c, szN l1 _ h1.1 (by omega) (by omega), Option.bind_some]
    by_cases c1 : (1048576 : Int) - l0.length - l1.length < 0
    · simp [c1]
    · have hm : l1.length ≤ 1048576 := by omega
      have hm' : (l1.map cvN).length ≤ 1048576 := by simpa using hm
      obtain ⟨r, h3, h4⟩ := same_both (l0.map cvN) (l1.map cvN) hn' 1048600 (by omega)
      rw [if_neg c1, if_neg c1, toN l0 hn _ (by omega), toN l1 hm _ (by omega)]
      simp only [Option.bind_some]
      rw [h3, h4]
      simp only [Option.bind_some]
      rw [eqN _ (by omega) _ (by omega), eqN _ (by omega) _ (by omega)]
      simp

end Go.Proofs.Ytbhmalpncnkmaaa.Pure
