/- The law FnExactDurationOf over lists alone. No condition. -/
import Derived.Test.YtbhmalpncnkmaaaMx0
import Derived.Test.YtbhmalpncnkmaaaMx56
import Derived.Test.YtbhmalpncnkmaaaMx58
import Derived.Test.YtbhmalpncnkmaaaMx59
import Derived.Test.YtbhmalpncnkmaaaMel
import Derived.Test.YtbhmalpncnkmaaaSum
namespace Go.Proofs.Ytbhmalpncnkmaaa.Pure
open Go.RowKit Go.Proofs.Ytbhmalpncnkmaaa.M Go.Proofs.YtbhmalpncnkmaaaW.PrintWords Go.Proofs.YtbhmalpncnkmaaaW.PrintLast
theorem durationof_both (x : List S72) (hn : x.length ≤ 1048576) : ∃ (w : Int) (c : Int), ∀ k, 1100000 ≤ k → spec_DurationOf.f k x = some (w, c) ∧ impl_DurationOf.f k x = some (w, c) := by
  cases h : okN x with
  | false =>
    refine ⟨0, 1, fun k hk => ?_⟩
    rw [spec_DurationOf.f, impl_DurationOf.f, specOk x hn k (by omega), implOk x hn k (by omega), h]
    exact ⟨rfl, rfl⟩
  | true =>
    refine ⟨sumN x, 0, fun k hk => ?_⟩
    rw [spec_DurationOf.f, impl_DurationOf.f, specOk x hn k (by omega), implOk x hn k (by omega), h]
    simp only [Option.bind_some, if_true, specSum x h k (by omega), implSum x h k (by omega), and_self]
theorem FnExactDurationOf : laws_FnExactDurationOf.Pure := by
  intro l0  h0 
  obtain ⟨k, hk⟩ : ∃ k, 1200000 ≤ k := ⟨_, Nat.le_refl _⟩
  refine ⟨k + 5, ?_⟩
  rw [laws_FnExactDurationOf.f, szN l0 _ h0.1 (by omega) (by omega), Option.bind_some]
  by_cases c : (1048576 : Int) - l0.length < 0
  · simp [c]
  · have hn : l0.length ≤ 1048576 := by omega
    have hn' : (l0.map cvN).length ≤ 1048576 := by simpa using hn
    obtain ⟨w, cd, hb⟩ := durationof_both (l0.map cvN) hn'  
    have S := fun j hj => (hb j hj).1
    have I := fun j hj => (hb j hj).2
    have T := toN l0 hn
    have EN := eqN (l0.map cvN) (by omega)
    rw [if_neg c, if_neg c]
    generalize l0.map cvN = m at *
    simp (disch := omega) only [T, S, I, EN, laws_FnExactDurationOf.j0, Option.bind_some, bne_self_eq_false, Bool.false_eq_true, if_false, if_true]


end Go.Proofs.Ytbhmalpncnkmaaa.Pure
