/- The text of a list that may be empty, by the reference and by the program. No condition. -/
import Derived.Test.YtlmeijlandogaaaDoorIx0
import Derived.Test.YtlmeijlandogaaaDoorIx6
import Derived.Test.YtlmeijlandogaaaDoorIx15
import Derived.Test.YtlmeijlandogaaaDoorTLtI
namespace Go.Proofs.YtlmeijlandogaaaDoor.Pure
open Go Go.RowKit Go.Proofs.YtlmeijlandogaaaDoor.I Go.Proofs.YtlmeijlandogaaaDoorW.PrintWords Go.Proofs.YtlmeijlandogaaaDoorW.PrintLast
theorem ltB_spec (l : List Int) (hl : l.length ≤ 64) (hr : ∀ x ∈ l, -1000000000000 ≤ x ∧ x ≤ 1000000000000) (k : Nat) (hk : 1200 ≤ k) : spec_l01List.f k l = some (bA (ltB l)) := by
  unfold ltB
  by_cases c : l.length = 0
  · rw [spec_l01List.f, if_pos (by omega), if_pos c]; rfl
  · rw [if_neg c]
    exact list_spec l (by omega) hl (fun x hx => by have := hr x hx; exact ⟨by omega, by omega⟩) k hk
theorem ltB_impl (l : List Int) (hl : l.length ≤ 64) (hr : ∀ x ∈ l, -1000000000000 ≤ x ∧ x ≤ 1000000000000) (k : Nat) (hk : 1200 ≤ k) : impl_ListText.f k l = some (bA (ltB l)) := by
  unfold ltB
  by_cases c : l.length = 0
  · rw [impl_ListText.f, if_neg (by omega), if_pos (by omega), if_pos c]; rfl
  · rw [if_neg c]
    exact list_impl l (by omega) hl hr k hk
theorem ltB_len (l : List Int) (hl : l.length ≤ 64) (hr : ∀ x ∈ l, -1000000000000 ≤ x ∧ x ≤ 1000000000000) : (ltB l).length ≤ 1408 := by
  unfold ltB
  split
  · simp
  · exact tx_len l l.length hl (fun x hx => by have := hr x hx; exact ⟨by omega, by omega⟩)
end Go.Proofs.YtlmeijlandogaaaDoor.Pure
