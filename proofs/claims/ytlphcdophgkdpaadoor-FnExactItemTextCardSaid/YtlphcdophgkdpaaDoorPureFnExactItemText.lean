/- The law FnExactItemText over numbers and bytes alone. No condition. -/
import Derived.Test.YtlphcdophgkdpaaDoorIx0
import Derived.Test.YtlphcdophgkdpaaDoorIx1
import Derived.Test.YtlphcdophgkdpaaDoorIx6
import Derived.Test.YtlphcdophgkdpaaDoorIx7
import Derived.Test.YtlphcdophgkdpaaDoorIx10
import Derived.Test.YtlphcdophgkdpaaDoorItemI
import Derived.Test.YtlphcdophgkdpaaDoorTListI
namespace Go.Proofs.YtlphcdophgkdpaaDoor.Pure
open Go Go.RowKit Go.Proofs.YtlphcdophgkdpaaDoor.I Go.Proofs.YtlphcdophgkdpaaDoorW.PrintWords Go.Proofs.YtlphcdophgkdpaaDoorW.PrintLast
theorem item_small (s : ByteArray) (a b c d e : Int) (h : itB s a b c d e = true) : s.size ≤ 10 ∧ ∀ x ∈ [a, b, c, d, e], -1000000000000 ≤ x ∧ x ≤ 1000000000000 := by
  simp only [itB, nameB, inB, Bool.and_eq_true, decide_eq_true_eq] at h
  refine ⟨by omega, ?_⟩
  intro x hx
  simp only [List.mem_cons, List.not_mem_nil, or_false] at hx
  omega
theorem item_both (s : ByteArray) (a b c d e : Int) : ∃ t, spec_ItemText.f 2000 s a b c d e = some t ∧ impl_ItemText.f 2000 s a b c d e = some t := by
  rw [spec_ItemText.f, impl_ItemText.f, specOne s a b c d e 2000 (by omega), implOne s a b c d e 2000 (by omega), Option.bind_some, Option.bind_some]
  cases q : itB s a b c d e
  · exact ⟨_, rfl, rfl⟩
  · obtain ⟨hs, hr⟩ := item_small s a b c d e q
    rw [if_pos rfl, if_pos rfl, spec_l08Text.f, impl_withId.f, list_impl [a, b, c, d, e] (by simp) (by simp) hr 2000 (by omega), list_spec [a, b, c, d, e] (by simp) (by simp) (fun x hx => by have := hr x hx; exact ⟨by omega, by omega⟩) 2000 (by omega)]
    have hl := tx_len [a, b, c, d, e] 5 (by simp) (fun x hx => by have := hr x hx; exact ⟨by omega, by omega⟩)
    have g1 : (s ++ (⟨#[32]⟩ : ByteArray)).size = s.size + 1 := by rw [ByteArray.size_append]; rfl
    have g2 : (bA (tx [a, b, c, d, e] [a, b, c, d, e].length)).size ≤ 1408 := by rw [bA_size]; exact hl
    generalize bA (tx [a, b, c, d, e] [a, b, c, d, e].length) = B at g2 ⊢
    simp only [Option.bind_some]
    rw [if_pos (by omega), if_pos (by omega)]
    exact ⟨_, rfl, rfl⟩
theorem FnExactItemText : laws_FnExactItemText.Pure := by
  intro s a b c d e _ _ _ _ _ _
  refine ⟨2000, ?_⟩
  obtain ⟨t, h1, h2⟩ := item_both s a b c d e
  rw [laws_FnExactItemText.f, laws_szItem.f]
  by_cases h : wrap64 (1048576 - (s.size : Int)) < 0
  · rw [if_pos h, Option.bind_some, if_pos (by decide)]
  · rw [if_neg h, Option.bind_some, if_neg h]
    simp only [laws_toItem.f, Option.bind_some, h1, h2]
    rfl
end Go.Proofs.YtlphcdophgkdpaaDoor.Pure
