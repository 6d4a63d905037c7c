/- Members of a list. No condition. -/
import Derived.Test.YteljnbhbpidjpaaGx0
import Derived.Test.YteljnbhbpidjpaaGx15
import Derived.Test.YteljnbhbpidjpaaArcsG
namespace Go.Proofs.Yteljnbhbpidjpaa.Pure
open Go.RowKit Go.Proofs.Yteljnbhbpidjpaa.G Go.Proofs.YteljnbhbpidjpaaW.PrintWords Go.Proofs.YteljnbhbpidjpaaW.PrintLast
/-- Members. -/
def hasL (f : List Int) (s : Int) : Bool := f.any (· == s)
theorem hasL_cons (a : Int) (l : List Int) (s : Int) : hasL (a :: l) s = (a == s || hasL l s) := rfl
theorem has_i0 (f : List Int) (s : Int) (hn : f.length ≤ 1048576) (d : Nat) : ∀ (k i : Nat), i + d = f.length → d < k → ∃ r : Int, slices_Index_int64_int64.l0 k f s (f.length : Int) (i : Int) = some r ∧ decide (r ≥ 0) = hasL (f.drop i) s := by
  induction d with
  | zero =>
    intro k i hi hk
    obtain ⟨k, rfl⟩ := succ_of hk
    rw [slices_Index_int64_int64.l0, if_neg (by omega), List.drop_eq_nil_of_le (by omega)]
    exact ⟨-1, rfl, rfl⟩
  | succ d ih =>
    intro k i hi hk
    obtain ⟨k, rfl⟩ := succ_of hk
    have hlt : i < f.length := by omega
    obtain ⟨r, e2, e3⟩ := ih k (i + 1) (by omega) (by omega)
    rw [slices_Index_int64_int64.l0]
    simp only [if_pos (show (i : Int) < (f.length : Int) by omega), if_pos (show (0 : Int) ≤ (i : Int) by omega)]
    rw [rd_at hlt, w64 (by omega) (by omega), show ((i : Int) + 1) = ((i + 1 : Nat) : Int) by omega, e2, List.drop_eq_getElem_cons hlt, hasL_cons]
    by_cases c : f[i] = s
    · rw [if_pos c.symm]
      refine ⟨(i : Int), rfl, ?_⟩
      simp [c]
    · rw [if_neg (fun e => c e.symm)]
      refine ⟨r, rfl, ?_⟩
      rw [e3]
      simp [c]
theorem implHas (a b : Int) (f : List Int) (l : List S68) (s : Int) (hn : f.length ≤ 1048576) (k : Nat) (hk : 1048577 ≤ k) : impl_Grammar_isFinal.f k a b f l s = some (hasL f s) := by
  obtain ⟨r, e2, e3⟩ := has_i0 f s hn f.length k 0 (by omega) (by omega)
  rw [List.drop_zero] at e3
  rw [impl_Grammar_isFinal.f, slices_Contains_int64_int64.f, slices_Index_int64_int64.f, show slices_Index_int64_int64.l0 k f s (f.length : Int) 0 = _ from e2, Option.bind_some, Option.bind_some, e3]

end Go.Proofs.Yteljnbhbpidjpaa.Pure
