/- The sum of the lengths of a melody, in the reference and in the program. No condition. -/
import Derived.Test.YtbhmalpncnkmaaaMx0
import Derived.Test.YtbhmalpncnkmaaaMx24
import Derived.Test.YtbhmalpncnkmaaaMel
namespace Go.Proofs.Ytbhmalpncnkmaaa.Pure
open Go.RowKit Go.Proofs.Ytbhmalpncnkmaaa.M Go.Proofs.YtbhmalpncnkmaaaW.PrintWords Go.Proofs.YtbhmalpncnkmaaaW.PrintLast
def sumN (l : List S72) : Int := (l.map (·.f1)).sum
theorem sumN_nn : ∀ (l : List S72), (∀ x ∈ l, 1 ≤ x.f1 ∧ x.f1 ≤ 64) → (l.length : Int) ≤ sumN l ∧ sumN l ≤ 64 * l.length
  | [], _ => by simp [sumN]
  | x :: l, h => by
    have := sumN_nn l (fun y hy => h y (List.mem_cons_of_mem _ hy))
    have hx := h x List.mem_cons_self
    simp only [sumN, List.map_cons, List.sum_cons, List.length_cons] at *
    omega
theorem sumN_cons (x : S72) (l : List S72) : sumN (x :: l) = x.f1 + sumN l := by simp [sumN]
theorem sumN_app (a b : List S72) : sumN (a ++ b) = sumN a + sumN b := by simp [sumN]
theorem specSum_l0 (x : List S72) (hn : x.length ≤ 48) (hv : ∀ y ∈ x, 1 ≤ y.f1 ∧ y.f1 ≤ 64) (d : Nat) : ∀ (k i : Nat) (a : Int), 0 ≤ a → a ≤ 64 * i → i + d = x.length → d < k → spec_l09Sum.l0 k x a (i : Int) = some (a + sumN (x.drop i)) := by
  induction d with
  | zero =>
    intro k i a h0 ha hi hk
    obtain ⟨k, rfl⟩ := succ_of hk
    rw [spec_l09Sum.l0, if_neg (by omega), List.drop_eq_nil_of_le (by omega)]
    simp [sumN]
  | succ d ih =>
    intro k i a h0 ha hi hk
    obtain ⟨k, rfl⟩ := succ_of hk
    have hlt : i < x.length := by omega
    have hx := hv x[i] (List.getElem_mem hlt)
    rw [spec_l09Sum.l0, if_pos (by omega), if_pos (by omega), rdN_at hlt, List.drop_eq_getElem_cons hlt, w64 (n := a + _) (by omega) (by omega), w64 (by omega) (by omega)]
    have := ih k (i + 1) (a + x[i].f1) (by omega) (by omega) (by omega) (by omega)
    rw [show ((i : Int) + 1) = ((i + 1 : Nat) : Int) by omega, this, sumN_cons]
    congr 1
    omega
theorem specSum (x : List S72) (h : okN x = true) (k : Nat) (hk : 1000 ≤ k) : spec_l09Sum.f k x = some (sumN x) := by
  rw [spec_l09Sum.f]
  have hl := okN_len h
  have := specSum_l0 x hl (fun y hy => (okN_at h hy).2.2) x.length k 0 0 (by omega) (by omega) (by omega) (by omega)
  simpa using this
theorem implSum_l0 (x : List S72) (hn : x.length ≤ 48) (hv : ∀ y ∈ x, 1 ≤ y.f1 ∧ y.f1 ≤ 64) (d : Nat) : ∀ (k i : Nat) (a : Int), 0 ≤ a → a ≤ 64 * i → i + d = x.length → d < k → impl_durationOf.l0 k a x (x.length : Int) (i : Int) = some (a + sumN (x.drop i)) := by
  induction d with
  | zero =>
    intro k i a h0 ha hi hk
    obtain ⟨k, rfl⟩ := succ_of hk
    rw [impl_durationOf.l0, if_neg (by omega), List.drop_eq_nil_of_le (by omega)]
    simp [sumN]
  | succ d ih =>
    intro k i a h0 ha hi hk
    obtain ⟨k, rfl⟩ := succ_of hk
    have hlt : i < x.length := by omega
    have hx := hv x[i] (List.getElem_mem hlt)
    rw [impl_durationOf.l0, if_pos (by omega), if_pos (by omega), if_pos (by omega), rdN_at hlt, List.drop_eq_getElem_cons hlt, w64 (n := a + _) (by omega) (by omega), w64 (by omega) (by omega)]
    have := ih k (i + 1) (a + x[i].f1) (by omega) (by omega) (by omega) (by omega)
    rw [show ((i : Int) + 1) = ((i + 1 : Nat) : Int) by omega, this, sumN_cons]
    congr 1
    omega
theorem implSum (x : List S72) (h : okN x = true) (k : Nat) (hk : 1000 ≤ k) : impl_durationOf.f k x = some (sumN x) := by
  rw [impl_durationOf.f]
  have hl := okN_len h
  have := implSum_l0 x hl (fun y hy => (okN_at h hy).2.2) x.length k 0 0 (by omega) (by omega) (by omega) (by omega)
  simpa using this
theorem sumN_ok {x : List S72} (h : okN x = true) : 0 ≤ sumN x ∧ sumN x ≤ 3072 := by
  have := sumN_nn x (fun y hy => (okN_at h hy).2.2)
  have := okN_len h
  omega

end Go.Proofs.Ytbhmalpncnkmaaa.Pure
