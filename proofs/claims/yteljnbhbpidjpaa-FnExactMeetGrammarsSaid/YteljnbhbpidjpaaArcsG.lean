/- Arcs of a state. No condition. -/
import Derived.Test.YteljnbhbpidjpaaGx0
import Derived.Test.YteljnbhbpidjpaaGx15
import Derived.Test.YteljnbhbpidjpaaOkGG
namespace Go.Proofs.Yteljnbhbpidjpaa.Pure
open Go.RowKit Go.Proofs.Yteljnbhbpidjpaa.G Go.Proofs.YteljnbhbpidjpaaW.PrintWords Go.Proofs.YteljnbhbpidjpaaW.PrintLast
/-- Arcs of a state. -/
def from_ (l : List S68) (s : Int) : List S68 := l.filter (fun x => x.f0 == s)
theorem from_len (l : List S68) (s : Int) : (from_ l s).length ≤ l.length := List.length_filter_le _ _
theorem arcs_l0 (l : List S68) (s : Int) (hn : l.length ≤ 1048576) (d : Nat) : ∀ (k i : Nat) (acc : List S68), i + d = l.length → acc.length ≤ i → d < k → impl_Grammar_arcsOf.l0 k s acc l (l.length : Int) (i : Int) = some (acc ++ from_ (l.drop i) s) := by
  induction d with
  | zero =>
    intro k i acc hi ha hk
    obtain ⟨k, rfl⟩ := succ_of hk
    rw [impl_Grammar_arcsOf.l0, if_neg (by omega), List.drop_eq_nil_of_le (by omega)]
    simp [from_]
  | succ d ih =>
    intro k i acc hi ha hk
    obtain ⟨k, rfl⟩ := succ_of hk
    have hlt : i < l.length := by omega
    rw [impl_Grammar_arcsOf.l0, if_pos (by omega), if_pos (by omega), if_pos (by omega), rdA_at hlt, w64 (by omega) (by omega), show ((i : Int) + 1) = ((i + 1 : Nat) : Int) by omega, List.drop_eq_getElem_cons hlt]
    by_cases c : l[i].f0 = s
    · rw [if_pos c, if_pos (by omega), ih k (i + 1) _ (by omega) (by simp; omega) (by omega), from_, from_, List.filter_cons_of_pos (by simpa using c), List.append_assoc]
      rfl
    · rw [if_neg c, ih k (i + 1) _ (by omega) (by omega) (by omega), from_, from_, List.filter_cons_of_neg (by simpa using c)]
theorem arcsOf (a b : Int) (f : List Int) (l : List S68) (s : Int) (hn : l.length ≤ 1048576) (k : Nat) (hk : 1048577 ≤ k) : impl_Grammar_arcsOf.f k a b f l s = some (from_ l s) := by
  rw [impl_Grammar_arcsOf.f]
  have := arcs_l0 l s hn l.length k 0 [] (by omega) (by simp) (by omega)
  simpa using this

end Go.Proofs.Yteljnbhbpidjpaa.Pure
