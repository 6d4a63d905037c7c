/- Marks on a grammar: only the count is wanted. No condition. -/
import Derived.Test.YtijbhcalknfijaaM5x0
import Derived.Test.YtijbhcalknfijaaM5x5
import Derived.Test.YtijbhcalknfijaaM5x6
import Derived.Test.YtijbhcalknfijaaOkG5
import Derived.Test.YtijbhcalknfijaaMarks5
namespace Go.Proofs.Ytijbhcalknfijaa.Pure
open Go.RowKit Go.Proofs.Ytijbhcalknfijaa.M5 Go.Proofs.YtijbhcalknfijaaW.PrintWords Go.Proofs.YtijbhcalknfijaaW.PrintLast
/-- Marks: only the count is wanted. -/
theorem markA_l0 (d : Nat) : ∀ (x : List S67) (a : Int) (k i : Nat), x.length ≤ 1048576 → 0 ≤ a → a + 3 * d ≤ 4611686018427387904 → i + d = x.length → d < k → ∃ y : List S67, laws_markArcS.l0 k x a (i : Int) = some (a + 3 * d, y) := by
  induction d with
  | zero =>
    intro x a k i hn h0 ha hi hk
    obtain ⟨k, rfl⟩ := succ_of hk
    rw [laws_markArcS.l0, if_neg (by omega)]
    exact ⟨x, by simp⟩
  | succ d ih =>
    intro x a k i hn h0 ha hi hk
    obtain ⟨k, rfl⟩ := succ_of hk
    rw [laws_markArcS.l0, if_pos (by omega), if_pos (by omega), Option.bind_some, Option.bind_some, w64 (n := a + 1) (by omega) (by omega), w64 (n := a + 1 + 1) (by omega) (by omega), w64 (n := a + 1 + 1 + 1) (by omega) (by omega), w64 (n := (i : Int) + 1) (by omega) (by omega), show ((i : Int) + 1) = ((i + 1 : Nat) : Int) by omega]
    obtain ⟨y, e⟩ := ih (((x.set (i : Int).toNat ⟨a, (rd_T67 x (i : Int)).f1, (rd_T67 x (i : Int)).f2⟩).set (i : Int).toNat _).set (i : Int).toNat _) (a + 1 + 1 + 1) k (i + 1) (by simpa using hn) (by omega) (by omega) (by simp only [List.length_set]; omega) (by omega)
    exact ⟨y, by rw [e]; congr 2; omega⟩
theorem markI2 (x : List Int) (a : Int) (hn : x.length ≤ 1048576) (h0 : 0 ≤ a) (h1 : a ≤ 100000000) (k : Nat) (hk : x.length < k) : laws_markInt64S.f k x a = some (a + (x.length : Int), mks a x.length) := by
  rw [laws_markInt64S.f]
  have := markI_l0 x.length x a k 0 (by omega) h0 (by omega) (by omega) hk
  simpa using this
theorem markG (s t : Int) (f : List Int) (l : List S67) (hf : f.length ≤ 1048576) (hn : l.length ≤ 1048576) : ∃ (m : List Int) (y : List S67), ∀ k, 1048577 ≤ k → laws_markGrammar.f k s t f l 1 = some (1 + (f.length : Int) + 3 * (l.length : Int), m, y) := by
  obtain ⟨y, e⟩ := markA_l0 l.length l (1 + (f.length : Int)) 1048577 0 hn (by omega) (by omega) (by omega) (by omega)
  refine ⟨mks 1 f.length, y, fun k hk => ?_⟩
  obtain ⟨d, rfl⟩ := Nat.exists_eq_add_of_le hk
  induction d with
  | zero =>
    rw [Nat.add_zero, laws_markGrammar.f, markI2 f 1 hf (by omega) (by omega) 1048577 (by omega), Option.bind_some]
    dsimp only
    rw [laws_markArcS.f, show laws_markArcS.l0 1048577 l (1 + (f.length : Int)) 0 = _ from e, Option.bind_some]
  | succ d ih => exact laws_markGrammar.mono _ _ _ _ _ _ _ (ih (by omega))

end Go.Proofs.Ytijbhcalknfijaa.Pure
