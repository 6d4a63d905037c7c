/- The laws' own helpers on grammars. No condition. -/
import Derived.Test.YtijbhcalknfijaaM4x0
import Derived.Test.YtijbhcalknfijaaM4x2
import Derived.Test.YtijbhcalknfijaaM4x4
import Derived.Test.YtijbhcalknfijaaM4x5
import Derived.Test.YtijbhcalknfijaaM4x7
import Derived.Test.YtijbhcalknfijaaM4x8
import Derived.Test.YtijbhcalknfijaaM4x9
import Derived.Test.YtijbhcalknfijaaBase4
import Derived.Test.YtijbhcalknfijaaTo4
namespace Go.Proofs.Ytijbhcalknfijaa.Pure
open Go.RowKit Go.Proofs.Ytijbhcalknfijaa.M4 Go.Proofs.YtijbhcalknfijaaW.PrintWords Go.Proofs.YtijbhcalknfijaaW.PrintLast
theorem rdA_at {x : List S67} {j : Nat} (h : j < x.length) : rd_T67 x (j : Int) = x[j] := by
  simp [rd_T67, List.getD_eq_getElem?_getD, List.getElem?_eq_getElem h]
theorem rdLA_at {x : List S108} {j : Nat} (h : j < x.length) : rd_T108 x (j : Int) = x[j] := by
  simp [rd_T108, List.getD_eq_getElem?_getD, List.getElem?_eq_getElem h]
/-- The laws' helpers. -/
theorem szI (l : List Int) (a : Int) (h : l.length ≤ maxLen) (h0 : 0 ≤ a) (h1 : a ≤ 1048576) : laws_szInt64S.f l a = some (if a - l.length < 0 then -1 else a - l.length) := by
  unfold maxLen at h
  rw [laws_szInt64S.f, w64 (by omega) (by omega)]
  split <;> rfl
theorem szA (l : List S108) (a : Int) (h : l.length ≤ maxLen) (h0 : 0 ≤ a) (h1 : a ≤ 1048576) : laws_szArcS.f l a = some (if a - l.length < 0 then -1 else a - l.length) := by
  unfold maxLen at h
  rw [laws_szArcS.f, w64 (by omega) (by omega)]
  split <;> rfl
theorem szG (s t : Int) (f : List Int) (l : List S108) (a : Int) (hf : f.length ≤ maxLen) (hl : l.length ≤ maxLen) (h0 : 0 ≤ a) (h1 : a ≤ 1048576) : laws_szGrammar.f s t f l a = some (if a - f.length - l.length < 0 then -1 else a - f.length - l.length) := by
  rw [laws_szGrammar.f, szI f a hf h0 h1, Option.bind_some]
  by_cases c : a - f.length < 0
  · rw [if_pos c, if_pos (by omega), if_pos (by omega)]
  · rw [if_neg c, if_neg c, szA l _ hl (by omega) (by omega), Option.bind_some]
    by_cases d : a - f.length - l.length < 0
    · rw [if_pos d, if_pos (by omega)]
    · rw [if_neg d, if_neg d]
def cvA (x : S108) : S67 := ⟨x.f0, x.f1, x.f2⟩
theorem toA_l0 (l : List S108) (hn : l.length ≤ 1048576) (d : Nat) : ∀ (y : List S67) (k i : Nat), y.length = l.length → i + d = l.length → d < k → y.take i = (l.take i).map cvA →
    laws_toArcS.l0 k l y (i : Int) = some (l.map cvA) := by
  induction d with
  | zero =>
    intro y k i hy hi hk ht
    obtain ⟨k, rfl⟩ := succ_of hk
    rw [laws_toArcS.l0, if_neg (by omega)]
    rw [List.take_of_length_le (by omega), List.take_of_length_le (by omega)] at ht
    rw [ht]
  | succ d ih =>
    intro y k i hy hi hk ht
    obtain ⟨k, rfl⟩ := succ_of hk
    rw [laws_toArcS.l0, if_pos (by omega), if_pos (by omega)]
    simp only [laws_toArc.f, Option.bind_some]
    rw [if_pos (by omega), w64 (by omega) (by omega)]
    have := ih (y.set i (cvA l[i])) k (i + 1) (by simpa using hy) (by omega) (by omega) (by
      rw [take_set_snoc _ _ _ (by omega), ht, List.take_succ_eq_append_getElem (by omega), List.map_append]
      rfl)
    rw [rdLA_at (by omega), Int.toNat_natCast]
    exact this
theorem toA (l : List S108) (hn : l.length ≤ 1048576) (k : Nat) (hk : 1048577 ≤ k) : laws_toArcS.f k l = some (l.map cvA) := by
  rw [laws_toArcS.f, if_pos (by omega), if_pos (by omega)]
  exact toA_l0 l hn l.length _ k 0 (by simp) (by omega) (by omega) (by simp)
theorem toG (s t : Int) (f : List Int) (l : List S108) (hf : f.length ≤ 1048576) (hn : l.length ≤ 1048576) (k : Nat) (hk : 1048577 ≤ k) : laws_toGrammar.f k s t f l = some (s, t, f, l.map cvA) := by
  rw [laws_toGrammar.f, toI f hf k hk, Option.bind_some, toA l hn k hk, Option.bind_some]
theorem eqA_l0 (d : Nat) : ∀ (x : List S67) (k i : Nat), x.length ≤ 4611686018427387904 → i + d = x.length → d < k → laws_eqArcS.l0 k x x (i : Int) = some true := by
  induction d with
  | zero =>
    intro x k i hn hi hk
    obtain ⟨k, rfl⟩ := succ_of hk
    rw [laws_eqArcS.l0, if_neg (by omega)]
  | succ d ih =>
    intro x k i hn hi hk
    obtain ⟨k, rfl⟩ := succ_of hk
    rw [laws_eqArcS.l0, if_pos (by omega), if_pos (by omega), if_pos (by omega)]
    simp only [laws_eqArc.f, if_true, Option.bind_some]
    rw [w64 (by omega) (by omega)]
    exact ih x k (i + 1) hn (by omega) (by omega)
theorem eqA (x : List S67) (hn : x.length ≤ 4611686018427387904) (k : Nat) (hk : x.length < k) : laws_eqArcS.f k x x = some true := by
  rw [laws_eqArcS.f, if_pos rfl]
  exact eqA_l0 x.length x k 0 hn (by omega) hk
theorem eqG (s t : Int) (f : List Int) (l : List S67) (hf : f.length ≤ 1048576) (hn : l.length ≤ 1048576) (k : Nat) (hk : 1048577 ≤ k) : laws_eqGrammar.f k s t f l s t f l = some true := by
  rw [laws_eqGrammar.f, if_pos rfl, if_pos rfl, eqI f (by omega) k (by omega), Option.bind_some, if_pos rfl, eqA l (by omega) k (by omega), Option.bind_some, if_pos rfl]

end Go.Proofs.Ytijbhcalknfijaa.Pure
