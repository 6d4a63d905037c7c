/- The law FnExactSameGrammar over lists alone. No condition. -/
import Derived.Test.YtijbhcalknfijaaM4x0
import Derived.Test.YtijbhcalknfijaaM4x2
import Derived.Test.YtijbhcalknfijaaM4x3
import Derived.Test.YtijbhcalknfijaaM4x5
import Derived.Test.YtijbhcalknfijaaM4x6
import Derived.Test.YtijbhcalknfijaaM4x10
import Derived.Test.YtijbhcalknfijaaGIO4
namespace Go.Proofs.Ytijbhcalknfijaa.Pure
open Go.RowKit Go.Proofs.Ytijbhcalknfijaa.M4 Go.Proofs.YtijbhcalknfijaaW.PrintWords Go.Proofs.YtijbhcalknfijaaW.PrintLast
def ne3 (a b : S67) : Bool := !(a.f0 == b.f0) || (!(a.f1 == b.f1) || (!(a.f2 == b.f2)))
def eqB (x y : List Int) : Nat → Nat → Bool
  | 0, _ => true
  | d + 1, i => if rd x (i : Int) = rd y (i : Int) then eqB x y d (i + 1) else false
def eqC (x y : List S67) : Nat → Nat → Bool
  | 0, _ => true
  | d + 1, i => if ne3 (rd_T67 x (i : Int)) (rd_T67 y (i : Int)) = true then false else eqC x y d (i + 1)
theorem sameI_l0 (x y : List Int) (hx : x.length = y.length) (hn : x.length ≤ 1048576) (d : Nat) : ∀ (k i : Nat), i + d = x.length → d < k → spec_l00Same.l0 k x y (i : Int) = some (eqB x y d i) ∧ slices_Equal_int64_int64.l0 k x y (x.length : Int) (i : Int) = some (eqB x y d i) := by
  induction d with
  | zero =>
    intro k i hi hk
    obtain ⟨k, rfl⟩ := succ_of hk
    rw [spec_l00Same.l0, slices_Equal_int64_int64.l0, if_neg (by omega), if_neg (by omega), eqB]
    exact ⟨rfl, rfl⟩
  | succ d ih =>
    intro k i hi hk
    obtain ⟨k, rfl⟩ := succ_of hk
    have e := ih k (i + 1) (by omega) (by omega)
    rw [spec_l00Same.l0, slices_Equal_int64_int64.l0]
    simp only [if_pos (show (i : Int) < (x.length : Int) by omega), if_pos (show (i : Int) < (y.length : Int) by omega), if_pos (show (0 : Int) ≤ (i : Int) by omega)]
    rw [w64 (by omega) (by omega), show ((i : Int) + 1) = ((i + 1 : Nat) : Int) by omega, e.1, e.2, eqB]
    by_cases c : rd x (i : Int) = rd y (i : Int)
    · rw [if_pos c, if_pos c]
      exact ⟨rfl, rfl⟩
    · rw [if_neg c, if_neg c]
      exact ⟨rfl, rfl⟩
def sameI (x y : List Int) : Bool := if (x.length : Int) = (y.length : Int) then eqB x y x.length 0 else false
theorem sameI_both (x y : List Int) (hn : x.length ≤ 1048576) (k : Nat) (hk : 1048577 ≤ k) : spec_l00Same.f k x y = some (sameI x y) ∧ slices_Equal_int64_int64.f k x y = some (sameI x y) := by
  rw [spec_l00Same.f, slices_Equal_int64_int64.f]
  unfold sameI
  by_cases c : (x.length : Int) = (y.length : Int)
  · rw [if_pos c, if_pos c, if_pos c]
    exact sameI_l0 x y (by omega) hn x.length k 0 (by omega) (by omega)
  · rw [if_neg c, if_neg c, if_neg c]
    exact ⟨rfl, rfl⟩
theorem sameA_l0 (s t : Int) (f : List Int) (s' t' : Int) (f' : List Int) (x y : List S67) (hx : x.length = y.length) (hn : x.length ≤ 1048576) (d : Nat) : ∀ (k i : Nat), i + d = x.length → d < k → spec_SameGrammar.l0 k (i : Int) s t f x s' t' f' y = some (eqC x y d i) ∧ impl_Arc.l0 k x y (x.length : Int) (i : Int) = some (eqC x y d i) := by
  induction d with
  | zero =>
    intro k i hi hk
    obtain ⟨k, rfl⟩ := succ_of hk
    rw [spec_SameGrammar.l0, impl_Arc.l0, if_neg (by omega), if_neg (by omega), eqC]
    exact ⟨rfl, rfl⟩
  | succ d ih =>
    intro k i hi hk
    obtain ⟨k, rfl⟩ := succ_of hk
    have e := ih k (i + 1) (by omega) (by omega)
    rw [spec_SameGrammar.l0, impl_Arc.l0]
    simp only [if_pos (show (i : Int) < (x.length : Int) by omega), if_pos (show (i : Int) < (y.length : Int) by omega), if_pos (show (0 : Int) ≤ (i : Int) by omega)]
    rw [w64 (by omega) (by omega), show ((i : Int) + 1) = ((i + 1 : Nat) : Int) by omega, e.1, e.2, eqC]
    by_cases c : ne3 (rd_T67 x (i : Int)) (rd_T67 y (i : Int)) = true
    · rw [if_pos c]
      unfold ne3 at c
      rw [if_pos c]
      exact ⟨rfl, rfl⟩
    · rw [if_neg c]
      unfold ne3 at c
      rw [if_neg c]
      exact ⟨rfl, rfl⟩
def sameA (x y : List S67) : Bool := if (x.length : Int) = (y.length : Int) then eqC x y x.length 0 else false
def sgN (s t : Int) (f : List Int) (x : List S67) (s' t' : Int) (f' : List Int) (y : List S67) : Bool :=
  if s = s' then (if t = t' then (if sameI f f' = true then sameA x y else false) else false) else false
theorem sg_both (s t : Int) (f : List Int) (x : List S67) (s' t' : Int) (f' : List Int) (y : List S67) (hf : f.length ≤ 1048576) (hn : x.length ≤ 1048576) (k : Nat) (hk : 1048580 ≤ k) : spec_SameGrammar.f k s t f x s' t' f' y = some (sgN s t f x s' t' f' y) ∧ impl_SameGrammar.f k s t f x s' t' f' y = some (sgN s t f x s' t' f' y) := by
  obtain ⟨k, rfl⟩ : ∃ k', k = k' + 1 := ⟨k - 1, by omega⟩
  obtain ⟨e1, e2⟩ := sameI_both f f' hf (k + 1) (by omega)
  rw [spec_SameGrammar.f, impl_SameGrammar.f, e1, e2, Option.bind_some, Option.bind_some, impl_Arc.f]
  have j0 : spec_SameGrammar.j0 (k + 1) true s t f x s' t' f' y = some false := by rw [spec_SameGrammar.j0, if_pos rfl]
  rw [j0]
  unfold sgN
  by_cases c1 : s = s'
  · rw [if_pos c1, if_pos c1, if_pos c1]
    by_cases c2 : t = t'
    · rw [if_pos c2, if_pos c2, if_pos c2]
      by_cases c3 : sameI f f' = true
      · rw [if_pos c3, if_pos c3, if_pos c3, spec_SameGrammar.j0]
        unfold sameA
        by_cases c4 : (x.length : Int) = (y.length : Int)
        · have e := sameA_l0 s t f s' t' f' x y (by omega) hn x.length
          have e' := e k 0 (by omega) (by omega)
          have e'' := e (k + 1) 0 (by omega) (by omega)
          rw [if_neg (by simp [c4]), if_pos c4, if_pos c4]
          refine ⟨e'.1, ?_⟩
          rw [show impl_Arc.l0 (k + 1) x y (x.length : Int) 0 = _ from e''.2, Option.bind_some]
        · rw [if_pos (by simpa using c4), if_neg c4, if_neg c4]
          exact ⟨rfl, rfl⟩
      · rw [if_neg c3, if_neg c3, if_neg c3]
        exact ⟨rfl, rfl⟩
    · rw [if_neg c2, if_neg c2, if_neg c2]
      exact ⟨rfl, rfl⟩
  · rw [if_neg c1, if_neg c1, if_neg c1]
    exact ⟨rfl, rfl⟩
theorem FnExactSameGrammar : laws_FnExactSameGrammar.Pure := by
  intro s t f l s' t' f' l' h0 h1 hf hl h2 h3 hf' hl'
  obtain ⟨k, hk⟩ : ∃ k, 2300000 ≤ k := ⟨_, Nat.le_refl _⟩
  refine ⟨k, ?_⟩
  rw [laws_FnExactSameGrammar.f, szG s t f l _ hf.1 hl.1 (by omega) (by omega), Option.bind_some]
  by_cases c : (1048576 : Int) - f.length - l.length < 0
  · simp [c]
  · rw [if_neg c, if_neg c, szG s' t' f' l' _ hf'.1 hl'.1 (by omega) (by omega), Option.bind_some]
    by_cases c' : (1048576 : Int) - f.length - l.length - f'.length - l'.length < 0
    · simp [c']
    · have hn : l.length ≤ 1048576 := by omega
      have hm : f.length ≤ 1048576 := by omega
      have hn2 : l'.length ≤ 1048576 := by omega
      have hm2 : f'.length ≤ 1048576 := by omega
      have hn' : (l.map cvA).length ≤ 1048576 := by simpa using hn
      have hn2' : (l'.map cvA).length ≤ 1048576 := by simpa using hn2
      have T := toG s t f l hm hn k (by omega)
      have T' := toG s' t' f' l' hm2 hn2 k (by omega)
      obtain ⟨S, I⟩ := sg_both s t f (l.map cvA) s' t' f' (l'.map cvA) hm hn' k (by omega)
      have EG := eqG s t f (l.map cvA) hm hn' k (by omega)
      have EG' := eqG s' t' f' (l'.map cvA) hm2 hn2' k (by omega)
      rw [if_neg c', if_neg c']
      rw [T, Option.bind_some]
      dsimp only
      rw [T', Option.bind_some]
      dsimp only
      rw [S, Option.bind_some, Option.bind_some, Option.bind_some]
      dsimp only
      rw [I, Option.bind_some, bne_self_eq_false, if_neg (by decide), Option.bind_some]
      dsimp only
      rw [EG, Option.bind_some, if_pos rfl, Option.bind_some]
      dsimp only
      rw [EG', Option.bind_some, if_pos rfl]

end Go.Proofs.Ytijbhcalknfijaa.Pure
