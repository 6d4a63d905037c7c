/- The law FnExactTieMelody over lists alone. No condition. -/
import Derived.Test.YtbhmalpncnkmaaaMx0
import Derived.Test.YtbhmalpncnkmaaaMx33
import Derived.Test.YtbhmalpncnkmaaaMx34
import Derived.Test.YtbhmalpncnkmaaaMx35
import Derived.Test.YtbhmalpncnkmaaaMx36
import Derived.Test.YtbhmalpncnkmaaaMx37
import Derived.Test.YtbhmalpncnkmaaaMel
namespace Go.Proofs.Ytbhmalpncnkmaaa.Pure
open Go.RowKit Go.Proofs.Ytbhmalpncnkmaaa.M Go.Proofs.YtbhmalpncnkmaaaW.PrintWords Go.Proofs.YtbhmalpncnkmaaaW.PrintLast
theorem tie_sim (x : List S72) : ∀ (k : Nat) (a : List S72) (i : Int), impl_tied.l0 k a x (x.length : Int) i = spec_l09Tie.l0 k x a i := by
  intro k
  induction k with
  | zero => intro a i; rfl
  | succ k ih =>
    intro a i
    rw [impl_tied.l0, spec_l09Tie.l0]
    simp only [ih, specLen, implLen]
    by_cases h : i < (x.length : Int)
    · simp only [if_pos h]
      by_cases h0 : 0 ≤ i
      · simp only [if_pos h0]
      · simp only [if_neg h0]
        by_cases h1 : (a.length : Int) > 0
        · simp only [if_pos h1]
          split <;> (try split) <;> rfl
        · simp only [if_neg h1]
    · simp only [if_neg h]
theorem tie_total (x : List S72) (hn : x.length ≤ 48) (d : Nat) : ∀ (i : Nat) (a : List S72), a.length ≤ i → i + d = x.length → ∃ r : List S72, r.length ≤ 48 ∧ ∀ k, d < k → spec_l09Tie.l0 k x a (i : Int) = some r := by
  induction d with
  | zero =>
    intro i a ha hi
    refine ⟨a, by omega, fun k hk => ?_⟩
    obtain ⟨k, rfl⟩ := succ_of hk
    rw [spec_l09Tie.l0, if_neg (by omega)]
  | succ d ih =>
    intro i a ha hi
    have hlt : i < x.length := by omega
    obtain ⟨r1, h1, k1⟩ := ih (i + 1) (a ++ [⟨x[i].f0, x[i].f1⟩]) (by simp; omega) (by omega)
    by_cases c0 : (a.length : Int) > 0
    · have e0 : (a.length : Int) - 1 = ((a.length - 1 : Nat) : Int) := by omega
      have hal : a.length - 1 < a.length := by omega
      by_cases c1 : a[a.length - 1].f0 = x[i].f0
      · by_cases c2 : inB (wrap64 (a[a.length - 1].f1 + x[i].f1)) 1 64 = true
        · obtain ⟨r2, h2, k2⟩ := ih (i + 1) (a.set (a.length - 1) ⟨a[a.length - 1].f0, wrap64 (a[a.length - 1].f1 + x[i].f1)⟩) (by simp; omega) (by omega)
          refine ⟨r2, h2, fun k hk => ?_⟩
          obtain ⟨k, rfl⟩ := succ_of hk
          rw [spec_l09Tie.l0, if_pos (by omega), if_pos c0, w64 (n := (a.length : Int) - 1) (by omega) (by omega), e0, if_pos (by omega), if_pos (by omega), if_pos (by omega), rdN_at hlt, rdN_at hal, if_pos c1, specLen, Option.bind_some, if_pos c2, w64 (n := (i : Int) + 1) (by omega) (by omega), Int.toNat_natCast]
          exact k2 k (by omega)
        · refine ⟨r1, h1, fun k hk => ?_⟩
          obtain ⟨k, rfl⟩ := succ_of hk
          rw [spec_l09Tie.l0, if_pos (by omega), if_pos c0, w64 (n := (a.length : Int) - 1) (by omega) (by omega), e0, if_pos (by omega), if_pos (by omega), if_pos (by omega), rdN_at hlt, rdN_at hal, if_pos c1, specLen, Option.bind_some, if_neg c2, if_pos (by omega), w64 (n := (i : Int) + 1) (by omega) (by omega)]
          exact k1 k (by omega)
      · refine ⟨r1, h1, fun k hk => ?_⟩
        obtain ⟨k, rfl⟩ := succ_of hk
        rw [spec_l09Tie.l0, if_pos (by omega), if_pos c0, w64 (n := (a.length : Int) - 1) (by omega) (by omega), e0, if_pos (by omega), if_pos (by omega), if_pos (by omega), rdN_at hlt, rdN_at hal, if_neg c1, if_pos (by omega), w64 (n := (i : Int) + 1) (by omega) (by omega)]
        exact k1 k (by omega)
    · refine ⟨r1, h1, fun k hk => ?_⟩
      obtain ⟨k, rfl⟩ := succ_of hk
      rw [spec_l09Tie.l0, if_pos (by omega), if_neg c0, if_pos (by omega), if_pos (by omega), rdN_at hlt, w64 (n := (i : Int) + 1) (by omega) (by omega)]
      exact k1 k (by omega)
theorem tiemelody_both (x : List S72) (hn : x.length ≤ 1048576) : ∃ (w : List S72) (c : Int), w.length ≤ 1100000 ∧ ∀ k, 1100000 ≤ k → spec_TieMelody.f k x = some (w, c) ∧ impl_TieMelody.f k x = some (w, c) := by
  cases h : okN x with
  | false =>
    refine ⟨[], 1, by simp, fun k hk => ?_⟩
    rw [spec_TieMelody.f, impl_TieMelody.f, specOk x hn k (by omega), implOk x hn k (by omega), h]
    exact ⟨rfl, rfl⟩
  | true =>
    have hl := okN_len h
    obtain ⟨r, hr, hk'⟩ := tie_total x hl x.length 0 [] (by simp) (by omega)
    refine ⟨r, 0, by omega, fun k hk => ?_⟩
    have e := hk' k (by omega)
    rw [spec_TieMelody.f, impl_TieMelody.f, specOk x hn k (by omega), implOk x hn k (by omega), h]
    simp only [Option.bind_some, if_true, spec_l09Tie.f, impl_tied.f, tie_sim]
    rw [show spec_l09Tie.l0 k x [] 0 = some r from e]
    exact ⟨rfl, rfl⟩
theorem FnExactTieMelody : laws_FnExactTieMelody.Pure := by
  intro l0  h0 
  obtain ⟨k, hk⟩ : ∃ k, 1200000 ≤ k := ⟨_, Nat.le_refl _⟩
  refine ⟨k + 5, ?_⟩
  rw [laws_FnExactTieMelody.f, szN l0 _ h0.1 (by omega) (by omega), Option.bind_some]
  by_cases c : (1048576 : Int) - l0.length < 0
  · simp [c]
  · have hn : l0.length ≤ 1048576 := by omega
    have hn' : (l0.map cvN).length ≤ 1048576 := by simpa using hn
    obtain ⟨w, cd, hw, hb⟩ := tiemelody_both (l0.map cvN) hn'  
    have S := fun j hj => (hb j hj).1
    have I := fun j hj => (hb j hj).2
    have T := toN l0 hn
    have EN := eqN (l0.map cvN) (by omega)
    have MN := markN (l0.map cvN) (by omega)
    have E := eqN w (by omega)
    have M := markN w (by omega)
    have H := heldN w.length (by omega)
    have c1 : ¬ ((1 + 2 * ((l0.map cvN).length : Int)) < 0) := by omega
    have c2 : ¬ ((1 + 2 * (w.length : Int)) < 0) := by omega
    rw [if_neg c, if_neg c]
    generalize l0.map cvN = m at *
    rw [T (k + 5) (by omega)]
    simp only [Option.bind_some]
    rw [S (k + 5) (by omega), Option.bind_some, I (k + 5) (by omega), Option.bind_some]
    dsimp only
    rw [E (k + 5) (by omega), Option.bind_some, if_pos rfl, laws_FnExactTieMelody.j0, if_neg (by simp), T (k + 4) (by omega), Option.bind_some, EN (k + 4) (by omega), Option.bind_some, if_pos rfl, MN (k + 4) (by omega), Option.bind_some]
    dsimp only
    rw [if_neg c1, E (k + 4) (by omega), Option.bind_some, if_pos rfl, laws_FnExactTieMelody.j1, if_neg (by simp), M (k + 3) (by omega), Option.bind_some]
    dsimp only
    rw [H (k + 3) (by omega), Option.bind_some, if_neg c2, if_pos rfl, T (k + 3) (by omega), Option.bind_some, I (k + 3) (by omega), Option.bind_some]
    dsimp only
    rw [E (k + 3) (by omega), Option.bind_some, if_pos rfl, laws_FnExactTieMelody.j2, if_neg (by simp), H (k + 2) (by omega), Option.bind_some, if_neg c2, if_pos rfl]


end Go.Proofs.Ytbhmalpncnkmaaa.Pure
