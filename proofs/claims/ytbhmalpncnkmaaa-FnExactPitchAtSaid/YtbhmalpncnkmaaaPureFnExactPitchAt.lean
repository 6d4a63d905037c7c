/- The law FnExactPitchAt over lists alone. No condition. -/
import Derived.Test.YtbhmalpncnkmaaaMx0
import Derived.Test.YtbhmalpncnkmaaaMx60
import Derived.Test.YtbhmalpncnkmaaaMx61
import Derived.Test.YtbhmalpncnkmaaaMx62
import Derived.Test.YtbhmalpncnkmaaaMel
import Derived.Test.YtbhmalpncnkmaaaSum
namespace Go.Proofs.Ytbhmalpncnkmaaa.Pure
open Go.RowKit Go.Proofs.Ytbhmalpncnkmaaa.M Go.Proofs.YtbhmalpncnkmaaaW.PrintWords Go.Proofs.YtbhmalpncnkmaaaW.PrintLast
theorem at_sim (x : List S72) : ∀ (k : Nat) (t i : Int), impl_PitchAt.l0 k x t i = spec_PitchAt.l0 k x t i := by
  intro k
  induction k with
  | zero => intro t i; rfl
  | succ k ih =>
    intro t i
    rw [impl_PitchAt.l0, spec_PitchAt.l0]
    simp only [ih]
theorem at_total (x : List S72) (hn : x.length ≤ 48) (hv : ∀ y ∈ x, 1 ≤ y.f1 ∧ y.f1 ≤ 64) (d : Nat) : ∀ (i : Nat) (t : Int), 0 ≤ t → t < sumN (x.drop i) → t ≤ 3072 → i + d = x.length → ∃ r, ∀ k, d < k → spec_PitchAt.l0 k x t (i : Int) = some r := by
  induction d with
  | zero =>
    intro i t h0 ht _ hi
    rw [List.drop_eq_nil_of_le (by omega)] at ht
    simp [sumN] at ht
    omega
  | succ d ih =>
    intro i t h0 ht h3 hi
    have hlt : i < x.length := by omega
    have hx := hv x[i] (List.getElem_mem hlt)
    rw [List.drop_eq_getElem_cons hlt] at ht
    simp only [sumN, List.map_cons, List.sum_cons] at ht
    by_cases c : t ≥ x[i].f1
    · obtain ⟨r, hr⟩ := ih (i + 1) (t - x[i].f1) (by omega) (by simp only [sumN]; omega) (by omega) (by omega)
      refine ⟨r, fun k hk => ?_⟩
      obtain ⟨k, rfl⟩ := succ_of hk
      rw [spec_PitchAt.l0, if_pos (by omega), if_pos (by omega), rdN_at hlt, if_pos c, w64 (n := t - _) (by omega) (by omega), w64 (by omega) (by omega)]
      exact hr k (by omega)
    · refine ⟨(x[i].f0, 0), fun k hk => ?_⟩
      obtain ⟨k, rfl⟩ := succ_of hk
      rw [spec_PitchAt.l0, if_pos (by omega), if_pos (by omega), rdN_at hlt, if_neg c]
theorem pitchat_both (x : List S72) (hn : x.length ≤ 1048576) (t : Int) : ∃ (w : Int) (c : Int), ∀ k, 1100000 ≤ k → spec_PitchAt.f k x t = some (w, c) ∧ impl_PitchAt.f k x t = some (w, c) := by
  cases h : okN x with
  | false =>
    refine ⟨0, 1, fun k hk => ?_⟩
    rw [spec_PitchAt.f, impl_PitchAt.f, specOk x hn k (by omega), implOk x hn k (by omega), h]
    exact ⟨rfl, rfl⟩
  | true =>
    have hs := sumN_ok h
    cases h2 : inB t 0 (sumN x - 1) with
    | false =>
      refine ⟨0, 2, fun k hk => ?_⟩
      rw [spec_PitchAt.f, impl_PitchAt.f, specOk x hn k (by omega), implOk x hn k (by omega), h]
      simp only [Option.bind_some, if_true, specSum x h k (by omega), implSum x h k (by omega), w64 (n := sumN x - 1) (by omega) (by omega), specIn, implIn, h2]
      exact ⟨rfl, rfl⟩
    | true =>
      have ht := inB_true.1 h2
      obtain ⟨r, hr⟩ := at_total x (okN_len h) (fun y hy => (okN_at h hy).2.2) x.length 0 t ht.1 (by simp; omega) (by omega) (by omega)
      have hl := okN_len h
      refine ⟨r.1, r.2, fun k hk => ?_⟩
      rw [spec_PitchAt.f, impl_PitchAt.f, specOk x hn k (by omega), implOk x hn k (by omega), h]
      simp only [Option.bind_some, if_true, specSum x h k (by omega), implSum x h k (by omega), w64 (n := sumN x - 1) (by omega) (by omega), specIn, implIn, h2, at_sim]
      have := hr k (by omega)
      exact ⟨this, this⟩
theorem FnExactPitchAt : laws_FnExactPitchAt.Pure := by
  intro l0 a1 h0 h1
  obtain ⟨k, hk⟩ : ∃ k, 1200000 ≤ k := ⟨_, Nat.le_refl _⟩
  refine ⟨k + 5, ?_⟩
  rw [laws_FnExactPitchAt.f, szN l0 _ h0.1 (by omega) (by omega), Option.bind_some]
  by_cases c : (1048576 : Int) - l0.length < 0
  · simp [c]
  · have hn : l0.length ≤ 1048576 := by omega
    have hn' : (l0.map cvN).length ≤ 1048576 := by simpa using hn
    obtain ⟨w, cd, hb⟩ := pitchat_both (l0.map cvN) hn' a1 
    have S := fun j hj => (hb j hj).1
    have I := fun j hj => (hb j hj).2
    have T := toN l0 hn
    have EN := eqN (l0.map cvN) (by omega)
    rw [if_neg c, if_neg c]
    generalize l0.map cvN = m at *
    simp (disch := omega) only [T, S, I, EN, laws_FnExactPitchAt.j0, Option.bind_some, bne_self_eq_false, Bool.false_eq_true, if_false, if_true]


end Go.Proofs.Ytbhmalpncnkmaaa.Pure
