/- The law FnExactGraceNotes over lists alone. No condition. -/
import Derived.Test.YtnpifkjbnkfiaaaMx0
import Derived.Test.YtnpifkjbnkfiaaaMx23
import Derived.Test.YtnpifkjbnkfiaaaMx25
import Derived.Test.YtnpifkjbnkfiaaaMx26
import Derived.Test.YtnpifkjbnkfiaaaRepl
namespace Go.Proofs.Ytnpifkjbnkfiaaa.Pure
open Go.RowKit Go.Proofs.Ytnpifkjbnkfiaaa.M Go.Proofs.YtnpifkjbnkfiaaaW.PrintWords Go.Proofs.YtnpifkjbnkfiaaaW.PrintLast
theorem gracenotes_both (m : List S52) (hn : m.length ≤ 1048576) (a p l : Int) : ∃ (w : List S52) (c : Int), w.length ≤ 1100000 ∧ ∀ k, 2200000 ≤ k → spec_GraceNotes.f k m a p l = some (w, c) ∧ impl_GraceNotes.f k m a p l = some (w, c) := by
  by_cases h : okN m = true
  · by_cases h1 : askB m a p l = true
    · have hb := h1
      simp only [askB, Bool.and_eq_true, inB_true] at hb
      obtain ⟨i, rfl⟩ := Int.eq_ofNat_of_zero_le hb.1.1.1
      have hl := okN_len h
      have hi : i < m.length := by omega
      have hx := okN_at h (List.getElem_mem hi)
      by_cases c : l ≥ m[i].f1
      · refine ⟨[], 6, by simp, fun k hk => ?_⟩
        rw [spec_GraceNotes.f, impl_GraceNotes.f, specAsk m hn _ _ _ k (by omega), implAsk m hn _ _ _ k (by omega)]
        simp only [if_pos h, if_pos h1, Option.bind_some, rdN_at hi]
        rw [if_pos c, if_neg (by decide), if_pos trivial, if_pos (by omega), if_pos (by omega), if_pos c]
        exact ⟨rfl, rfl⟩
      · have hw : wrap64 (m[i].f1 - l) = m[i].f1 - l := w64 (by omega) (by omega)
        have hall : [(⟨p, l⟩ : S52), ⟨m[i].f0, m[i].f1 - l⟩].all noteOk = true := by
          simp only [List.all_cons, List.all_nil, noteOk, Bool.and_true, Bool.and_eq_true, inB_true]
          omega
        have hr := repl_len m i [(⟨p, l⟩ : S52), ⟨m[i].f0, m[i].f1 - l⟩] hi
        have hd := doneN_len (repl m i [(⟨p, l⟩ : S52), ⟨m[i].f0, m[i].f1 - l⟩])
        refine ⟨(doneN (repl m i [⟨p, l⟩, ⟨m[i].f0, m[i].f1 - l⟩])).1, (doneN (repl m i [⟨p, l⟩, ⟨m[i].f0, m[i].f1 - l⟩])).2, by omega, fun k hk => ?_⟩
        rw [spec_GraceNotes.f, impl_GraceNotes.f, specAsk m hn _ _ _ k (by omega), implAsk m hn _ _ _ k (by omega)]
        simp only [if_pos h, if_pos h1, Option.bind_some, rdN_at hi, hw]
        rw [if_neg c, if_pos rfl, if_pos (by omega), if_pos (by omega), if_pos trivial, if_pos (by omega), if_pos (by omega), if_neg c, if_pos (by omega), w64 (n := (i : Int) + 1) (by omega) (by omega), if_pos (by omega), if_pos (by omega), Int.toNat_natCast, show ((i : Int) + 1).toNat = i + 1 by omega]
        rw [specRepl m i _ hi hl (by simp), implCat m i _ hi hl (by simp), Option.bind_some, Option.bind_some, implDone, Option.bind_some, done_ok (repl_ok i (okN_all h) hall)]
        exact ⟨rfl, rfl⟩
    · refine ⟨[], 2, by simp, fun k hk => ?_⟩
      rw [spec_GraceNotes.f, impl_GraceNotes.f, specAsk m hn _ _ _ k (by omega), implAsk m hn _ _ _ k (by omega)]
      simp only [if_pos h, if_neg h1, Option.bind_some]
      exact ⟨rfl, rfl⟩
  · refine ⟨[], 1, by simp, fun k hk => ?_⟩
    rw [spec_GraceNotes.f, impl_GraceNotes.f, specAsk m hn _ _ _ k (by omega), implAsk m hn _ _ _ k (by omega)]
    simp only [if_neg h, Option.bind_some]
    exact ⟨rfl, rfl⟩
theorem FnExactGraceNotes : laws_FnExactGraceNotes.Pure := by
  intro l0 a1 a2 a3 h0 h1 h2 h3
  obtain ⟨k, hk⟩ : ∃ k, 2300000 ≤ k := ⟨_, Nat.le_refl _⟩
  refine ⟨k + 5, ?_⟩
  rw [laws_FnExactGraceNotes.f, szN l0 _ h0.1 (by omega) (by omega), Option.bind_some]
  by_cases c : (1048576 : Int) - l0.length < 0
  · simp [c]
  · have hn : l0.length ≤ 1048576 := by omega
    have hn' : (l0.map cvN).length ≤ 1048576 := by simpa using hn
    obtain ⟨w, cd, hw, hb⟩ := gracenotes_both (l0.map cvN) hn' a1 a2 a3 
    have S := fun j hj => (hb j hj).1
    have I := fun j hj => (hb j hj).2
    have T := toN l0 hn
    have EN := eqN (l0.map cvN) (by omega)
    have MN := markN (l0.map cvN) (by omega)
    have E := eqN w (by omega)
    have M := markN w (by omega)
    have H := heldN w.length (by omega)
    have c1 : ¬ ((1 + 2 * ((l0.map cvN).length : Int)) < 0) := by omega
    have c2 : ¬ ((1 + 2 * (w.length : Int)) < 0) := by omega
    rw [if_neg c, if_neg c]
    generalize l0.map cvN = m at *
    rw [T (k + 5) (by omega)]
    simp only [Option.bind_some]
    rw [S (k + 5) (by omega), Option.bind_some, I (k + 5) (by omega), Option.bind_some]
    dsimp only
    rw [E (k + 5) (by omega), Option.bind_some, if_pos rfl, laws_FnExactGraceNotes.j0, if_neg (by simp), T (k + 4) (by omega), Option.bind_some, EN (k + 4) (by omega), Option.bind_some, if_pos rfl, MN (k + 4) (by omega), Option.bind_some]
    dsimp only
    rw [if_neg c1, E (k + 4) (by omega), Option.bind_some, if_pos rfl, laws_FnExactGraceNotes.j1, if_neg (by simp), M (k + 3) (by omega), Option.bind_some]
    dsimp only
    rw [H (k + 3) (by omega), Option.bind_some, if_neg c2, if_pos rfl, T (k + 3) (by omega), Option.bind_some, I (k + 3) (by omega), Option.bind_some]
    dsimp only
    rw [E (k + 3) (by omega), Option.bind_some, if_pos rfl, laws_FnExactGraceNotes.j2, if_neg (by simp), H (k + 2) (by omega), Option.bind_some, if_neg c2, if_pos rfl]


end Go.Proofs.Ytnpifkjbnkfiaaa.Pure
