/- What a grammar that passes the test is like. No condition. -/
import Derived.Test.YteljnbhbpidjpaaGx0
import Derived.Test.YteljnbhbpidjpaaGramG
namespace Go.Proofs.Yteljnbhbpidjpaa.Pure
open Go.RowKit Go.Proofs.Yteljnbhbpidjpaa.G Go.Proofs.YteljnbhbpidjpaaW.PrintWords Go.Proofs.YteljnbhbpidjpaaW.PrintLast
theorem okG_arc {s t : Int} {f : List Int} {l : List S68} (h : okG s t f l = true) {x : S68} (hx : x ∈ l) : 0 ≤ x.f0 ∧ x.f0 ≤ s - 1 ∧ -12 ≤ x.f1 ∧ x.f1 ≤ 23 ∧ 0 ≤ x.f2 ∧ x.f2 ≤ s - 1 := by
  have go : ∀ (d i : Nat), i + d = l.length → arcsB s l d i = true → ∀ j, i ≤ j → j < l.length → okA s (rd_T68 l (j : Int)) = true := by
    intro d
    induction d with
    | zero => intro i h1 _ j h2 h3; omega
    | succ d ih =>
      intro i h1 h2 j h3 h4
      rw [arcsB, Bool.and_eq_true, Bool.and_eq_true] at h2
      by_cases c : j = i
      · rw [c]; exact h2.1.1
      · exact ih (i + 1) (by omega) h2.2 j (by omega) h4
  simp only [okG, Bool.and_eq_true] at h
  obtain ⟨j, hj, rfl⟩ := List.getElem_of_mem hx
  have := go l.length 0 (by omega) h.2 j (by omega) hj
  rw [rdA_at hj] at this
  simp only [okA, Bool.and_eq_true, inB_true] at this
  omega
theorem okG_len {s t : Int} {f : List Int} {l : List S68} (h : okG s t f l = true) : l.length ≤ 256 := by
  simp only [okG, Bool.and_eq_true, decide_eq_true_eq] at h
  exact h.1.2
theorem okG_st {s t : Int} {f : List Int} {l : List S68} (h : okG s t f l = true) : 1 ≤ s ∧ s ≤ 32 ∧ 0 ≤ t ∧ t ≤ s - 1 := by
  simp only [okG, Bool.and_eq_true, inB_true] at h
  omega
theorem okG_fin {s t : Int} {f : List Int} {l : List S68} (h : okG s t f l = true) {x : Int} (hx : x ∈ f) : 0 ≤ x ∧ x ≤ s - 1 := by
  have go : ∀ (d i : Nat), i + d = f.length → riseB f 0 (s - 1) d i = true → ∀ j, i ≤ j → j < f.length → inB (rd f (j : Int)) 0 (s - 1) = true := by
    intro d
    induction d with
    | zero => intro i h1 _ j h2 h3; omega
    | succ d ih =>
      intro i h1 h2 j h3 h4
      rw [riseB, Bool.and_eq_true, Bool.and_eq_true] at h2
      by_cases c : j = i
      · rw [c]; exact h2.1.1
      · exact ih (i + 1) (by omega) h2.2 j (by omega) h4
  simp only [okG, Bool.and_eq_true] at h
  obtain ⟨j, hj, rfl⟩ := List.getElem_of_mem hx
  have := go f.length 0 (by omega) h.1.1.2 j (by omega) hj
  rw [rd_at hj, inB_true] at this
  exact this

end Go.Proofs.Yteljnbhbpidjpaa.Pure
