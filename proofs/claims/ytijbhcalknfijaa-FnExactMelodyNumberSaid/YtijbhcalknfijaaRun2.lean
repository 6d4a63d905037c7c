/- Ways through a grammar: arcs of a state, the state that follows, as far as pitches can be followed, and members of a list. No condition. -/
import Derived.Test.YtijbhcalknfijaaM2x0
import Derived.Test.YtijbhcalknfijaaM2x18
import Derived.Test.YtijbhcalknfijaaM2x19
import Derived.Test.YtijbhcalknfijaaM2x23
import Derived.Test.YtijbhcalknfijaaHas2
namespace Go.Proofs.Ytijbhcalknfijaa.Pure
open Go.RowKit Go.Proofs.Ytijbhcalknfijaa.M2 Go.Proofs.YtijbhcalknfijaaW.PrintWords Go.Proofs.YtijbhcalknfijaaW.PrintLast
/-- The state that follows. -/
def stepL (s p : Int) : List S67 → Int
  | [] => -1
  | x :: l => if x.f0 = s then (if x.f1 = p then x.f2 else stepL s p l) else stepL s p l
def stepT (p : Int) : List S67 → Int
  | [] => -1
  | x :: l => if x.f1 = p then x.f2 else stepT p l
theorem step_from (s p : Int) : ∀ l : List S67, stepL s p l = stepT p (from_ l s)
  | [] => rfl
  | x :: l => by
    rw [stepL, step_from s p l]
    by_cases c : x.f0 = s
    · rw [if_pos c, from_, from_, List.filter_cons_of_pos (by simpa using c), stepT]
    · rw [if_neg c, from_, from_, List.filter_cons_of_neg (by simpa using c)]
theorem fnd_step (p : Int) : ∀ (l : List S67) (n : Nat), (fndL l p n = none → stepT p l = -1) ∧ (∀ j, fndL l p n = some j → ∃ h : j - n < l.length, n ≤ j ∧ stepT p l = l[j - n].f2)
  | [], n => ⟨fun _ => rfl, fun j h => by simp [fndL] at h⟩
  | x :: l, n => by
    have ih := fnd_step p l (n + 1)
    rw [fndL, stepT]
    by_cases c : x.f1 = p
    · rw [if_pos c, if_pos c]
      refine ⟨fun h => by simp at h, fun j h => ?_⟩
      obtain rfl := Option.some.inj h
      exact ⟨by simp, Nat.le_refl _, by simp⟩
    · rw [if_neg c, if_neg c]
      refine ⟨ih.1, fun j h => ?_⟩
      obtain ⟨h1, h2, h3⟩ := ih.2 j h
      have e : j - n = (j - (n + 1)) + 1 := by omega
      refine ⟨by simp only [List.length_cons]; omega, by omega, ?_⟩
      rw [h3]
      simp only [e, List.getElem_cons_succ]
theorem fnd_neg (t : List S67) (p : Int) (h : fndI t p < 0) : stepT p t = -1 := by
  unfold fndI at h
  cases e : fndL t p 0 with
  | none => exact (fnd_step p t 0).1 e
  | some n => rw [e] at h; simp only at h; omega
theorem fnd_pos (t : List S67) (p : Int) (h : ¬ fndI t p < 0) : (rd_T67 t (fndI t p)).f2 = stepT p t ∧ rd_T67 t (fndI t p) ∈ t := by
  unfold fndI at h ⊢
  cases e : fndL t p 0 with
  | none => rw [e] at h; exact absurd (by simp) h
  | some n =>
    obtain ⟨h1, _, h3⟩ := (fnd_step p t 0).2 n e
    rw [Nat.sub_zero] at h1
    simp only [Nat.sub_zero] at h3
    simp only
    rw [rdA_at h1]
    exact ⟨h3.symm, List.getElem_mem h1⟩
theorem step_l0 (a b : Int) (f : List Int) (l : List S67) (s p : Int) (hn : l.length ≤ 1048576) (d : Nat) : ∀ (k i : Nat), i + d = l.length → d < k → spec_l07Step.l0 k s p (i : Int) a b f l = some (stepL s p (l.drop i)) := by
  induction d with
  | zero =>
    intro k i hi hk
    obtain ⟨k, rfl⟩ := succ_of hk
    rw [spec_l07Step.l0, if_neg (by omega), List.drop_eq_nil_of_le (by omega), stepL]
  | succ d ih =>
    intro k i hi hk
    obtain ⟨k, rfl⟩ := succ_of hk
    have hlt : i < l.length := by omega
    rw [spec_l07Step.l0, if_pos (by omega), if_pos (by omega), rdA_at hlt, w64 (by omega) (by omega), show ((i : Int) + 1) = ((i + 1 : Nat) : Int) by omega, ih k (i + 1) (by omega) (by omega), List.drop_eq_getElem_cons hlt, stepL]
    by_cases c : l[i].f0 = s
    · rw [if_pos c, if_pos c]
      by_cases c2 : l[i].f1 = p
      · rw [if_pos c2, if_pos c2]
      · rw [if_neg c2, if_neg c2]
    · rw [if_neg c, if_neg c]
theorem specStep (a b : Int) (f : List Int) (l : List S67) (s p : Int) (hn : l.length ≤ 1048576) (k : Nat) (hk : 1048577 ≤ k) : spec_l07Step.f k a b f l s p = some (stepL s p l) := by
  rw [spec_l07Step.f]
  have := step_l0 a b f l s p hn l.length k 0 (by omega) (by omega)
  rw [List.drop_zero] at this
  exact this
/-- As far as pitches can be followed. -/
def runL (l : List S67) (p : List Int) : Nat → Nat → Int → Int × Int
  | 0, _, s => (s, (p.length : Int))
  | d + 1, i, s => if stepL s (rd p (i : Int)) l < 0 then (s, (i : Int)) else runL l p d (i + 1) (stepL s (rd p (i : Int)) l)
theorem specRun_l0 (a b : Int) (f : List Int) (l : List S67) (p : List Int) (hn : l.length ≤ 1048576) (hp : p.length ≤ 1048576) (d : Nat) : ∀ (k i : Nat) (s : Int), i + d = p.length → d + 1048577 < k → spec_l07Run.l0 k p s (i : Int) a b f l = some (runL l p d i s) := by
  induction d with
  | zero =>
    intro k i s hi hk
    obtain ⟨k, rfl⟩ := succ_of hk
    rw [spec_l07Run.l0, if_neg (by omega), runL]
  | succ d ih =>
    intro k i s hi hk
    obtain ⟨k, rfl⟩ := succ_of hk
    rw [spec_l07Run.l0, if_pos (by omega), if_pos (by omega), specStep a b f l s _ hn k (by omega), Option.bind_some, w64 (by omega) (by omega), show ((i : Int) + 1) = ((i + 1 : Nat) : Int) by omega, ih k (i + 1) _ (by omega) (by omega), runL]
    split <;> rfl
theorem follow_l0 (a b : Int) (f : List Int) (l : List S67) (p : List Int) (h2 : ∀ x ∈ l, 0 ≤ x.f2) (hn : l.length ≤ 1048576) (hp : p.length ≤ 1048576) (d : Nat) : ∀ (k i : Nat) (s : Int), i + d = p.length → d + 1048577 < k → impl_Grammar_follow.l0 k a b f l p s i = some (runL l p d i s) := by
  induction d with
  | zero =>
    intro k i s hi hk
    obtain ⟨k, rfl⟩ := succ_of hk
    rw [impl_Grammar_follow.l0, if_neg (by omega), runL]
  | succ d ih =>
    intro k i s hi hk
    obtain ⟨k, rfl⟩ := succ_of hk
    rw [impl_Grammar_follow.l0, if_pos (by omega), arcsOf a b f l s hn k (by omega), Option.bind_some, ih k (i + 1) _ (by omega) (by omega), runL, step_from]
    by_cases c : fndI (from_ l s) (rd p (i : Int)) < 0
    · rw [if_pos c, fnd_neg _ _ c, if_pos (by omega)]
    · have h := fnd_pos _ _ c
      have h3 := h2 _ (List.mem_filter.1 h.2).1
      rw [if_neg c, if_neg (by rw [← h.1]; omega), h.1]
theorem run_at (l : List S67) (p : List Int) (hp : p.length ≤ 1048576) (d : Nat) : ∀ (i : Nat) (s : Int), i + d = p.length → 0 ≤ (runL l p d i s).2 ∧ (runL l p d i s).2 ≤ p.length := by
  induction d with
  | zero => intro i s h; rw [runL]; omega
  | succ d ih =>
    intro i s h
    rw [runL]
    split
    · simp only; omega
    · exact ih (i + 1) _ (by omega)
def runG (l : List S67) (t : Int) (p : List Int) : Int × Int := runL l p p.length 0 t
theorem specRun (a t : Int) (f : List Int) (l : List S67) (p : List Int) (hn : l.length ≤ 1048576) (hp : p.length ≤ 1048576) (k : Nat) (hk : 2200000 ≤ k) : spec_l07Run.f k a t f l p = some (runG l t p) := by
  rw [spec_l07Run.f]
  exact specRun_l0 a t f l p hn hp p.length k 0 t (by omega) (by omega)
theorem implRun {s t : Int} {f : List Int} {l : List S67} (h : okG s t f l = true) (p : List Int) (hn : l.length ≤ 1048576) (hp : p.length ≤ 1048576) (k : Nat) (hk : 2200000 ≤ k) : impl_Grammar_follow.f k s t f l p = some (runG l t p) := by
  rw [impl_Grammar_follow.f]
  exact follow_l0 s t f l p (fun x hx => (okG_arc h hx).2.2.2.2.1) hn hp p.length k 0 t (by omega) (by omega)
/-- Members, as the reference finds them. -/
theorem has_s0 (f : List Int) (s : Int) (hn : f.length ≤ 1048576) (d : Nat) : ∀ (k i : Nat), i + d = f.length → d < k → spec_l00Has.l0 k f s (i : Int) = some (hasL (f.drop i) s) := by
  induction d with
  | zero =>
    intro k i hi hk
    obtain ⟨k, rfl⟩ := succ_of hk
    rw [spec_l00Has.l0, if_neg (by omega), List.drop_eq_nil_of_le (by omega)]
    rfl
  | succ d ih =>
    intro k i hi hk
    obtain ⟨k, rfl⟩ := succ_of hk
    have hlt : i < f.length := by omega
    rw [spec_l00Has.l0, if_pos (by omega), if_pos (by omega), rd_at hlt, w64 (by omega) (by omega), show ((i : Int) + 1) = ((i + 1 : Nat) : Int) by omega, ih k (i + 1) (by omega) (by omega), List.drop_eq_getElem_cons hlt, hasL_cons]
    by_cases c : f[i] = s
    · rw [if_pos c]; simp [c]
    · rw [if_neg c]; simp [c]
theorem specHas (f : List Int) (s : Int) (hn : f.length ≤ 1048576) (k : Nat) (hk : 1048577 ≤ k) : spec_l00Has.f k f s = some (hasL f s) := by
  rw [spec_l00Has.f]
  have := has_s0 f s hn f.length k 0 (by omega) (by omega)
  rw [List.drop_zero] at this
  exact this

end Go.Proofs.Ytijbhcalknfijaa.Pure
