/- The law FnExactMelodyCurve over lists alone. No condition. -/
import Derived.Test.YtbhmalpncnkmaaaMx0
import Derived.Test.YtbhmalpncnkmaaaMx44
import Derived.Test.YtbhmalpncnkmaaaMx45
import Derived.Test.YtbhmalpncnkmaaaMx46
import Derived.Test.YtbhmalpncnkmaaaMel
namespace Go.Proofs.Ytbhmalpncnkmaaa.Pure
open Go.RowKit Go.Proofs.Ytbhmalpncnkmaaa.M Go.Proofs.YtbhmalpncnkmaaaW.PrintWords Go.Proofs.YtbhmalpncnkmaaaW.PrintLast
def curve (l : List S72) : List Int := l.flatMap fun y => List.replicate y.f1.toNat (100 * y.f0)
theorem curve_cons (y : S72) (l : List S72) : curve (y :: l) = List.replicate y.f1.toNat (100 * y.f0) ++ curve l := by simp [curve]
theorem specMC (x : List S72) (hn : x.length ≤ 48) (hv : ∀ y ∈ x, -12 ≤ y.f0 ∧ y.f0 ≤ 23 ∧ 1 ≤ y.f1 ∧ y.f1 ≤ 64) (d : Nat) : ∀ (k i : Nat) (acc : List Int), i + d = x.length → 66 * d < k → acc.length ≤ 64 * i → spec_MelodyCurve.l0 k x acc (i : Int) = some (acc ++ curve (x.drop i), 0) := by
  induction d with
  | zero =>
    intro k i acc hi hk ha
    obtain ⟨k, rfl⟩ := succ_of hk
    rw [spec_MelodyCurve.l0, if_neg (by omega), List.drop_eq_nil_of_le (by omega)]
    simp [curve]
  | succ d ih =>
    intro k i acc hi hk ha
    have hlt : i < x.length := by omega
    have hx := hv x[i] (List.getElem_mem hlt)
    have inner : ∀ (e k u : Nat) (acc : List Int), (u : Int) + e = x[i].f1 → 66 * d + e + 1 < k → acc.length ≤ 64 * i + u → spec_MelodyCurve.l1 k x acc (i : Int) (u : Int) = some (acc ++ List.replicate e (100 * x[i].f0) ++ curve (x.drop (i + 1)), 0) := by
      intro e
      induction e with
      | zero =>
        intro k u acc hu hk ha
        obtain ⟨k, rfl⟩ := succ_of hk
        rw [spec_MelodyCurve.l1, if_pos (by omega), if_pos (by omega), rdN_at hlt, if_neg (by omega), w64 (by omega) (by omega)]
        have := ih k (i + 1) acc (by omega) (by omega) (by omega)
        rw [show ((i : Int) + 1) = ((i + 1 : Nat) : Int) by omega, this]
        simp
      | succ e ihe =>
        intro k u acc hu hk ha
        obtain ⟨k, rfl⟩ := succ_of hk
        rw [spec_MelodyCurve.l1, if_pos (by omega), if_pos (by omega), rdN_at hlt, if_pos (by omega), if_pos (by omega), w64 (n := (u : Int) + 1) (by omega) (by omega), w64 (n := 100 * x[i].f0) (by omega) (by omega)]
        have := ihe k (u + 1) (acc ++ [100 * x[i].f0]) (by omega) (by omega) (by simp; omega)
        rw [show ((u : Int) + 1) = ((u + 1 : Nat) : Int) by omega, this, List.replicate_succ]
        simp
    obtain ⟨k, rfl⟩ := succ_of hk
    rw [spec_MelodyCurve.l0, if_pos (by omega)]
    have := inner x[i].f1.toNat k 0 acc (by omega) (by omega) (by omega)
    rw [show (0 : Int) = ((0 : Nat) : Int) from rfl, this, List.drop_eq_getElem_cons hlt, curve_cons, List.append_assoc]
    rfl
theorem implMC (x : List S72) (hn : x.length ≤ 48) (hv : ∀ y ∈ x, -12 ≤ y.f0 ∧ y.f0 ≤ 23 ∧ 1 ≤ y.f1 ∧ y.f1 ≤ 64) (d : Nat) : ∀ (k i : Nat) (acc : List Int), i + d = x.length → 66 * d < k → acc.length ≤ 64 * i → impl_melodyCurve.l0 k acc x (x.length : Int) (i : Int) = some (acc ++ curve (x.drop i)) := by
  induction d with
  | zero =>
    intro k i acc hi hk ha
    obtain ⟨k, rfl⟩ := succ_of hk
    rw [impl_melodyCurve.l0, if_neg (by omega), List.drop_eq_nil_of_le (by omega)]
    simp [curve]
  | succ d ih =>
    intro k i acc hi hk ha
    have hlt : i < x.length := by omega
    have hx := hv x[i] (List.getElem_mem hlt)
    have inner : ∀ (e k u : Nat) (acc : List Int), (u : Int) + e = x[i].f1 → 66 * d + e + 1 < k → acc.length ≤ 64 * i + u → impl_melodyCurve.l1 k acc x (x.length : Int) (i : Int) x[i].f1 (u : Int) x[i].f0 x[i].f1 = some (acc ++ List.replicate e (100 * x[i].f0) ++ curve (x.drop (i + 1))) := by
      intro e
      induction e with
      | zero =>
        intro k u acc hu hk ha
        obtain ⟨k, rfl⟩ := succ_of hk
        rw [impl_melodyCurve.l1, if_neg (by omega), w64 (by omega) (by omega)]
        have := ih k (i + 1) acc (by omega) (by omega) (by omega)
        rw [show ((i : Int) + 1) = ((i + 1 : Nat) : Int) by omega, this]
        simp
      | succ e ihe =>
        intro k u acc hu hk ha
        obtain ⟨k, rfl⟩ := succ_of hk
        rw [impl_melodyCurve.l1, if_pos (by omega), if_pos (by omega), w64 (n := (u : Int) + 1) (by omega) (by omega), w64 (n := 100 * x[i].f0) (by omega) (by omega)]
        have := ihe k (u + 1) (acc ++ [100 * x[i].f0]) (by omega) (by omega) (by simp; omega)
        rw [show ((u : Int) + 1) = ((u + 1 : Nat) : Int) by omega, this, List.replicate_succ]
        simp
    obtain ⟨k, rfl⟩ := succ_of hk
    rw [impl_melodyCurve.l0, if_pos (by omega), if_pos (by omega), if_pos (by omega), rdN_at hlt]
    have := inner x[i].f1.toNat k 0 acc (by omega) (by omega) (by omega)
    rw [show (0 : Int) = ((0 : Nat) : Int) from rfl, this, List.drop_eq_getElem_cons hlt, curve_cons, List.append_assoc]
theorem curve_len : ∀ (l : List S72), (∀ x ∈ l, 1 ≤ x.f1 ∧ x.f1 ≤ 64) → (curve l).length ≤ 64 * l.length
  | [], _ => by simp [curve]
  | x :: l, h => by
    have := curve_len l (fun y hy => h y (List.mem_cons_of_mem _ hy))
    have hx := h x List.mem_cons_self
    rw [curve_cons]
    simp only [List.length_append, List.length_replicate, List.length_cons]
    omega
theorem melodycurve_both (x : List S72) (hn : x.length ≤ 1048576) : ∃ (w : List Int) (c : Int), w.length ≤ 1100000 ∧ ∀ k, 1100000 ≤ k → spec_MelodyCurve.f k x = some (w, c) ∧ impl_MelodyCurve.f k x = some (w, c) := by
  cases h : okN x with
  | false =>
    refine ⟨[], 1, by simp, fun k hk => ?_⟩
    rw [spec_MelodyCurve.f, impl_MelodyCurve.f, specOk x hn k (by omega), implOk x hn k (by omega), h]
    exact ⟨rfl, rfl⟩
  | true =>
    have hl := okN_len h
    have hc := curve_len x (fun y hy => (okN_at h hy).2.2)
    refine ⟨curve x, 0, by omega, fun k hk => ?_⟩
    have s := specMC x hl (fun y hy => okN_at h hy) x.length k 0 [] (by omega) (by omega) (by simp)
    have i := implMC x hl (fun y hy => okN_at h hy) x.length k 0 [] (by omega) (by omega) (by simp)
    rw [spec_MelodyCurve.f, impl_MelodyCurve.f, impl_melodyCurve.f, specOk x hn k (by omega), implOk x hn k (by omega), h]
    simp only [Option.bind_some, if_true]
    rw [show (0 : Int) = ((0 : Nat) : Int) from rfl, s, i]
    simp
theorem FnExactMelodyCurve : laws_FnExactMelodyCurve.Pure := by
  intro l0  h0 
  obtain ⟨k, hk⟩ : ∃ k, 1200000 ≤ k := ⟨_, Nat.le_refl _⟩
  refine ⟨k + 5, ?_⟩
  rw [laws_FnExactMelodyCurve.f, szN l0 _ h0.1 (by omega) (by omega), Option.bind_some]
  by_cases c : (1048576 : Int) - l0.length < 0
  · simp [c]
  · have hn : l0.length ≤ 1048576 := by omega
    have hn' : (l0.map cvN).length ≤ 1048576 := by simpa using hn
    obtain ⟨w, cd, hw, hb⟩ := melodycurve_both (l0.map cvN) hn'  
    have S := fun j hj => (hb j hj).1
    have I := fun j hj => (hb j hj).2
    have T := toN l0 hn
    have EN := eqN (l0.map cvN) (by omega)
    have MN := markN (l0.map cvN) (by omega)
    have E := eqI w (by omega)
    have M := markI w (by omega)
    have H := heldI w.length (by omega)
    have c1 : ¬ ((1 + 2 * ((l0.map cvN).length : Int)) < 0) := by omega
    have c2 : ¬ ((1 + (w.length : Int)) < 0) := by omega
    rw [if_neg c, if_neg c]
    generalize l0.map cvN = m at *
    rw [T (k + 5) (by omega)]
    simp only [Option.bind_some]
    rw [S (k + 5) (by omega), Option.bind_some, I (k + 5) (by omega), Option.bind_some]
    dsimp only
    rw [E (k + 5) (by omega), Option.bind_some, if_pos rfl, laws_FnExactMelodyCurve.j0, if_neg (by simp), T (k + 4) (by omega), Option.bind_some, EN (k + 4) (by omega), Option.bind_some, if_pos rfl, MN (k + 4) (by omega), Option.bind_some]
    dsimp only
    rw [if_neg c1, E (k + 4) (by omega), Option.bind_some, if_pos rfl, laws_FnExactMelodyCurve.j1, if_neg (by simp), M (k + 3) (by omega), Option.bind_some]
    dsimp only
    rw [H (k + 3) (by omega), Option.bind_some, if_neg c2, if_pos rfl, T (k + 3) (by omega), Option.bind_some, I (k + 3) (by omega), Option.bind_some]
    dsimp only
    rw [E (k + 3) (by omega), Option.bind_some, if_pos rfl, laws_FnExactMelodyCurve.j2, if_neg (by simp), H (k + 2) (by omega), Option.bind_some, if_neg c2, if_pos rfl]


end Go.Proofs.Ytbhmalpncnkmaaa.Pure
