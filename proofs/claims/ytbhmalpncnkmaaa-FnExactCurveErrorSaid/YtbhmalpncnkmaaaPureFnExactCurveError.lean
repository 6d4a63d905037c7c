/- The law FnExactCurveError over lists alone. No condition. -/
import Derived.Test.YtbhmalpncnkmaaaMx0
import Derived.Test.YtbhmalpncnkmaaaMx11
import Derived.Test.YtbhmalpncnkmaaaMx13
import Derived.Test.YtbhmalpncnkmaaaMx19
import Derived.Test.YtbhmalpncnkmaaaMx20
import Derived.Test.YtbhmalpncnkmaaaMx21
import Derived.Test.YtbhmalpncnkmaaaMx22
import Derived.Test.YtbhmalpncnkmaaaMx23
import Derived.Test.YtbhmalpncnkmaaaMel
import Derived.Test.YtbhmalpncnkmaaaTo
namespace Go.Proofs.Ytbhmalpncnkmaaa.Pure
open Go.RowKit Go.Proofs.Ytbhmalpncnkmaaa.M Go.Proofs.YtbhmalpncnkmaaaW.PrintWords Go.Proofs.YtbhmalpncnkmaaaW.PrintLast
def okC (l : List Int) : Bool := l.all (inB · (-2000) 3000) && decide (l.length ≤ 3072)
theorem specCent (a : Int) : spec_l10Cents.f a = some (inB a (-2000) 3000) := by unfold spec_l10Cents.f; rw [specIn]; rfl
theorem specCurve_l0 (x : List Int) (hn : x.length ≤ 1048576) (d : Nat) : ∀ (k i : Nat), i + d = x.length → d < k → spec_l10Curve.l0 k x (i : Int) = some ((x.drop i).all (inB · (-2000) 3000) && decide (x.length ≤ 3072)) := by
  induction d with
  | zero =>
    intro k i hi hk
    obtain ⟨k, rfl⟩ := succ_of hk
    rw [spec_l10Curve.l0, if_neg (by omega), List.drop_eq_nil_of_le (by omega)]
    simp only [List.all_nil, Bool.true_and]
    congr 1
    rw [decide_eq_decide]
    omega
  | succ d ih =>
    intro k i hi hk
    obtain ⟨k, rfl⟩ := succ_of hk
    have hlt : i < x.length := by omega
    rw [spec_l10Curve.l0, if_pos (by omega), if_pos (by omega), rd_at hlt, List.drop_eq_getElem_cons hlt, List.all_cons, w64 (by omega) (by omega)]
    have := ih k (i + 1) (by omega) (by omega)
    rw [show ((i : Int) + 1) = ((i + 1 : Nat) : Int) by omega]
    simp only [specCent, Option.bind_some, this]
    cases inB x[i] (-2000) 3000 <;> simp
theorem specCurve (x : List Int) (hn : x.length ≤ 1048576) (k : Nat) (hk : 1048577 ≤ k) : spec_l10Curve.f k x = some (okC x) := by
  rw [spec_l10Curve.f]
  have := specCurve_l0 x hn x.length k 0 (by omega) (by omega)
  simpa [okC] using this
theorem implCurve (x : List Int) : impl_curveOk.f x = some (okC x) := by
  rw [impl_curveOk.f, impl_allWithin.f]
  show (if (x.length : Int) ≤ 3072 then (some (x.all (inB · (-2000) 3000))).bind fun t => some t else some false) = _
  by_cases h : (x.length : Int) ≤ 3072
  · rw [if_pos h]
    have : decide (x.length ≤ 3072) = true := by rw [decide_eq_true_iff]; omega
    simp [okC, this]
  · rw [if_neg h]
    have : decide (x.length ≤ 3072) = false := by rw [decide_eq_false_iff_not]; omega
    simp [okC, this]
theorem okC_len {m : List Int} (h : okC m = true) : m.length ≤ 3072 := by
  simp only [okC, Bool.and_eq_true, decide_eq_true_eq] at h
  exact h.2
theorem okC_at {m : List Int} (h : okC m = true) {x : Int} (hx : x ∈ m) : -2000 ≤ x ∧ x ≤ 3000 := by
  simp only [okC, Bool.and_eq_true, List.all_eq_true] at h
  exact inB_true.1 (h.1 x hx)
def near (c : Int) : Int := (c + 10049) / 100 - 100
theorem specNear (c : Int) (h : -2000 ≤ c) (h' : c ≤ 3000) : spec_l10Near.f c = some (near c) := by
  unfold spec_l10Near.f near
  rw [w64 (n := c - 50) (by omega) (by omega)]
  by_cases s : c - 50 < 0
  · have e : Int.tdiv (c - 50) 100 = -((50 - c) / 100) := by rw [show c - 50 = -(50 - c) by omega, Int.neg_tdiv, Int.tdiv_eq_ediv_of_nonneg (by omega)]
    rw [e, w64 (n := -((50 - c) / 100)) (by omega) (by omega), w64 (n := 100 * -((50 - c) / 100)) (by omega) (by omega), w64 (n := -((50 - c) / 100) + 1) (by omega) (by omega)]
    split <;> congr 1 <;> omega
  · have e : Int.tdiv (c - 50) 100 = (c - 50) / 100 := Int.tdiv_eq_ediv_of_nonneg (by omega)
    rw [e, w64 (n := (c - 50) / 100) (by omega) (by omega), w64 (n := 100 * ((c - 50) / 100)) (by omega) (by omega), w64 (n := (c - 50) / 100 + 1) (by omega) (by omega)]
    split <;> congr 1 <;> omega
theorem implNear (c : Int) (h : -2000 ≤ c) (h' : c ≤ 3000) : impl_nearestPitch.f c = some (near c) := by
  unfold impl_nearestPitch.f near
  rw [w64 (n := c + 49) (by omega) (by omega), w64 (n := c + 49 + 10000) (by omega) (by omega), Int.tdiv_eq_ediv_of_nonneg (by omega), w64 (n := (c + 49 + 10000) / 100) (by omega) (by omega), w64 (by omega) (by omega)]
  rw [show c + 49 + 10000 = c + 10049 by omega]
theorem near_bd (c : Int) (h : -2000 ≤ c) (h' : c ≤ 3000) : -50 ≤ c - 100 * near c ∧ c - 100 * near c ≤ 50 ∧ -20 ≤ near c ∧ near c ≤ 30 := by unfold near; omega
theorem ceMax (a b : Int) : spec_l00Max.f a b = some (mx a b) := by
  unfold spec_l00Max.f mx
  split <;> split <;> first | rfl | (congr 1; omega)
theorem ce_l0 (x : List Int) (hn : x.length ≤ 3072) (hv : ∀ y ∈ x, -2000 ≤ y ∧ y ≤ 3000) (d : Nat) : ∀ (i : Nat) (a : Int), 0 ≤ a → a ≤ 50 → i + d = x.length → ∃ w : Int, ∀ k, d < k → spec_CurveError.l0 k x a (i : Int) = some (w, 0) ∧ impl_CurveError.l0 k a x (x.length : Int) (i : Int) = some (w, 0) := by
  induction d with
  | zero =>
    intro i a h0 h1 hi
    refine ⟨a, fun k hk => ?_⟩
    obtain ⟨k, rfl⟩ := succ_of hk
    rw [spec_CurveError.l0, impl_CurveError.l0, if_neg (by omega), if_neg (by omega)]
    exact ⟨rfl, rfl⟩
  | succ d ih =>
    intro i a h0 h1 hi
    have hlt : i < x.length := by omega
    have hx := hv x[i] (List.getElem_mem hlt)
    have hb := near_bd x[i] hx.1 hx.2
    have e1 : 0 ≤ mx (x[i] - 100 * near x[i]) (-(x[i] - 100 * near x[i])) ∧ mx (x[i] - 100 * near x[i]) (-(x[i] - 100 * near x[i])) ≤ 50 := by unfold mx; split <;> omega
    obtain ⟨w, hw⟩ := ih (i + 1) (mx a (mx (x[i] - 100 * near x[i]) (-(x[i] - 100 * near x[i])))) (by generalize mx (x[i] - 100 * near x[i]) (-(x[i] - 100 * near x[i])) = z at e1; unfold mx; split <;> omega) (by generalize mx (x[i] - 100 * near x[i]) (-(x[i] - 100 * near x[i])) = z at e1; unfold mx; split <;> omega) (by omega)
    refine ⟨w, fun k hk => ?_⟩
    obtain ⟨k, rfl⟩ := succ_of hk
    have hw := hw k (by omega)
    rw [spec_CurveError.l0, impl_CurveError.l0, if_pos (by omega), if_pos (by omega), if_pos (by omega), if_pos (by omega), if_pos (by omega), rd_at hlt, specNear _ hx.1 hx.2, implNear _ hx.1 hx.2]
    simp only [Option.bind_some]
    rw [w64 (n := 100 * near x[i]) (by omega) (by omega), w64 (n := x[i] - 100 * near x[i]) (by omega) (by omega), spec_l04Abs.f, impl_abs.f, w64 (n := -(x[i] - 100 * near x[i])) (by omega) (by omega), w64 (n := (i : Int) + 1) (by omega) (by omega)]
    simp only [ceMax, Option.bind_some]
    rw [show ((i : Int) + 1) = ((i + 1 : Nat) : Int) by omega]
    exact hw
theorem curveerror_both (x : List Int) (hn : x.length ≤ 1048576) : ∃ (w : Int) (c : Int), ∀ k, 1100000 ≤ k → spec_CurveError.f k x = some (w, c) ∧ impl_CurveError.f k x = some (w, c) := by
  cases h : okC x with
  | false =>
    refine ⟨0, 1, fun k hk => ?_⟩
    rw [spec_CurveError.f, impl_CurveError.f, specCurve x hn k (by omega), implCurve x, h]
    exact ⟨rfl, rfl⟩
  | true =>
    have hl := okC_len h
    obtain ⟨w, hw⟩ := ce_l0 x hl (fun y hy => okC_at h hy) x.length 0 0 (by omega) (by omega) (by omega)
    refine ⟨w, 0, fun k hk => ?_⟩
    rw [spec_CurveError.f, impl_CurveError.f, specCurve x hn k (by omega), implCurve x, h]
    simp only [Option.bind_some, if_true]
    exact hw k (by omega)
theorem FnExactCurveError : laws_FnExactCurveError.Pure := by
  intro l0  h0 
  obtain ⟨k, hk⟩ : ∃ k, 1200000 ≤ k := ⟨_, Nat.le_refl _⟩
  refine ⟨k + 5, ?_⟩
  rw [laws_FnExactCurveError.f]
  by_cases c : (l0.length : Int) > 1048576
  · rw [if_pos c]
  · have hn : l0.length ≤ 1048576 := by omega
    obtain ⟨w, cd, hb⟩ := curveerror_both l0 hn  
    have S := fun j hj => (hb j hj).1
    have I := fun j hj => (hb j hj).2
    have T := toI l0 hn
    have EN := eqI l0 (by omega)
    rw [if_neg c]
    simp (disch := omega) only [T, S, I, EN, laws_FnExactCurveError.j0, Option.bind_some, bne_self_eq_false, Bool.false_eq_true, if_false, if_true]


end Go.Proofs.Ytbhmalpncnkmaaa.Pure
