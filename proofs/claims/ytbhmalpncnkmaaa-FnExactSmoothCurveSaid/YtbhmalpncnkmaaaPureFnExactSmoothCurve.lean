/- The law FnExactSmoothCurve over lists alone. No condition. -/
import Derived.Test.YtbhmalpncnkmaaaMx0
import Derived.Test.YtbhmalpncnkmaaaMx11
import Derived.Test.YtbhmalpncnkmaaaMx19
import Derived.Test.YtbhmalpncnkmaaaMx21
import Derived.Test.YtbhmalpncnkmaaaMx22
import Derived.Test.YtbhmalpncnkmaaaMx38
import Derived.Test.YtbhmalpncnkmaaaMx39
import Derived.Test.YtbhmalpncnkmaaaMx40
import Derived.Test.YtbhmalpncnkmaaaMx41
import Derived.Test.YtbhmalpncnkmaaaMx42
import Derived.Test.YtbhmalpncnkmaaaMel
import Derived.Test.YtbhmalpncnkmaaaDiv
import Derived.Test.YtbhmalpncnkmaaaTo
namespace Go.Proofs.Ytbhmalpncnkmaaa.Pure
open Go.RowKit Go.Proofs.Ytbhmalpncnkmaaa.M Go.Proofs.YtbhmalpncnkmaaaW.PrintWords Go.Proofs.YtbhmalpncnkmaaaW.PrintLast
def okC (l : List Int) : Bool := l.all (inB · (-2000) 3000) && decide (l.length ≤ 3072)
theorem specCent (a : Int) : spec_l10Cents.f a = some (inB a (-2000) 3000) := by unfold spec_l10Cents.f; rw [specIn]; rfl
theorem specCurve_l0 (x : List Int) (hn : x.length ≤ 1048576) (d : Nat) : ∀ (k i : Nat), i + d = x.length → d < k → spec_l10Curve.l0 k x (i : Int) = some ((x.drop i).all (inB · (-2000) 3000) && decide (x.length ≤ 3072)) := by
  induction d with
  | zero =>
    intro k i hi hk
    obtain ⟨k, rfl⟩ := succ_of hk
    rw [spec_l10Curve.l0, if_neg (by omega), List.drop_eq_nil_of_le (by omega)]
    simp only [List.all_nil, Bool.true_and]
    congr 1
    rw [decide_eq_decide]
    omega
  | succ d ih =>
    intro k i hi hk
    obtain ⟨k, rfl⟩ := succ_of hk
    have hlt : i < x.length := by omega
    rw [spec_l10Curve.l0, if_pos (by omega), if_pos (by omega), rd_at hlt, List.drop_eq_getElem_cons hlt, List.all_cons, w64 (by omega) (by omega)]
    have := ih k (i + 1) (by omega) (by omega)
    rw [show ((i : Int) + 1) = ((i + 1 : Nat) : Int) by omega]
    simp only [specCent, Option.bind_some, this]
    cases inB x[i] (-2000) 3000 <;> simp
theorem specCurve (x : List Int) (hn : x.length ≤ 1048576) (k : Nat) (hk : 1048577 ≤ k) : spec_l10Curve.f k x = some (okC x) := by
  rw [spec_l10Curve.f]
  have := specCurve_l0 x hn x.length k 0 (by omega) (by omega)
  simpa [okC] using this
theorem implCurve (x : List Int) : impl_curveOk.f x = some (okC x) := by
  rw [impl_curveOk.f, impl_allWithin.f]
  show (if (x.length : Int) ≤ 3072 then (some (x.all (inB · (-2000) 3000))).bind fun t => some t else some false) = _
  by_cases h : (x.length : Int) ≤ 3072
  · rw [if_pos h]
    have : decide (x.length ≤ 3072) = true := by rw [decide_eq_true_iff]; omega
    simp [okC, this]
  · rw [if_neg h]
    have : decide (x.length ≤ 3072) = false := by rw [decide_eq_false_iff_not]; omega
    simp [okC, this]
theorem okC_len {m : List Int} (h : okC m = true) : m.length ≤ 3072 := by
  simp only [okC, Bool.and_eq_true, decide_eq_true_eq] at h
  exact h.2
theorem okC_at {m : List Int} (h : okC m = true) {x : Int} (hx : x ∈ m) : -2000 ≤ x ∧ x ≤ 3000 := by
  simp only [okC, Bool.and_eq_true, List.all_eq_true] at h
  exact inB_true.1 (h.1 x hx)
def near (c : Int) : Int := (c + 10049) / 100 - 100
theorem specNear (c : Int) (h : -2000 ≤ c) (h' : c ≤ 3000) : spec_l10Near.f c = some (near c) := by
  unfold spec_l10Near.f near
  rw [w64 (n := c - 50) (by omega) (by omega)]
  by_cases s : c - 50 < 0
  · have e : Int.tdiv (c - 50) 100 = -((50 - c) / 100) := by rw [show c - 50 = -(50 - c) by omega, Int.neg_tdiv, Int.tdiv_eq_ediv_of_nonneg (by omega)]
    rw [e, w64 (n := -((50 - c) / 100)) (by omega) (by omega), w64 (n := 100 * -((50 - c) / 100)) (by omega) (by omega), w64 (n := -((50 - c) / 100) + 1) (by omega) (by omega)]
    split <;> congr 1 <;> omega
  · have e : Int.tdiv (c - 50) 100 = (c - 50) / 100 := Int.tdiv_eq_ediv_of_nonneg (by omega)
    rw [e, w64 (n := (c - 50) / 100) (by omega) (by omega), w64 (n := 100 * ((c - 50) / 100)) (by omega) (by omega), w64 (n := (c - 50) / 100 + 1) (by omega) (by omega)]
    split <;> congr 1 <;> omega
theorem implNear (c : Int) (h : -2000 ≤ c) (h' : c ≤ 3000) : impl_nearestPitch.f c = some (near c) := by
  unfold impl_nearestPitch.f near
  rw [w64 (n := c + 49) (by omega) (by omega), w64 (n := c + 49 + 10000) (by omega) (by omega), Int.tdiv_eq_ediv_of_nonneg (by omega), w64 (n := (c + 49 + 10000) / 100) (by omega) (by omega), w64 (by omega) (by omega)]
  rw [show c + 49 + 10000 = c + 10049 by omega]
theorem near_bd (c : Int) (h : -2000 ≤ c) (h' : c ≤ 3000) : -50 ≤ c - 100 * near c ∧ c - 100 * near c ≤ 50 ∧ -20 ≤ near c ∧ near c ≤ 30 := by unfold near; omega
theorem own_is (l : List Int) (h : l.length ≤ 1048576) : spec_l00Own.f l = some l := by
  rw [spec_l00Own.f]
  simp only [Option.bind_some, List.length_nil, List.nil_append]
  rw [if_pos (by omega)]
theorem clone_is (l : List Int) (h : l.length ≤ 1048576) : slices_Clone_int64_int64.f l = some l := by
  rw [slices_Clone_int64_int64.f, if_pos (by omega)]
theorem dv4 (v : Int) (h : -8000 ≤ v) (h' : v ≤ 12000) : -2000 ≤ dv v 4 ∧ dv v 4 ≤ 3000 := by
  unfold dv
  split <;> omega
theorem sm_l1 (a1 : Int) (x : List Int) (hn : x.length ≤ 3072) (hb : ∀ j : Nat, j < x.length → -2000 ≤ rd x (j : Int) ∧ rd x (j : Int) ≤ 3000) (i : Int) (d : Nat) : ∀ (y : List Int) (j : Nat), y.length = x.length → (∀ j : Nat, j < y.length → -2000 ≤ rd y (j : Int) ∧ rd y (j : Int) ≤ 3000) → 1 ≤ j → j ≤ 4000 → x.length - 1 - j = d →
    ∃ z : List Int, z.length = x.length ∧ (∀ j : Nat, j < z.length → -2000 ≤ rd z (j : Int) ∧ rd z (j : Int) ≤ 3000) ∧ ∀ k, spec_SmoothCurve.l1 (k + (d + 1)) a1 x i y (j : Int) = spec_SmoothCurve.l0 k a1 z (wrap64 (i + 1)) ∧ impl_SmoothCurve.l1 (k + (d + 1)) y x (j : Int) a1 i = impl_SmoothCurve.l0 k z a1 (wrap64 (i + 1)) := by
  induction d with
  | zero =>
    intro y j hy hv hj hj2 hd
    refine ⟨y, hy, hv, fun k => ?_⟩
    rw [Nat.zero_add]
    · rw [spec_SmoothCurve.l1, impl_SmoothCurve.l1, w64 (n := (j : Int) + 1) (by omega) (by omega), w64 (n := (y.length : Int) - 1) (by omega) (by omega), if_neg (by omega), if_neg (by omega)]
      exact ⟨rfl, rfl⟩
  | succ d ih =>
    intro y j hy hv hj hj2 hd
    have b0 := hb (j - 1) (by omega)
    have b1 := hb j (by omega)
    have b2 := hb (j + 1) (by omega)
    have e0 : (j : Int) - 1 = ((j - 1 : Nat) : Int) := by omega
    have e2 : (j : Int) + 1 = ((j + 1 : Nat) : Int) := by omega
    have q := dv4 (rd x ((j - 1 : Nat) : Int) + 2 * rd x (j : Int) + rd x ((j + 1 : Nat) : Int)) (by omega) (by omega)
    obtain ⟨z, h1, h2, h3⟩ := ih (y.set j (dv (rd x ((j - 1 : Nat) : Int) + 2 * rd x (j : Int) + rd x ((j + 1 : Nat) : Int)) 4)) (j + 1) (by simpa using hy) (by
      intro p hp
      have hp' : p < y.length := by simpa using hp
      rw [rd_at hp, List.getElem_set]
      split
      · exact q
      · have := hv p hp'
        rwa [rd_at hp'] at this) (by omega) (by omega) (by omega)
    refine ⟨z, h1, h2, fun k => ?_⟩
    have h3 := h3 k
    rw [show k + (d + 1 + 1) = (k + (d + 1)) + 1 by omega]
    rw [spec_SmoothCurve.l1, impl_SmoothCurve.l1, w64 (n := (j : Int) + 1) (by omega) (by omega), w64 (n := (j : Int) - 1) (by omega) (by omega), w64 (n := (y.length : Int) - 1) (by omega) (by omega), e0, e2, w64 (n := 2 * rd x (j : Int)) (by omega) (by omega), w64 (n := rd x ((j - 1 : Nat) : Int) + 2 * rd x (j : Int)) (by omega) (by omega), w64 (n := rd x ((j - 1 : Nat) : Int) + 2 * rd x (j : Int) + rd x ((j + 1 : Nat) : Int)) (by omega) (by omega), specDiv _ 4 (by omega) (by omega) (by omega) (by omega), implDiv _ 4 (by omega) (by omega) (by omega) (by omega), Option.bind_some, Option.bind_some, Int.toNat_natCast]
    rw [if_pos (by omega), if_pos (by omega), if_pos (by omega), if_pos (by omega), if_pos (by omega), if_pos (by omega), if_pos (by omega)]
    rw [if_pos (by omega), if_pos (by omega), if_pos (by omega), if_pos (by omega), if_pos (by omega), if_pos (by omega), if_pos (by omega), if_pos (by omega)]
    exact h3
set_option maxRecDepth 100000 in
theorem sm_l0 (a1 : Int) (ha : a1 ≤ 100) (e : Nat) : ∀ (x : List Int) (i : Nat), x.length ≤ 3072 → (∀ j : Nat, j < x.length → -2000 ≤ rd x (j : Int) ∧ rd x (j : Int) ≤ 3000) → (i : Int) + e = a1 →
    ∃ z : List Int, z.length ≤ 3072 ∧ ∀ k, e * 3080 + 1 ≤ k → spec_SmoothCurve.l0 k a1 x (i : Int) = some (z, 0) ∧ impl_SmoothCurve.l0 k x a1 (i : Int) = some (z, 0) := by
  induction e with
  | zero =>
    intro x i hn hb hi
    refine ⟨x, hn, fun k hk => ?_⟩
    obtain ⟨k, rfl⟩ := succ_of (show 0 < k by omega)
    rw [spec_SmoothCurve.l0, impl_SmoothCurve.l0, if_neg (by omega), if_neg (by omega)]
    exact ⟨rfl, rfl⟩
  | succ e ih =>
    intro x i hn hb hi
    obtain ⟨y, h1, h2, h3⟩ := sm_l1 a1 x hn hb (i : Int) (x.length - 1 - 1) x 1 rfl hb (Nat.le_refl _) (by omega) rfl
    obtain ⟨z, g1, g2⟩ := ih y (i + 1) (by omega) h2 (by omega)
    refine ⟨z, g1, fun k hk => ?_⟩
    have h3 := h3 (k - 1 - (x.length - 1 - 1 + 1))
    have g2 := g2 (k - 1 - (x.length - 1 - 1 + 1)) (by omega)
    rw [show k - 1 - (x.length - 1 - 1 + 1) + (x.length - 1 - 1 + 1) = k - 1 by omega] at h3
    obtain ⟨k', rfl⟩ := succ_of (show 0 < k by omega)
    rw [Nat.add_sub_cancel] at h3 g2
    rw [spec_SmoothCurve.l0, impl_SmoothCurve.l0, if_pos (by omega), if_pos (by omega), own_is x (by omega), clone_is x (by omega), Option.bind_some, Option.bind_some]
    rw [show ((1 : Nat) : Int) = 1 from rfl] at h3
    rw [h3.1, h3.2, w64 (by omega) (by omega), show ((i : Int) + 1) = ((i + 1 : Nat) : Int) by omega]
    exact g2
theorem smoothcurve_both (x : List Int) (hn : x.length ≤ 1048576) (a1 : Int) : ∃ (w : List Int) (c : Int), w.length ≤ 1100000 ∧ ∀ k, 1100000 ≤ k → spec_SmoothCurve.f k x a1 = some (w, c) ∧ impl_SmoothCurve.f k x a1 = some (w, c) := by
  cases h : okC x with
  | false =>
    refine ⟨[], 1, by simp, fun k hk => ?_⟩
    rw [spec_SmoothCurve.f, impl_SmoothCurve.f, specCurve x hn k (by omega), implCurve x, h]
    exact ⟨rfl, rfl⟩
  | true =>
    have hl := okC_len h
    cases h2 : inB a1 0 100 with
    | false =>
      refine ⟨[], 2, by simp, fun k hk => ?_⟩
      rw [spec_SmoothCurve.f, impl_SmoothCurve.f, specCurve x hn k (by omega), implCurve x, h, specIn, implIn, h2]
      exact ⟨rfl, rfl⟩
    | true =>
      have ha := inB_true.mp h2
      obtain ⟨z, g1, g2⟩ := sm_l0 a1 ha.2 a1.toNat x 0 hl (fun j hj => by rw [rd_at hj]; exact okC_at h (List.getElem_mem hj)) (by omega)
      refine ⟨z, 0, by omega, fun k hk => ?_⟩
      have g2 := g2 k (by omega)
      rw [spec_SmoothCurve.f, impl_SmoothCurve.f, specCurve x hn k (by omega), implCurve x, h, specIn, implIn, h2]
      simp only [Option.bind_some, if_true]
      rw [own_is x hn, clone_is x hn]
      exact g2
theorem FnExactSmoothCurve : laws_FnExactSmoothCurve.Pure := by
  intro l0 a1 h0 h1
  obtain ⟨k, hk⟩ : ∃ k, 1200000 ≤ k := ⟨_, Nat.le_refl _⟩
  refine ⟨k + 5, ?_⟩
  rw [laws_FnExactSmoothCurve.f]
  by_cases c : (l0.length : Int) > 1048576
  · rw [if_pos c]
  · have hn : l0.length ≤ 1048576 := by omega
    obtain ⟨w, cd, hw, hb⟩ := smoothcurve_both l0 hn a1 
    have S := fun j hj => (hb j hj).1
    have I := fun j hj => (hb j hj).2
    have T := toI l0 hn
    have EN := eqI l0 (by omega)
    have MN := markI l0 (by omega)
    have E := eqI w (by omega)
    have M := markI w (by omega)
    have H := heldI w.length (by omega)
    have c1 : ¬ ((1 + (l0.length : Int)) < 0) := by omega
    have c2 : ¬ ((1 + (w.length : Int)) < 0) := by omega
    rw [if_neg c]
    rw [T (k + 5) (by omega)]
    simp only [Option.bind_some]
    rw [S (k + 5) (by omega), Option.bind_some, I (k + 5) (by omega), Option.bind_some]
    dsimp only
    rw [E (k + 5) (by omega), Option.bind_some, if_pos rfl, laws_FnExactSmoothCurve.j0, if_neg (by simp), T (k + 4) (by omega), Option.bind_some, EN (k + 4) (by omega), Option.bind_some, if_pos rfl, MN (k + 4) (by omega), Option.bind_some]
    dsimp only
    rw [if_neg c1, E (k + 4) (by omega), Option.bind_some, if_pos rfl, laws_FnExactSmoothCurve.j1, if_neg (by simp), M (k + 3) (by omega), Option.bind_some]
    dsimp only
    rw [H (k + 3) (by omega), Option.bind_some, if_neg c2, if_pos rfl, T (k + 3) (by omega), Option.bind_some, I (k + 3) (by omega), Option.bind_some]
    dsimp only
    rw [E (k + 3) (by omega), Option.bind_some, if_pos rfl, laws_FnExactSmoothCurve.j2, if_neg (by simp), H (k + 2) (by omega), Option.bind_some, if_neg c2, if_pos rfl]


end Go.Proofs.Ytbhmalpncnkmaaa.Pure
