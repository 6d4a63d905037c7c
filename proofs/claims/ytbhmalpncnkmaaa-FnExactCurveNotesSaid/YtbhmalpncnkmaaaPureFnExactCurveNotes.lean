/- The law FnExactCurveNotes over lists alone. No condition. -/
import Derived.Test.YtbhmalpncnkmaaaM3x0
import Derived.Test.YtbhmalpncnkmaaaM3x4
import Derived.Test.YtbhmalpncnkmaaaM3x5
import Derived.Test.YtbhmalpncnkmaaaM3x6
import Derived.Test.YtbhmalpncnkmaaaM3x7
import Derived.Test.YtbhmalpncnkmaaaM3x8
import Derived.Test.YtbhmalpncnkmaaaM3x9
import Derived.Test.YtbhmalpncnkmaaaM3x10
import Derived.Test.YtbhmalpncnkmaaaCMel
import Derived.Test.YtbhmalpncnkmaaaTo
namespace Go.Proofs.Ytbhmalpncnkmaaa.Pure
open Go.RowKit Go.Proofs.Ytbhmalpncnkmaaa.M3 Go.Proofs.YtbhmalpncnkmaaaW.PrintWords Go.Proofs.YtbhmalpncnkmaaaW.PrintLast
def okC (l : List Int) : Bool := l.all (inB · (-2000) 3000) && decide (l.length ≤ 3072)
theorem specCent (a : Int) : spec_l10Cents.f a = some (inB a (-2000) 3000) := by unfold spec_l10Cents.f; rw [specIn]; rfl
theorem specCurve_l0 (x : List Int) (hn : x.length ≤ 1048576) (d : Nat) : ∀ (k i : Nat), i + d = x.length → d < k → spec_l10Curve.l0 k x (i : Int) = some ((x.drop i).all (inB · (-2000) 3000) && decide (x.length ≤ 3072)) := by
  induction d with
  | zero =>
    intro k i hi hk
    obtain ⟨k, rfl⟩ := succ_of hk
    rw [spec_l10Curve.l0, if_neg (by omega), List.drop_eq_nil_of_le (by omega)]
    simp only [List.all_nil, Bool.true_and]
    congr 1
    rw [decide_eq_decide]
    omega
  | succ d ih =>
    intro k i hi hk
    obtain ⟨k, rfl⟩ := succ_of hk
    have hlt : i < x.length := by omega
    rw [spec_l10Curve.l0, if_pos (by omega), if_pos (by omega), rd_at hlt, List.drop_eq_getElem_cons hlt, List.all_cons, w64 (by omega) (by omega)]
    have := ih k (i + 1) (by omega) (by omega)
    rw [show ((i : Int) + 1) = ((i + 1 : Nat) : Int) by omega]
    simp only [specCent, Option.bind_some, this]
    cases inB x[i] (-2000) 3000 <;> simp
theorem specCurve (x : List Int) (hn : x.length ≤ 1048576) (k : Nat) (hk : 1048577 ≤ k) : spec_l10Curve.f k x = some (okC x) := by
  rw [spec_l10Curve.f]
  have := specCurve_l0 x hn x.length k 0 (by omega) (by omega)
  simpa [okC] using this
theorem implCurve (x : List Int) : impl_curveOk.f x = some (okC x) := by
  rw [impl_curveOk.f, impl_allWithin.f]
  show (if (x.length : Int) ≤ 3072 then (some (x.all (inB · (-2000) 3000))).bind fun t => some t else some false) = _
  by_cases h : (x.length : Int) ≤ 3072
  · rw [if_pos h]
    have : decide (x.length ≤ 3072) = true := by rw [decide_eq_true_iff]; omega
    simp [okC, this]
  · rw [if_neg h]
    have : decide (x.length ≤ 3072) = false := by rw [decide_eq_false_iff_not]; omega
    simp [okC, this]
theorem okC_len {m : List Int} (h : okC m = true) : m.length ≤ 3072 := by
  simp only [okC, Bool.and_eq_true, decide_eq_true_eq] at h
  exact h.2
theorem okC_at {m : List Int} (h : okC m = true) {x : Int} (hx : x ∈ m) : -2000 ≤ x ∧ x ≤ 3000 := by
  simp only [okC, Bool.and_eq_true, List.all_eq_true] at h
  exact inB_true.1 (h.1 x hx)
def near (c : Int) : Int := (c + 10049) / 100 - 100
theorem specNear (c : Int) (h : -2000 ≤ c) (h' : c ≤ 3000) : spec_l10Near.f c = some (near c) := by
  unfold spec_l10Near.f near
  rw [w64 (n := c - 50) (by omega) (by omega)]
  by_cases s : c - 50 < 0
  · have e : Int.tdiv (c - 50) 100 = -((50 - c) / 100) := by rw [show c - 50 = -(50 - c) by omega, Int.neg_tdiv, Int.tdiv_eq_ediv_of_nonneg (by omega)]
    rw [e, w64 (n := -((50 - c) / 100)) (by omega) (by omega), w64 (n := 100 * -((50 - c) / 100)) (by omega) (by omega), w64 (n := -((50 - c) / 100) + 1) (by omega) (by omega)]
    split <;> congr 1 <;> omega
  · have e : Int.tdiv (c - 50) 100 = (c - 50) / 100 := Int.tdiv_eq_ediv_of_nonneg (by omega)
    rw [e, w64 (n := (c - 50) / 100) (by omega) (by omega), w64 (n := 100 * ((c - 50) / 100)) (by omega) (by omega), w64 (n := (c - 50) / 100 + 1) (by omega) (by omega)]
    split <;> congr 1 <;> omega
theorem implNear (c : Int) (h : -2000 ≤ c) (h' : c ≤ 3000) : impl_nearestPitch.f c = some (near c) := by
  unfold impl_nearestPitch.f near
  rw [w64 (n := c + 49) (by omega) (by omega), w64 (n := c + 49 + 10000) (by omega) (by omega), Int.tdiv_eq_ediv_of_nonneg (by omega), w64 (n := (c + 49 + 10000) / 100) (by omega) (by omega), w64 (by omega) (by omega)]
  rw [show c + 49 + 10000 = c + 10049 by omega]
theorem near_bd (c : Int) (h : -2000 ≤ c) (h' : c ≤ 3000) : -50 ≤ c - 100 * near c ∧ c - 100 * near c ≤ 50 ∧ -20 ≤ near c ∧ near c ≤ 30 := by unfold near; omega
theorem rdN2 {x : List S72} {j : Nat} (h : j < x.length) : rd_T72 x (j : Int) = x[j] := by
  simp [rd_T72, List.getD_eq_getElem?_getD, List.getElem?_eq_getElem h]
def okA (m : List S72) : Prop := ∀ n ∈ m, (-12 ≤ n.f0 ∧ n.f0 ≤ 23) ∧ (1 ≤ n.f1 ∧ n.f1 ≤ 64)
def st (m : List S72) (p : Int) : List S72 :=
  if h : 0 < m.length then (if m[m.length - 1].f0 = p then (if m[m.length - 1].f1 < 64 then m.set (m.length - 1) ⟨m[m.length - 1].f0, m[m.length - 1].f1 + 1⟩ else m ++ [⟨p, 1⟩]) else m ++ [⟨p, 1⟩]) else m ++ [⟨p, 1⟩]
theorem st_len (m : List S72) (p : Int) : (st m p).length ≤ m.length + 1 := by
  unfold st
  split
  · split
    · split
      · simp
      · simp
    · simp
  · simp
theorem st_ok {m : List S72} {p : Int} (h : okA m) (hp : -12 ≤ p ∧ p ≤ 23) : okA (st m p) := by
  have ha : okA (m ++ [⟨p, 1⟩]) := by
    intro n hn
    rw [List.mem_append] at hn
    rcases hn with hn | hn
    · exact h n hn
    · rw [List.mem_singleton] at hn
      subst hn
      exact ⟨hp, by simp, by simp⟩
  unfold st
  split
  next h0 =>
    have hl := h m[m.length - 1] (List.getElem_mem (by omega))
    split
    · split
      · intro n hn
        rcases List.mem_or_eq_of_mem_set hn with hn | hn
        · exact h n hn
        · subst hn
          exact ⟨hl.1, by simp only; omega, by simp only; omega⟩
      · exact ha
    · exact ha
  · exact ha
def tieN (x : List Int) : Nat → Nat → List S72 → List S72
  | 0, _, m => m
  | d + 1, i, m => tieN x d (i + 1) (st m (near (rd x (i : Int))))
def okP (x : List Int) : Nat → Nat → Bool
  | 0, _ => true
  | d + 1, i => inB (near (rd x (i : Int))) (-12) 23 && okP x d (i + 1)
def nts (x : List Int) : Nat → Nat → List S72
  | 0, _ => []
  | d + 1, i => ⟨near (rd x (i : Int)), 1⟩ :: nts x d (i + 1)
theorem spec_cn (x : List Int) (hn : x.length ≤ 3072) (hv : ∀ y ∈ x, -2000 ≤ y ∧ y ≤ 3000) (d : Nat) : ∀ (k i : Nat) (m : List S72), i + d = x.length → m.length ≤ i → okA m → d < k → spec_CurveNotes.l0 k x m (i : Int) = if okP x d i = true then (if ((tieN x d i m).length : Int) > 48 then some ([], 5) else some (tieN x d i m, 0)) else some ([], 6) := by
  induction d with
  | zero =>
    intro k i m hi hm ho hk
    obtain ⟨k, rfl⟩ := succ_of hk
    rw [spec_CurveNotes.l0, if_neg (by omega), okP, if_pos rfl, tieN]
  | succ d ih =>
    intro k i m hi hm ho hk
    obtain ⟨k, rfl⟩ := succ_of hk
    have hlt : i < x.length := by omega
    have hx := hv x[i] (List.getElem_mem hlt)
    have hs := st_len m (near x[i])
    rw [spec_CurveNotes.l0, if_pos (by omega), if_pos (by omega), okP, tieN, rd_at hlt, specNear _ hx.1 hx.2, Option.bind_some, spec_l03Pitch.f, specIn, Option.bind_some, Option.bind_some, w64 (n := (i : Int) + 1) (by omega) (by omega), show ((i : Int) + 1) = ((i + 1 : Nat) : Int) by omega]
    cases hp : inB (near x[i]) (-12) 23 with
    | false => rw [if_neg (by simp), Bool.false_and, if_neg (by simp)]
    | true =>
      rw [if_pos rfl, Bool.true_and, ← ih k (i + 1) (st m (near x[i])) (by omega) (by omega) (st_ok ho (inB_true.1 hp)) (by omega)]
      by_cases h0 : 0 < m.length
      · have e0 : (m.length : Int) - 1 = ((m.length - 1 : Nat) : Int) := by omega
        have hl := ho m[m.length - 1] (List.getElem_mem (by omega))
        rw [if_pos (by omega), w64 (n := (m.length : Int) - 1) (by omega) (by omega), e0, rdN2 (show m.length - 1 < m.length by omega), if_pos (by omega), if_pos (by omega), w64 (n := m[m.length - 1].f1 + 1) (by omega) (by omega), Int.toNat_natCast, st, dif_pos h0]
        by_cases h1 : m[m.length - 1].f0 = near x[i]
        · rw [if_pos h1, if_pos h1]
          by_cases h2 : m[m.length - 1].f1 < 64
          · rw [if_pos h2, if_pos h2]
          · rw [if_neg h2, if_neg h2, if_pos (by omega)]
        · rw [if_neg h1, if_neg h1, if_pos (by omega)]
      · rw [if_neg (by omega), if_pos (by omega), st, dif_neg h0]
theorem tied_cn (x : List Int) (hn : x.length ≤ 3072) (M : List S72) (hM : M.length = x.length) (hr : ∀ j : Nat, j < x.length → rd_T72 M (j : Int) = ⟨near (rd x (j : Int)), 1⟩) (d : Nat) : ∀ (k i : Nat) (m : List S72), i + d = x.length → m.length ≤ i → okA m → okP x d i = true → d < k → ∃ r, impl_tied.l0 k m M (M.length : Int) (i : Int) = some r ∧ r = tieN x d i m ∧ okA r := by
  induction d with
  | zero =>
    intro k i m hi hm ho _ hk
    obtain ⟨k, rfl⟩ := succ_of hk
    exact ⟨m, by rw [impl_tied.l0, if_neg (by omega)], rfl, ho⟩
  | succ d ih =>
    intro k i m hi hm ho hp hk
    obtain ⟨k, rfl⟩ := succ_of hk
    have hlt : i < x.length := by omega
    rw [okP, Bool.and_eq_true] at hp
    have hs := st_len m (near (rd x (i : Int)))
    obtain ⟨r, e1, e2⟩ := ih k (i + 1) (st m (near (rd x (i : Int)))) (by omega) (by omega) (st_ok ho (inB_true.1 hp.1)) hp.2 (by omega)
    refine ⟨r, ?_, by rw [tieN]; exact e2⟩
    rw [impl_tied.l0, if_pos (by omega), if_pos (by omega), if_pos (by omega), hr i hlt, w64 (n := (i : Int) + 1) (by omega) (by omega), show ((i : Int) + 1) = ((i + 1 : Nat) : Int) by omega, ← e1]
    by_cases h0 : 0 < m.length
    · have e0 : (m.length : Int) - 1 = ((m.length - 1 : Nat) : Int) := by omega
      have hl := ho m[m.length - 1] (List.getElem_mem (by omega))
      rw [if_pos (by omega), w64 (n := (m.length : Int) - 1) (by omega) (by omega), e0, rdN2 (show m.length - 1 < m.length by omega), if_pos (by omega), if_pos (by omega), w64 (n := m[m.length - 1].f1 + 1) (by omega) (by omega), Int.toNat_natCast, st, dif_pos h0, impl_lengthOk.f, implIn, Option.bind_some, Option.bind_some]
      by_cases h1 : m[m.length - 1].f0 = near (rd x (i : Int))
      · rw [if_pos h1, if_pos h1]
        by_cases h2 : m[m.length - 1].f1 < 64
        · rw [if_pos (inB_true.2 (by omega)), if_pos h2]
        · rw [if_neg (by rw [inB_true]; omega), if_neg h2, if_pos (by omega)]
      · rw [if_neg h1, if_neg h1, if_pos (by omega)]
    · rw [if_neg (by omega), if_pos (by omega), st, dif_neg h0]
theorem nts_len (x : List Int) (d : Nat) : ∀ i, (nts x d i).length = d := by
  induction d with
  | zero => intro i; rfl
  | succ d ih => intro i; rw [nts, List.length_cons, ih]
theorem nts_rd (x : List Int) (d : Nat) : ∀ (i j : Nat), j < d → (nts x d i)[j]? = some ⟨near (rd x ((i + j : Nat) : Int)), 1⟩ := by
  induction d with
  | zero => intro i j h; omega
  | succ d ih =>
    intro i j h
    rw [nts]
    cases j with
    | zero => rfl
    | succ j =>
      rw [List.getElem?_cons_succ, ih (i + 1) j (by omega)]
      rw [show i + 1 + j = i + (j + 1) by omega]
theorem nts_all (x : List Int) (d : Nat) : ∀ i, (nts x d i).all cOk = okP x d i := by
  induction d with
  | zero => intro i; rfl
  | succ d ih => intro i; rw [nts, okP, List.all_cons, ih]; rfl
theorem impl_cn (x : List Int) (hn : x.length ≤ 3072) (hv : ∀ y ∈ x, -2000 ≤ y ∧ y ≤ 3000) (d : Nat) : ∀ (k i : Nat) (m : List S72), i + d = x.length → m.length ≤ i → d + 4000 < k → ∃ k', 4000 ≤ k' ∧ impl_CurveNotes.l0 k m x (x.length : Int) (i : Int) = ((impl_Note_134.f (m ++ nts x d i)).bind fun t166 => (if t166 = true then (some (([] : List S72), 6)) else ((impl_tied.f k' (m ++ nts x d i)).bind fun t167 => ((impl_checkedMelody.f t167).bind fun bt170 => (some (bt170.1, bt170.2)))))) := by
  induction d with
  | zero =>
    intro k i m hi hm hk
    obtain ⟨k, rfl⟩ := succ_of (show 0 < k by omega)
    exact ⟨k, by omega, by rw [impl_CurveNotes.l0, if_neg (by omega), nts, List.append_nil]⟩
  | succ d ih =>
    intro k i m hi hm hk
    obtain ⟨k, rfl⟩ := succ_of (show 0 < k by omega)
    have hlt : i < x.length := by omega
    have hx := hv x[i] (List.getElem_mem hlt)
    obtain ⟨k', h1, h2⟩ := ih k (i + 1) (m ++ [⟨near x[i], 1⟩]) (by omega) (by simp; omega) (by omega)
    refine ⟨k', h1, ?_⟩
    rw [impl_CurveNotes.l0, if_pos (by omega), if_pos (by omega), if_pos (by omega), rd_at hlt, implNear _ hx.1 hx.2, Option.bind_some, if_pos (by omega), w64 (by omega) (by omega), show ((i : Int) + 1) = ((i + 1 : Nat) : Int) by omega, h2, List.append_assoc, nts, rd_at hlt]
    rfl
theorem curvenotes_both (x : List Int) (hn : x.length ≤ 1048576) : ∃ (w : List S72) (c : Int), w.length ≤ 1100000 ∧ ∀ k, 1100000 ≤ k → spec_CurveNotes.f k x = some (w, c) ∧ impl_CurveNotes.f k x = some (w, c) := by
  cases h : okC x with
  | false =>
    refine ⟨[], 1, by simp, fun k hk => ?_⟩
    rw [spec_CurveNotes.f, impl_CurveNotes.f, specCurve x hn k (by omega), implCurve x, h]
    exact ⟨rfl, rfl⟩
  | true =>
    have hl := okC_len h
    have hv : ∀ y ∈ x, -2000 ≤ y ∧ y ≤ 3000 := fun y hy => okC_at h hy
    have hA : okA ([] : List S72) := fun n hn => absurd hn (by simp)
    have hr : ∀ j : Nat, j < x.length → rd_T72 (nts x x.length 0) (j : Int) = ⟨near (rd x (j : Int)), 1⟩ := by
      intro j hj
      have := nts_rd x x.length 0 j hj
      rw [Nat.zero_add] at this
      simp only [rd_T72, Int.toNat_natCast, List.getD_eq_getElem?_getD, this, Option.getD_some]
    have hS := fun k hk => spec_cn x hl hv x.length k 0 [] (by omega) (by simp) hA hk
    have hI := fun k hk => impl_cn x hl hv x.length k 0 [] (by omega) (by simp) hk
    rw [show ((0 : Nat) : Int) = 0 from rfl] at hS hI
    simp only [List.nil_append] at hI
    cases hp : okP x x.length 0 with
    | false =>
      refine ⟨[], 6, by simp, fun k hk => ?_⟩
      obtain ⟨k', h1, h2⟩ := hI k (by omega)
      rw [spec_CurveNotes.f, impl_CurveNotes.f, specCurve x hn k (by omega), implCurve x, h, Option.bind_some, Option.bind_some, if_pos rfl, if_pos rfl, hS k (by omega), h2, hp, impl_Note_134.f, nts_all, hp]
      exact ⟨rfl, rfl⟩
    | true =>
      have hT := fun k hk => tied_cn x hl (nts x x.length 0) (nts_len x x.length 0) hr x.length k 0 [] (by omega) (by simp) hA hp hk
      have hOk : okA (tieN x x.length 0 []) := by
        obtain ⟨r, _, e2, e3⟩ := hT 4000 (by omega)
        rw [← e2]; exact e3
      have hall : (tieN x x.length 0 []).all nOk = true := by
        rw [List.all_eq_true]
        intro n hn
        have := hOk n hn
        simp only [nOk, Bool.and_eq_true, decide_eq_true_eq]
        exact this
      have hlen : (tieN x x.length 0 ([] : List S72)).length ≤ 48 ∨ ¬ (tieN x x.length 0 ([] : List S72)).length ≤ 48 := Decidable.em _
      refine ⟨if (tieN x x.length 0 ([] : List S72)).length > 48 then [] else tieN x x.length 0 [], if (tieN x x.length 0 ([] : List S72)).length > 48 then 5 else 0, by split <;> first | (simp; done) | omega, fun k hk => ?_⟩
      obtain ⟨k', h1, h2⟩ := hI k (by omega)
      obtain ⟨r, e1, e2, _⟩ := hT k' (by omega)
      rw [show ((0 : Nat) : Int) = 0 from rfl] at e1
      subst e2
      have e3 : impl_Note_134.f (nts x x.length 0) = some false := by rw [impl_Note_134.f, nts_all, hp]; rfl
      have e4 : impl_tied.f k' (nts x x.length 0) = some (tieN x x.length 0 []) := e1
      have e5 : impl_checkedMelody.f (tieN x x.length 0 []) = if (tieN x x.length 0 ([] : List S72)).length > 48 then some ([], 5) else some (tieN x x.length 0 [], 0) := by rw [impl_checkedMelody.f, if_pos hall]
      rw [spec_CurveNotes.f, impl_CurveNotes.f, specCurve x hn k (by omega), implCurve x, h, Option.bind_some, Option.bind_some, if_pos rfl, if_pos rfl, hS k (by omega), h2, hp, e3]
      simp only [Option.bind_some, Bool.false_eq_true, if_false, if_true, e4, e5]
      rcases hlen with c | c
      · rw [if_neg (show ¬ (((tieN x x.length 0 ([] : List S72)).length : Int) > 48) by omega)]
        simp only [if_neg (show ¬ ((tieN x x.length 0 ([] : List S72)).length > 48) by omega), Option.bind_some, and_self]
      · rw [if_pos (show (((tieN x x.length 0 ([] : List S72)).length : Int) > 48) by omega)]
        simp only [if_pos (show ((tieN x x.length 0 ([] : List S72)).length > 48) by omega), Option.bind_some, and_self]
theorem FnExactCurveNotes : laws_FnExactCurveNotes.Pure := by
  intro l0  h0 
  obtain ⟨k, hk⟩ : ∃ k, 1200000 ≤ k := ⟨_, Nat.le_refl _⟩
  refine ⟨k + 5, ?_⟩
  rw [laws_FnExactCurveNotes.f]
  by_cases c : (l0.length : Int) > 1048576
  · rw [if_pos c]
  · have hn : l0.length ≤ 1048576 := by omega
    obtain ⟨w, cd, hw, hb⟩ := curvenotes_both l0 hn  
    have S := fun j hj => (hb j hj).1
    have I := fun j hj => (hb j hj).2
    have T := toI l0 hn
    have EN := eqI l0 (by omega)
    have MN := markI l0 (by omega)
    have E := eqN w (by omega)
    have M := markN w (by omega)
    have H := heldN w.length (by omega)
    have c1 : ¬ ((1 + (l0.length : Int)) < 0) := by omega
    have c2 : ¬ ((1 + 2 * (w.length : Int)) < 0) := by omega
    rw [if_neg c]
    rw [T (k + 5) (by omega)]
    simp only [Option.bind_some]
    rw [S (k + 5) (by omega), Option.bind_some, I (k + 5) (by omega), Option.bind_some]
    dsimp only
    rw [E (k + 5) (by omega), Option.bind_some, if_pos rfl, laws_FnExactCurveNotes.j0, if_neg (by simp), T (k + 4) (by omega), Option.bind_some, EN (k + 4) (by omega), Option.bind_some, if_pos rfl, MN (k + 4) (by omega), Option.bind_some]
    dsimp only
    rw [if_neg c1, E (k + 4) (by omega), Option.bind_some, if_pos rfl, laws_FnExactCurveNotes.j1, if_neg (by simp), M (k + 3) (by omega), Option.bind_some]
    dsimp only
    rw [H (k + 3) (by omega), Option.bind_some, if_neg c2, if_pos rfl, T (k + 3) (by omega), Option.bind_some, I (k + 3) (by omega), Option.bind_some]
    dsimp only
    rw [E (k + 3) (by omega), Option.bind_some, if_pos rfl, laws_FnExactCurveNotes.j2, if_neg (by simp), H (k + 2) (by omega), Option.bind_some, if_neg c2, if_pos rfl]


end Go.Proofs.Ytbhmalpncnkmaaa.Pure
