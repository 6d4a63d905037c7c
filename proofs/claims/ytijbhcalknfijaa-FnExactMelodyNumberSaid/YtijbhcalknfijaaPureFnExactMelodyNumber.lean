/- The law FnExactMelodyNumber over lists alone. No condition. -/
import Derived.Test.YtijbhcalknfijaaM2x0
import Derived.Test.YtijbhcalknfijaaM2x8
import Derived.Test.YtijbhcalknfijaaM2x20
import Derived.Test.YtijbhcalknfijaaM2x21
import Derived.Test.YtijbhcalknfijaaM2x24
import Derived.Test.YtijbhcalknfijaaM2x25
import Derived.Test.YtijbhcalknfijaaM2x26
import Derived.Test.YtijbhcalknfijaaRun2
import Derived.Test.YtijbhcalknfijaaCount2
import Derived.Test.YtijbhcalknfijaaTo2
namespace Go.Proofs.Ytijbhcalknfijaa.Pure
open Go.RowKit Go.Proofs.Ytijbhcalknfijaa.M2 Go.Proofs.YtijbhcalknfijaaW.PrintWords Go.Proofs.YtijbhcalknfijaaW.PrintLast
theorem ord_trans {a b c : S67} (h : ordA a b = true) (g : ordA b c = true) : ordA a c = true := by
  simp only [ordA, decide_eq_true_eq] at h g ⊢
  omega
section
variable {s t : Int} {f : List Int} {l : List S67}
theorem okG_adj (h : okG s t f l = true) (j : Nat) (hj : j + 1 < l.length) : ordA l[j] l[j + 1] = true := by
  have go : ∀ (d i : Nat), i + d = l.length → arcsB s l d i = true → ∀ q, i ≤ q → q < l.length → (decide (q = 0) || ordA (rd_T67 l ((q : Int) - 1)) (rd_T67 l (q : Int))) = true := by
    intro d
    induction d with
    | zero => intro i h1 _ q h2 h3; omega
    | succ d ih =>
      intro i h1 h2 q h3 h4
      rw [arcsB, Bool.and_eq_true, Bool.and_eq_true] at h2
      by_cases c : q = i
      · rw [c]; exact h2.1.2
      · exact ih (i + 1) (by omega) h2.2 q (by omega) h4
  simp only [okG, Bool.and_eq_true] at h
  have := go l.length 0 (by omega) h.2 (j + 1) (by omega) hj
  rw [show (((j + 1 : Nat) : Int) - 1) = (j : Int) by omega, rdA_at hj, rdA_at (show j < l.length by omega)] at this
  simpa using this
theorem okG_lt (h : okG s t f l = true) (j e : Nat) : ∀ (hj : j + e + 1 < l.length), ordA l[j] l[j + e + 1] = true := by
  induction e with
  | zero => intro hj; exact okG_adj h j hj
  | succ e ih => intro hj; exact ord_trans (ih (by omega)) (okG_adj h (j + e + 1) hj)
theorem okG_pair (h : okG s t f l = true) : l.Pairwise (fun a b => ordA a b = true) := by
  rw [List.pairwise_iff_getElem]
  intro i j hi hj hij
  obtain ⟨e, rfl⟩ : ∃ e, j = i + e + 1 := ⟨j - i - 1, by omega⟩
  exact okG_lt h i e hj
end
theorem from_pair (st : Int) : ∀ l : List S67, l.Pairwise (fun a b => ordA a b = true) → (from_ l st).Pairwise (fun a b => a.f1 < b.f1)
  | [], _ => by simp [from_]
  | a :: l, h => by
    rw [List.pairwise_cons] at h
    have ih := from_pair st l h.2
    by_cases c : a.f0 = st
    · rw [from_, List.filter_cons_of_pos (by simp [c]), List.pairwise_cons]
      refine ⟨fun b hb => ?_, ih⟩
      have hb' := List.mem_filter.1 hb
      have ho := h.1 b hb'.1
      have hz := hb'.2
      simp only [beq_iff_eq] at hz
      simp only [ordA, decide_eq_true_eq] at ho
      omega
    · rw [from_, List.filter_cons_of_neg (by simp [c])]
      exact ih
def adS (cv : List Int) (q : Int) : List S67 → Int → Int
  | [], a => a
  | x :: m, a => adS cv q m (if x.f1 < q then wrap64 (a + rd cv x.f2) else a)
theorem adS_none (cv : List Int) (q : Int) : ∀ (m : List S67) (a : Int), (∀ x ∈ m, ¬ x.f1 < q) → adS cv q m a = a
  | [], a, _ => rfl
  | x :: m, a, h => by
    rw [adS, if_neg (h x (List.mem_cons_self ..))]
    exact adS_none cv q m a (fun y hy => h y (List.mem_cons_of_mem _ hy))
theorem stepT_ex (q : Int) : ∀ m : List S67, ¬ stepT q m < 0 → ∃ x ∈ m, x.f1 = q
  | [], h => by simp [stepT] at h
  | x :: m, h => by
    rw [stepT] at h
    by_cases c : x.f1 = q
    · exact ⟨x, List.mem_cons_self .., c⟩
    · rw [if_neg c] at h
      obtain ⟨y, hy, e⟩ := stepT_ex q m h
      exact ⟨y, List.mem_cons_of_mem _ hy, e⟩
def numM (s : Int) (f : List Int) (l : List S67) (p : List Int) : Nat → Nat → Int → Int → Int
  | 0, _, _, a => a
  | d + 1, i, st, a => numM s f l p d (i + 1) (stepL st (rd p (i : Int)) l) (adS (itV l s d (v0 s f)) (rd p (i : Int)) (from_ l st) a)
section
variable {s t : Int} {f : List Int} {l : List S67}
theorem specM_l1 (h : okG s t f l = true) {p : List Int} {j : Nat} (hj : j < p.length) (hp : p.length ≤ 12) {cv : List Int} (hcv : (cv.length : Int) = s) {st : Int} {R : Int × Int} {N : Nat} (hN : 1048577 ≤ N) (d : Nat) : ∀ (k i : Nat) (acc : Int), i + d = l.length → N + d + 1 ≤ k → (∀ k, N ≤ k → spec_MelodyNumber.l0 k p (adS cv (rd p (j : Int)) (from_ (l.drop i) st) acc) (stepL st (rd p (j : Int)) l) ((j + 1 : Nat) : Int) s t f l = some R) → spec_MelodyNumber.l1 k p acc st (j : Int) cv (i : Int) s t f l = some R := by
  have hll := okG_len h
  induction d with
  | zero =>
    intro k i acc hi hk g
    obtain ⟨k, rfl⟩ : ∃ k', k = k' + 1 := ⟨k - 1, by omega⟩
    rw [List.drop_eq_nil_of_le (by omega), from_, List.filter_nil, adS] at g
    rw [spec_MelodyNumber.l1, if_neg (by omega), if_pos (by omega), if_pos (by omega), specStep s t f l st _ (by omega) k (by omega), Option.bind_some, w64 (by omega) (by omega), show ((j : Int) + 1) = ((j + 1 : Nat) : Int) by omega]
    exact g k (by omega)
  | succ d ih =>
    intro k i acc hi hk g
    have hlt : i < l.length := by omega
    have hy := (okG_arc h (List.getElem_mem hlt)).2.2.2.2
    obtain ⟨k, rfl⟩ : ∃ k', k = k' + 1 := ⟨k - 1, by omega⟩
    rw [List.drop_eq_getElem_cons hlt] at g
    rw [spec_MelodyNumber.l1, if_pos (by omega), if_pos (by omega), rdA_at hlt, w64 (n := (i : Int) + 1) (by omega) (by omega), show ((i : Int) + 1) = ((i + 1 : Nat) : Int) by omega]
    by_cases c : l[i].f0 = st
    · rw [from_, List.filter_cons_of_pos (by simp [c]), adS] at g
      rw [if_pos c, if_pos (by omega), if_pos (by omega)]
      by_cases z : l[i].f1 < rd p (j : Int)
      · rw [if_pos z] at g
        rw [if_pos z, if_pos (by omega), if_pos (by omega)]
        exact ih k (i + 1) _ (by omega) (by omega) g
      · rw [if_neg z] at g
        rw [if_neg z]
        exact ih k (i + 1) _ (by omega) (by omega) g
    · rw [from_, List.filter_cons_of_neg (by simp [c])] at g
      rw [if_neg c]
      exact ih k (i + 1) _ (by omega) (by omega) g
theorem specM (h : okG s t f l = true) (hf : f.length ≤ 1048576) {p : List Int} (hp : p.length ≤ 12) (d : Nat) : ∀ (i : Nat) (st acc : Int) (k : Nat), i + d = p.length → (l.length + 2) * d + 1100001 ≤ k → spec_MelodyNumber.l0 k p acc st (i : Int) s t f l = some (numM s f l p d i st acc, 0) := by
  have hs := okG_st h
  induction d with
  | zero =>
    intro i st acc k hi hk
    obtain ⟨k, rfl⟩ : ∃ k', k = k' + 1 := ⟨k - 1, by omega⟩
    rw [spec_MelodyNumber.l0, if_neg (by omega), numM]
  | succ d ih =>
    intro i st acc k hi hk
    rw [Nat.mul_succ] at hk
    obtain ⟨k, rfl⟩ : ∃ k', k = k' + 1 := ⟨k - 1, by omega⟩
    have hv := itV_len l s d (v0 s f) (v0_len s f)
    rw [spec_MelodyNumber.l0, if_pos (by omega), w64 (n := (p.length : Int) - (i : Int)) (by omega) (by omega), w64 (by omega) (by omega), show ((p.length : Int) - (i : Int) - 1) = (d : Int) by omega, specCounts h hf d (by omega) k (by omega), Option.bind_some, numM]
    refine specM_l1 h (by omega) hp (by omega) (N := (l.length + 2) * d + 1100001) (by omega) l.length k 0 acc (by omega) (by omega) (fun k' hk' => ?_)
    rw [List.drop_zero]
    exact ih (i + 1) _ _ k' (by omega) hk'
theorem implM_l1 {m : List S67} (hm : ∀ y ∈ m, 0 ≤ y.f2 ∧ y.f2 < s) (hml : m.length ≤ 1048576) {p : List Int} {j e : Nat} (hj : j + e + 1 = p.length) (hp : p.length ≤ 12) {rows : List (List Int)} (hr : (rows.length : Int) = p.length + 1) {cv : List Int} (hcv : (cv.length : Int) = s) (hrd : rd_L3 rows (e : Int) = cv) {st : Int} {R : Int × Int} {N : Nat} (d : Nat) : ∀ (k i : Nat) (acc : Int), i + d = m.length → N + d + 1 ≤ k → (m.drop i).Pairwise (fun a b => a.f1 < b.f1) → (∃ x ∈ m.drop i, x.f1 = rd p (j : Int)) → (∀ k, N ≤ k → impl_MelodyNumber.l0 k (p.length : Int) rows (stepT (rd p (j : Int)) (m.drop i)) (adS cv (rd p (j : Int)) (m.drop i) acc) p (p.length : Int) ((j + 1 : Nat) : Int) s t f l = some R) → impl_MelodyNumber.l1 k (p.length : Int) rows st acc (j : Int) (rd p (j : Int)) p (p.length : Int) (j : Int) m (m.length : Int) (i : Int) s t f l = some R := by
  induction d with
  | zero =>
    intro k i acc hi hk _ hx _
    rw [List.drop_eq_nil_of_le (by omega)] at hx
    obtain ⟨x, hx, _⟩ := hx
    simp at hx
  | succ d ih =>
    intro k i acc hi hk hs hx g
    have hlt : i < m.length := by omega
    have hy := hm m[i] (List.getElem_mem hlt)
    obtain ⟨k, rfl⟩ : ∃ k', k = k' + 1 := ⟨k - 1, by omega⟩
    rw [List.drop_eq_getElem_cons hlt] at hs hx g
    rw [List.pairwise_cons] at hs
    rw [impl_MelodyNumber.l1]
    simp only [if_pos (show (i : Int) < (m.length : Int) by omega), if_pos (show (0 : Int) ≤ (i : Int) by omega)]
    rw [rdA_at hlt, w64 (n := (i : Int) + 1) (by omega) (by omega), show ((i : Int) + 1) = ((i + 1 : Nat) : Int) by omega, w64 (n := (j : Int) + 1) (by omega) (by omega), show ((j : Int) + 1) = ((j + 1 : Nat) : Int) by omega, w64 (n := (p.length : Int) - (j : Int)) (by omega) (by omega), w64 (n := (p.length : Int) - (j : Int) - 1) (by omega) (by omega), show ((p.length : Int) - (j : Int) - 1) = (e : Int) by omega, hrd]
    by_cases c : m[i].f1 = rd p (j : Int)
    · rw [stepT, if_pos c, adS, if_neg (by omega), adS_none _ _ _ _ (fun y hy => by have := hs.1 y hy; omega)] at g
      rw [if_pos c]
      exact g k (by omega)
    · obtain ⟨x, hx, e1⟩ := hx
      rcases List.mem_cons.1 hx with e2 | e2
      · rw [e2] at e1; exact absurd e1 c
      · have hlt2 := hs.1 x e2
        rw [stepT, if_neg c, adS, if_pos (by omega)] at g
        rw [if_neg c, if_pos (by omega), if_pos (by omega), if_pos hy.1, if_pos (by omega)]
        exact ih k (i + 1) _ (by omega) (by omega) hs.2 ⟨x, e2, e1⟩ g
theorem implM (h : okG s t f l = true) {p : List Int} (hp : p.length ≤ 12) (d : Nat) : ∀ (i : Nat) (st acc : Int) (k : Nat), i + d = p.length → (runL l p d i st).2 = (p.length : Int) → (l.length + 2) * d + 1048579 ≤ k → impl_MelodyNumber.l0 k (p.length : Int) (v0 s f :: itL l s p.length (v0 s f)) st acc p (p.length : Int) (i : Int) s t f l = some (numM s f l p d i st acc, 0) := by
  have hs := okG_st h
  have hll := okG_len h
  induction d with
  | zero =>
    intro i st acc k hi hr hk
    obtain ⟨k, rfl⟩ : ∃ k', k = k' + 1 := ⟨k - 1, by omega⟩
    rw [impl_MelodyNumber.l0, if_neg (by omega), numM]
  | succ d ih =>
    intro i st acc k hi hr hk
    rw [Nat.mul_succ] at hk
    obtain ⟨k, rfl⟩ : ∃ k', k = k' + 1 := ⟨k - 1, by omega⟩
    rw [runL] at hr
    by_cases c : stepL st (rd p (i : Int)) l < 0
    · rw [if_pos c] at hr
      simp only at hr
      omega
    · rw [if_neg c] at hr
      have hv := itV_len l s d (v0 s f) (v0_len s f)
      have hfl := from_len l st
      have hlen : (v0 s f :: itL l s p.length (v0 s f)).length = p.length + 1 := by rw [List.length_cons, itL_len]
      have hrd : rd_L3 (v0 s f :: itL l s p.length (v0 s f)) (d : Int) = itV l s d (v0 s f) := by rw [rd_L3, Int.toNat_natCast, itL_at l s p.length _ d (by omega)]
      rw [impl_MelodyNumber.l0]
      simp only [if_pos (show (i : Int) < (p.length : Int) by omega), if_pos (show (0 : Int) ≤ (i : Int) by omega)]
      rw [arcsOf s t f l st (by omega) k (by omega), Option.bind_some, numM]
      rw [step_from] at c
      refine implM_l1 (m := from_ l st) (fun y hy => by have := okG_arc h (List.mem_filter.1 hy).1; omega) (by omega) (e := d) (by omega) hp (by omega) (by omega) hrd (N := (l.length + 2) * d + 1048579) (from_ l st).length k 0 acc (by omega) (by omega) (by rw [List.drop_zero]; exact from_pair st l (okG_pair h)) (by rw [List.drop_zero]; exact stepT_ex _ _ c) (fun k' hk' => ?_)
      rw [List.drop_zero, ← step_from]
      exact ih (i + 1) _ _ k' (by omega) hr hk'
end
def accB (t : Int) (f : List Int) (l : List S67) (p : List Int) : Bool := decide ((runG l t p).2 = (p.length : Int)) && hasL f (runG l t p).1
theorem specAccepts (s t : Int) (f : List Int) (l : List S67) (p : List Int) (hn : l.length ≤ 1048576) (hf : f.length ≤ 1048576) (hp : p.length ≤ 1048576) (k : Nat) (hk : 2200000 ≤ k) : spec_l07Accepts.f k s t f l p = some (accB t f l p) := by
  rw [spec_l07Accepts.f, specRun s t f l p hn hp k hk, Option.bind_some]
  unfold accB
  by_cases c : (runG l t p).2 = (p.length : Int)
  · rw [if_pos c, specHas f _ hf k (by omega), Option.bind_some, decide_eq_true c, Bool.true_and]
  · rw [if_neg c, decide_eq_false c, Bool.false_and]
theorem implAccepts {s t : Int} {f : List Int} {l : List S67} (h : okG s t f l = true) (p : List Int) (hn : l.length ≤ 1048576) (hf : f.length ≤ 1048576) (hp : p.length ≤ 1048576) (k : Nat) (hk : 2200000 ≤ k) : impl_Accepts.f k s t f l p = some (accB t f l p) := by
  rw [impl_Accepts.f, implOkG s t f l hf hn k hk, Option.bind_some, if_pos h, implRun h p hn hp k hk, Option.bind_some]
  unfold accB
  by_cases c : (runG l t p).2 = (p.length : Int)
  · rw [if_pos c, implHas s t f l _ hf k (by omega), Option.bind_some, decide_eq_true c, Bool.true_and]
  · rw [if_neg c, decide_eq_false c, Bool.false_and]
def mnN (s t : Int) (f : List Int) (l : List S67) (p : List Int) : Int × Int :=
  if okG s t f l = true then (if (p.length : Int) > 12 then (0, 2) else (if accB t f l p = true then (numM s f l p p.length 0 t 0, 0) else (0, 3))) else (0, 1)
theorem mn_both (s t : Int) (f : List Int) (l : List S67) (p : List Int) (hn : l.length ≤ 1048576) (hf : f.length ≤ 1048576) (hp : p.length ≤ 1048576) (k : Nat) (hk : 2200000 ≤ k) : spec_MelodyNumber.f k s t f l p = some (mnN s t f l p) ∧ impl_MelodyNumber.f k s t f l p = some (mnN s t f l p) := by
  rw [spec_MelodyNumber.f, impl_MelodyNumber.f, specOkG s t f l hf hn k hk, implOkG s t f l hf hn k hk, Option.bind_some, Option.bind_some]
  unfold mnN
  by_cases h : okG s t f l = true
  · have hs := okG_st h
    have hll := okG_len h
    rw [if_pos h, if_pos h, if_pos h, spec_l07Long.f, specIn, Option.bind_some, Option.bind_some]
    by_cases c : (p.length : Int) > 12
    · rw [inB_false.2 (by omega), if_neg (by decide), if_pos c, if_pos c]
      exact ⟨rfl, rfl⟩
    · rw [inB_true.2 (by omega), if_pos rfl, if_neg c, if_neg c, specAccepts s t f l p hn hf hp k hk, implAccepts h p hn hf hp k hk, Option.bind_some, Option.bind_some]
      by_cases z : accB t f l p = true
      · have hb : (l.length + 2) * p.length ≤ 258 * 12 := Nat.mul_le_mul (by omega) (by omega)
        have hr : (runL l p p.length 0 t).2 = (p.length : Int) := by
          unfold accB runG at z
          rw [Bool.and_eq_true, decide_eq_true_eq] at z
          exact z.1
        rw [if_pos z, if_pos z, if_pos z, implCounts h hf p.length (by omega) k (by omega), Option.bind_some]
        exact ⟨specM h hf (by omega) p.length 0 t 0 k (by omega) (by omega), implM h (by omega) p.length 0 t 0 k (by omega) hr (by omega)⟩
      · rw [if_neg z, if_neg z, if_neg z]
        exact ⟨rfl, rfl⟩
  · rw [if_neg h, if_neg h, if_neg h]
    exact ⟨rfl, rfl⟩
theorem FnExactMelodyNumber : laws_FnExactMelodyNumber.Pure := by
  intro s t f l p h0 h1 hf hl hp0
  obtain ⟨k, hk⟩ : ∃ k, 2300000 ≤ k := ⟨_, Nat.le_refl _⟩
  refine ⟨k + 5, ?_⟩
  rw [laws_FnExactMelodyNumber.f]
  by_cases cp : (p.length : Int) > 1048576
  · rw [if_pos cp]
  · rw [if_neg cp, szG s t f l _ hf.1 hl.1 (by omega) (by omega), Option.bind_some]
    by_cases c : (1048576 : Int) - f.length - l.length < 0
    · simp [c]
    · have hn : l.length ≤ 1048576 := by omega
      have hm : f.length ≤ 1048576 := by omega
      have hp : p.length ≤ 1048576 := by omega
      have hn' : (l.map cvA).length ≤ 1048576 := by simpa using hn
      have T := toG s t f l hm hn
      have TP := toI p hp
      have S := fun j hj => (mn_both s t f (l.map cvA) p hn' hm hp j hj).1
      have I := fun j hj => (mn_both s t f (l.map cvA) p hn' hm hp j hj).2
      have EG := eqG s t f (l.map cvA) hm hn'
      have EP := eqI p (by omega)
      rw [if_neg c, if_neg c]
      generalize mnN s t f (l.map cvA) p = W at *
      obtain ⟨w0, w1⟩ := W
      generalize l.map cvA = m at *
      rw [T _ (by omega), Option.bind_some, TP _ (by omega), Option.bind_some]
      dsimp only
      rw [S _ (by omega), Option.bind_some, Option.bind_some, Option.bind_some]
      dsimp only
      rw [I _ (by omega), Option.bind_some]
      dsimp only
      rw [if_pos rfl, bne_self_eq_false, laws_FnExactMelodyNumber.j0, if_neg (by decide), T _ (by omega), Option.bind_some]
      dsimp only
      rw [EG _ (by omega), Option.bind_some, if_pos rfl, TP _ (by omega), Option.bind_some, EP _ (by omega), Option.bind_some, if_pos rfl]

end Go.Proofs.Ytijbhcalknfijaa.Pure
