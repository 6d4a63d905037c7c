/- The law FnExactNumberedMelody over lists alone. No condition. -/
import Derived.Test.YtijbhcalknfijaaM5x0
import Derived.Test.YtijbhcalknfijaaM5x9
import Derived.Test.YtijbhcalknfijaaM5x11
import Derived.Test.YtijbhcalknfijaaM5x18
import Derived.Test.YtijbhcalknfijaaM5x19
import Derived.Test.YtijbhcalknfijaaArcs5
import Derived.Test.YtijbhcalknfijaaCount5
import Derived.Test.YtijbhcalknfijaaGMarks5
namespace Go.Proofs.Ytijbhcalknfijaa.Pure
open Go.RowKit Go.Proofs.Ytijbhcalknfijaa.M5 Go.Proofs.YtijbhcalknfijaaW.PrintWords Go.Proofs.YtijbhcalknfijaaW.PrintLast
def outc (cv : List Int) (st : Int) (acc : List Int) : List S67 → Int → Int × Int × List Int
  | [], n => (n, st, acc)
  | x :: m, n => if n < rd cv x.f2 then (n, x.f2, acc ++ [x.f1]) else outc cv st acc m (wrap64 (n - rd cv x.f2))
theorem outc_len (cv : List Int) (st : Int) (acc : List Int) : ∀ (m : List S67) (n : Int), (outc cv st acc m n).2.2.length ≤ acc.length + 1
  | [], n => by rw [outc]; simp
  | x :: m, n => by
    rw [outc]
    split
    · simp
    · exact outc_len cv st acc m _
def numL (s : Int) (f : List Int) (l : List S67) : Nat → Int → Int → List Int → List Int
  | 0, _, _, acc => acc
  | d + 1, n, st, acc => numL s f l d (outc (itV l s d (v0 s f)) st acc (from_ l st) n).1 (outc (itV l s d (v0 s f)) st acc (from_ l st) n).2.1 (outc (itV l s d (v0 s f)) st acc (from_ l st) n).2.2
theorem numL_len (s : Int) (f : List Int) (l : List S67) : ∀ (d : Nat) (n st : Int) (acc : List Int), (numL s f l d n st acc).length ≤ acc.length + d
  | 0, _, _, acc => by rw [numL]; omega
  | d + 1, n, st, acc => by
    rw [numL]
    have a := outc_len (itV l s d (v0 s f)) st acc (from_ l st) n
    have b := numL_len s f l d (outc (itV l s d (v0 s f)) st acc (from_ l st) n).1 (outc (itV l s d (v0 s f)) st acc (from_ l st) n).2.1 (outc (itV l s d (v0 s f)) st acc (from_ l st) n).2.2
    omega
section
variable {s t : Int} {f : List Int} {l : List S67}
theorem specN_l1 (h : okG s t f l = true) {d : Nat} (hd : d ≤ 12) {cv : List Int} (hcv : (cv.length : Int) = s) {st : Int} {acc : List Int} (hc : acc.length ≤ 1048576) {R : List Int × Int} {N : Nat} (e : Nat) : ∀ (k i : Nat) (n : Int), i + e = l.length → N + e + 1 ≤ k → (∀ k, N ≤ k → spec_NumberedMelody.l0 k (outc cv st acc (from_ (l.drop i) st) n).1 (outc cv st acc (from_ (l.drop i) st) n).2.2 (outc cv st acc (from_ (l.drop i) st) n).2.1 ((d : Int) - 1) s t f l = some R) → spec_NumberedMelody.l1 k n acc st (d : Int) cv (i : Int) s t f l = some R := by
  have hll := okG_len h
  induction e with
  | zero =>
    intro k i n hi hk g
    obtain ⟨k, rfl⟩ : ∃ k', k = k' + 1 := ⟨k - 1, by omega⟩
    rw [List.drop_eq_nil_of_le (by omega), from_, List.filter_nil, outc] at g
    rw [spec_NumberedMelody.l1, if_neg (by omega), w64 (by omega) (by omega)]
    exact g k (by omega)
  | succ e ih =>
    intro k i n hi hk g
    have hlt : i < l.length := by omega
    have hy := (okG_arc h (List.getElem_mem hlt)).2.2.2.2
    obtain ⟨k, rfl⟩ : ∃ k', k = k' + 1 := ⟨k - 1, by omega⟩
    rw [List.drop_eq_getElem_cons hlt] at g
    rw [spec_NumberedMelody.l1, if_pos (by omega), if_pos (by omega), rdA_at hlt, w64 (n := (i : Int) + 1) (by omega) (by omega), show ((i : Int) + 1) = ((i + 1 : Nat) : Int) by omega]
    by_cases c : l[i].f0 = st
    · rw [from_, List.filter_cons_of_pos (by simp [c]), outc] at g
      rw [if_pos c, if_pos (by omega), if_pos (by omega)]
      by_cases z : n < rd cv l[i].f2
      · simp only [if_pos z] at g
        rw [if_pos z, if_pos (by omega), w64 (by omega) (by omega)]
        exact g k (by omega)
      · rw [if_neg z] at g
        rw [if_neg z]
        exact ih k (i + 1) _ (by omega) (by omega) g
    · rw [from_, List.filter_cons_of_neg (by simp [c])] at g
      rw [if_neg c]
      exact ih k (i + 1) _ (by omega) (by omega) g
theorem specN (h : okG s t f l = true) (hf : f.length ≤ 1048576) (d : Nat) : ∀ (n st : Int) (acc : List Int) (k : Nat), d ≤ 12 → acc.length + d ≤ 1048576 → (l.length + 2) * d + 1100001 ≤ k → spec_NumberedMelody.l0 k n acc st ((d : Int) - 1) s t f l = some (numL s f l d n st acc, 0) := by
  have hs := okG_st h
  induction d with
  | zero =>
    intro n st acc k hd hc hk
    obtain ⟨k, rfl⟩ : ∃ k', k = k' + 1 := ⟨k - 1, by omega⟩
    rw [spec_NumberedMelody.l0, if_neg (by omega), numL]
  | succ d ih =>
    intro n st acc k hd hc hk
    rw [Nat.mul_succ] at hk
    obtain ⟨k, rfl⟩ : ∃ k', k = k' + 1 := ⟨k - 1, by omega⟩
    have hv := itV_len l s d (v0 s f) (v0_len s f)
    rw [spec_NumberedMelody.l0, if_pos (by omega), show (((d + 1 : Nat) : Int) - 1) = (d : Int) by omega, specCounts h hf d (by omega) k (by omega), Option.bind_some, numL]
    refine specN_l1 h (by omega) (by omega) (by omega) (N := (l.length + 2) * d + 1100001) l.length k 0 n (by omega) (by omega) (fun k' hk' => ?_)
    rw [List.drop_zero]
    have hl := outc_len (itV l s d (v0 s f)) st acc (from_ l st) n
    exact ih _ _ _ k' (by omega) (by omega) hk'
theorem implN_l1 {m : List S67} (hm : ∀ y ∈ m, 0 ≤ y.f2 ∧ y.f2 < s) (hml : m.length ≤ 1048576) {d : Nat} (hd : d ≤ 12) {rows : List (List Int)} (hr : d < rows.length) {cv : List Int} (hcv : (cv.length : Int) = s) (hrd : rd_L3 rows (d : Int) = cv) {st : Int} {acc : List Int} (hc : acc.length ≤ 1048576) {R : List Int × Int} {N : Nat} (e : Nat) : ∀ (k i : Nat) (n : Int), i + e = m.length → N + e + 1 ≤ k → (∀ k, N ≤ k → impl_NumberedMelody.l0 k (outc cv st acc (m.drop i) n).1 rows (outc cv st acc (m.drop i) n).2.2 (outc cv st acc (m.drop i) n).2.1 ((d : Int) - 1) s t f l = some R) → impl_NumberedMelody.l1 k n rows acc st (d : Int) m (m.length : Int) (i : Int) s t f l = some R := by
  induction e with
  | zero =>
    intro k i n hi hk g
    obtain ⟨k, rfl⟩ : ∃ k', k = k' + 1 := ⟨k - 1, by omega⟩
    rw [List.drop_eq_nil_of_le (by omega), outc] at g
    rw [impl_NumberedMelody.l1, if_neg (by omega), w64 (by omega) (by omega)]
    exact g k (by omega)
  | succ e ih =>
    intro k i n hi hk g
    have hlt : i < m.length := by omega
    have hy := hm m[i] (List.getElem_mem hlt)
    obtain ⟨k, rfl⟩ : ∃ k', k = k' + 1 := ⟨k - 1, by omega⟩
    rw [List.drop_eq_getElem_cons hlt, outc] at g
    rw [impl_NumberedMelody.l1]
    simp only [if_pos (show (i : Int) < (m.length : Int) by omega), if_pos (show (0 : Int) ≤ (i : Int) by omega)]
    rw [rdA_at hlt, w64 (n := (i : Int) + 1) (by omega) (by omega), show ((i : Int) + 1) = ((i + 1 : Nat) : Int) by omega, hrd, if_pos (by omega), if_pos (by omega), if_pos hy.1, if_pos (by omega)]
    by_cases z : n < rd cv m[i].f2
    · simp only [if_pos z] at g
      rw [if_pos z, if_pos (by omega), w64 (by omega) (by omega)]
      exact g k (by omega)
    · rw [if_neg z] at g
      rw [if_neg z]
      exact ih k (i + 1) _ (by omega) (by omega) g
theorem implN (h : okG s t f l = true) (q : Nat) (d : Nat) : ∀ (n st : Int) (acc : List Int) (k : Nat), d ≤ q → q ≤ 12 → acc.length + d ≤ 1048576 → (l.length + 2) * d + 1048579 ≤ k → impl_NumberedMelody.l0 k n (v0 s f :: itL l s q (v0 s f)) acc st ((d : Int) - 1) s t f l = some (numL s f l d n st acc, 0) := by
  have hs := okG_st h
  have hll := okG_len h
  induction d with
  | zero =>
    intro n st acc k hd hq hc hk
    obtain ⟨k, rfl⟩ : ∃ k', k = k' + 1 := ⟨k - 1, by omega⟩
    rw [impl_NumberedMelody.l0, if_neg (by omega), numL]
  | succ d ih =>
    intro n st acc k hd hq hc hk
    rw [Nat.mul_succ] at hk
    obtain ⟨k, rfl⟩ : ∃ k', k = k' + 1 := ⟨k - 1, by omega⟩
    have hv := itV_len l s d (v0 s f) (v0_len s f)
    have hfl := from_len l st
    have hlen : (v0 s f :: itL l s q (v0 s f)).length = q + 1 := by rw [List.length_cons, itL_len]
    have hrd : rd_L3 (v0 s f :: itL l s q (v0 s f)) (d : Int) = itV l s d (v0 s f) := by rw [rd_L3, Int.toNat_natCast, itL_at l s q _ d (by omega)]
    rw [impl_NumberedMelody.l0, if_pos (by omega), show (((d + 1 : Nat) : Int) - 1) = (d : Int) by omega, arcsOf s t f l st (by omega) k (by omega), Option.bind_some, numL]
    refine implN_l1 (m := from_ l st) (fun y hy => by have := okG_arc h (List.mem_filter.1 hy).1; omega) (by omega) (by omega) (by omega) (by omega) hrd (by omega) (N := (l.length + 2) * d + 1048579) (from_ l st).length k 0 n (by omega) (by omega) (fun k' hk' => ?_)
    rw [List.drop_zero]
    have hl := outc_len (itV l s d (v0 s f)) st acc (from_ l st) n
    exact ih _ _ _ k' (by omega) hq (by omega) hk'
end
def nmN (s t : Int) (f : List Int) (l : List S67) (a b : Int) : List Int × Int :=
  if okG s t f l = true then (if inB a 0 12 = true then (if inB b 0 (wrap64 (rd (itV l s a.toNat (v0 s f)) t - 1)) = true then (numL s f l a.toNat b t [], 0) else ([], 2)) else ([], 2)) else ([], 1)
theorem nm_both (s t : Int) (f : List Int) (l : List S67) (a b : Int) (hn : l.length ≤ 1048576) (hf : f.length ≤ 1048576) (k : Nat) (hk : 2200000 ≤ k) : spec_NumberedMelody.f (k + 1) s t f l a b = some (nmN s t f l a b) ∧ impl_NumberedMelody.f (k + 1) s t f l a b = some (nmN s t f l a b) := by
  rw [spec_NumberedMelody.f, impl_NumberedMelody.f, specOkG s t f l hf hn (k + 1) (by omega), implOkG s t f l hf hn (k + 1) (by omega), Option.bind_some, Option.bind_some]
  unfold nmN
  by_cases h : okG s t f l = true
  · have hs := okG_st h
    have hll := okG_len h
    rw [if_pos h, if_pos h, if_pos h, spec_l07Long.f, specIn, implIn, Option.bind_some, Option.bind_some, Option.bind_some]
    by_cases c : inB a 0 12 = true
    · have hc := inB_true.1 c
      obtain ⟨m, rfl⟩ := Int.eq_ofNat_of_zero_le hc.1
      have hl := itV_len l s m (v0 s f) (v0_len s f)
      have hlen : (v0 s f :: itL l s m (v0 s f)).length = m + 1 := by rw [List.length_cons, itL_len]
      have hrd : rd_L3 (v0 s f :: itL l s m (v0 s f)) (m : Int) = itV l s m (v0 s f) := by rw [rd_L3, Int.toNat_natCast, itL_at l s m _ m (Nat.le_refl _)]
      have hb : (l.length + 2) * m ≤ 258 * 12 := Nat.mul_le_mul (by omega) (by omega)
      rw [if_pos c, if_pos c, if_pos c, specCounts h hf m (by omega) (k + 1) (by omega), implCounts h hf m (by omega) (k + 1) (by omega), Option.bind_some, Option.bind_some, Int.toNat_natCast, hrd]
      simp only [if_pos hs.2.2.1, if_pos (show t < ((itV l s m (v0 s f)).length : Int) by omega), if_pos (show (0 : Int) ≤ (m : Int) by omega), if_pos (show (m : Int) < ((v0 s f :: itL l s m (v0 s f)).length : Int) by omega)]
      rw [specIn, implIn, Option.bind_some, Option.bind_some]
      by_cases z : inB b 0 (wrap64 (rd (itV l s m (v0 s f)) t - 1)) = true
      · rw [if_pos z, if_pos z, z, spec_NumberedMelody.j0, if_neg (by decide), if_pos (by omega), w64 (n := (m : Int) - 1) (by omega) (by omega)]
        exact ⟨specN h hf m b t [] k (by omega) (by simp; omega) (by omega), implN h m m b t [] (k + 1) (by omega) (by omega) (by simp; omega) (by omega)⟩
      · rw [if_neg z, if_neg z]
        rw [Bool.not_eq_true] at z
        rw [z, spec_NumberedMelody.j0, if_pos (by decide)]
        exact ⟨rfl, rfl⟩
    · rw [if_neg c, if_neg c, if_neg c, spec_NumberedMelody.j0, if_pos rfl]
      exact ⟨rfl, rfl⟩
  · rw [if_neg h, if_neg h, if_neg h]
    exact ⟨rfl, rfl⟩
theorem nm_len (s t : Int) (f : List Int) (l : List S67) (a b : Int) : (nmN s t f l a b).1.length ≤ 1048576 := by
  unfold nmN
  by_cases h : okG s t f l = true
  · rw [if_pos h]
    by_cases c : inB a 0 12 = true
    · have hc := inB_true.1 c
      have := numL_len s f l a.toNat b t []
      rw [if_pos c]
      split
      · simp only [List.length_nil] at this
        simp only
        omega
      · simp
    · rw [if_neg c]; simp
  · rw [if_neg h]; simp
theorem FnExactNumberedMelody : laws_FnExactNumberedMelody.Pure := by
  intro s t f l a b h0 h1 hf hl _ _
  obtain ⟨k, hk⟩ : ∃ k, 2300000 ≤ k := ⟨_, Nat.le_refl _⟩
  refine ⟨k + 5, ?_⟩
  rw [laws_FnExactNumberedMelody.f, szG s t f l _ hf.1 hl.1 (by omega) (by omega), Option.bind_some]
  by_cases c : (1048576 : Int) - f.length - l.length < 0
  · simp [c]
  · have hn : l.length ≤ 1048576 := by omega
    have hm : f.length ≤ 1048576 := by omega
    have hn' : (l.map cvA).length ≤ 1048576 := by simpa using hn
    have T := toG s t f l hm hn
    have S := fun j hj => (nm_both s t f (l.map cvA) a b hn' hm j hj).1
    have I := fun j hj => (nm_both s t f (l.map cvA) a b hn' hm j hj).2
    have EG := eqG s t f (l.map cvA) hm hn'
    obtain ⟨mm, my, MG⟩ := markG s t f (l.map cvA) hm hn'
    have wl := nm_len s t f (l.map cvA) a b
    rw [if_neg c, if_neg c]
    generalize nmN s t f (l.map cvA) a b = W at *
    obtain ⟨w, w2⟩ := W
    simp only at wl
    generalize l.map cvA = m at *
    have E := eqI w (by omega)
    have M := markI w (by omega)
    have H := heldI w.length (by omega)
    have c1 : ¬ ((1 + (f.length : Int) + 3 * (m.length : Int)) < 0) := by omega
    have c2 : ¬ ((1 + (w.length : Int)) < 0) := by omega
    rw [T _ (by omega), Option.bind_some]
    dsimp only
    rw [S _ (by omega), Option.bind_some, Option.bind_some]
    dsimp only
    rw [I _ (by omega), Option.bind_some]
    dsimp only
    rw [E _ (by omega), Option.bind_some, if_pos rfl, bne_self_eq_false, laws_FnExactNumberedMelody.j0, if_neg (by decide), T _ (by omega), Option.bind_some]
    dsimp only
    rw [EG _ (by omega), Option.bind_some, if_pos rfl, MG _ (by omega), Option.bind_some]
    dsimp only
    rw [if_neg c1, E _ (by omega), Option.bind_some, if_pos rfl, bne_self_eq_false, laws_FnExactNumberedMelody.j1, if_neg (by decide), M _ (by omega), Option.bind_some]
    dsimp only
    rw [H _ (by omega), Option.bind_some, if_neg c2, if_pos rfl, T _ (by omega), Option.bind_some]
    dsimp only
    rw [I _ (by omega), Option.bind_some]
    dsimp only
    rw [E _ (by omega), Option.bind_some, if_pos rfl, bne_self_eq_false, laws_FnExactNumberedMelody.j2, if_neg (by decide), H _ (by omega), Option.bind_some, if_neg c2, if_pos rfl]


end Go.Proofs.Ytijbhcalknfijaa.Pure
