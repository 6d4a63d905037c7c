/- How many ways of a length lead to a final state: the reference's row and the program's rows are one. No condition. -/
import Derived.Test.YtijbhcalknfijaaM5x0
import Derived.Test.YtijbhcalknfijaaM5x10
import Derived.Test.YtijbhcalknfijaaM5x16
import Derived.Test.YtijbhcalknfijaaOkG5
namespace Go.Proofs.Ytijbhcalknfijaa.Pure
open Go.RowKit Go.Proofs.Ytijbhcalknfijaa.M5 Go.Proofs.YtijbhcalknfijaaW.PrintWords Go.Proofs.YtijbhcalknfijaaW.PrintLast
def initV : List Int → List Int → List Int
  | [], v => v
  | x :: f, v => initV f (v.set x.toNat 1)
def nextV (old : List Int) : List S67 → List Int → List Int
  | [], v => v
  | x :: l, v => nextV old l (v.set x.f0.toNat (wrap64 (rd v x.f0 + rd old x.f2)))
theorem initV_len : ∀ (f v : List Int), (initV f v).length = v.length
  | [], v => rfl
  | x :: f, v => by rw [initV, initV_len f, List.length_set]
theorem nextV_len (old : List Int) : ∀ (l : List S67) (v : List Int), (nextV old l v).length = v.length
  | [], v => rfl
  | x :: l, v => by rw [nextV, nextV_len old l, List.length_set]
def stV (l : List S67) (s : Int) (v : List Int) : List Int := nextV v l (List.replicate s.toNat 0)
def itV (l : List S67) (s : Int) : Nat → List Int → List Int
  | 0, v => v
  | d + 1, v => itV l s d (stV l s v)
def itL (l : List S67) (s : Int) : Nat → List Int → List (List Int)
  | 0, _ => []
  | d + 1, v => stV l s v :: itL l s d (stV l s v)
theorem stV_len (l : List S67) (s : Int) (v : List Int) : (stV l s v).length = s.toNat := by rw [stV, nextV_len, List.length_replicate]
theorem itV_len (l : List S67) (s : Int) (d : Nat) : ∀ v : List Int, v.length = s.toNat → (itV l s d v).length = s.toNat := by
  induction d with
  | zero => intro v h; exact h
  | succ d ih => intro v _; exact ih _ (stV_len l s v)
theorem itL_at (l : List S67) (s : Int) (d : Nat) : ∀ (v : List Int) (j : Nat), j ≤ d → (v :: itL l s d v).getD j [] = itV l s j v := by
  induction d with
  | zero =>
    intro v j h
    obtain rfl : j = 0 := by omega
    rfl
  | succ d ih =>
    intro v j h
    cases j with
    | zero => rfl
    | succ j => rw [List.getD_cons_succ, itL, ih (stV l s v) j (by omega), itV]
theorem itL_len (l : List S67) (s : Int) (d : Nat) : ∀ v : List Int, (itL l s d v).length = d := by
  induction d with
  | zero => intro v; rfl
  | succ d ih => intro v; rw [itL, List.length_cons, ih]
section
variable {s t : Int} {f : List Int} {l : List S67}
theorem specC_l0 (h : okG s t f l = true) (hf : f.length ≤ 1048576) (n : Int) (d : Nat) : ∀ (k i : Nat) (v : List Int), i + d = f.length → v.length = s.toNat → spec_l07Counts.l0 (k + d + 1) n v (i : Int) s t f l = spec_l07Counts.l1 k n (initV (f.drop i) v) 0 s t f l := by
  have hs := okG_st h
  induction d with
  | zero =>
    intro k i v hi hv
    rw [Nat.add_zero, spec_l07Counts.l0, if_neg (by omega), List.drop_eq_nil_of_le (by omega), initV]
  | succ d ih =>
    intro k i v hi hv
    have hlt : i < f.length := by omega
    have hx := okG_fin h (List.getElem_mem hlt)
    rw [show k + (d + 1) + 1 = (k + d + 1) + 1 by omega, spec_l07Counts.l0, if_pos (by omega), if_pos (by omega), rd_at hlt, if_pos (by omega), if_pos (by omega), w64 (by omega) (by omega), show ((i : Int) + 1) = ((i + 1 : Nat) : Int) by omega, ih k (i + 1) _ (by omega) (by simpa using hv), List.drop_eq_getElem_cons hlt, initV]
theorem specC_l2 (h : okG s t f l = true) (n : Int) (old : List Int) (ho : old.length = s.toNat) (j : Int) (d : Nat) : ∀ (k i : Nat) (v : List Int), i + d = l.length → v.length = s.toNat → spec_l07Counts.l2 (k + d + 1) n old j v (i : Int) s t f l = spec_l07Counts.l1 k n (nextV old (l.drop i) v) (wrap64 (j + 1)) s t f l := by
  have hs := okG_st h
  have hl := okG_len h
  induction d with
  | zero =>
    intro k i v hi hv
    rw [Nat.add_zero, spec_l07Counts.l2, if_neg (by omega), List.drop_eq_nil_of_le (by omega), nextV]
  | succ d ih =>
    intro k i v hi hv
    have hlt : i < l.length := by omega
    have hx := okG_arc h (List.getElem_mem hlt)
    rw [show k + (d + 1) + 1 = (k + d + 1) + 1 by omega, spec_l07Counts.l2, if_pos (by omega), if_pos (by omega), rdA_at hlt, if_pos (by omega), if_pos (by omega), if_pos (by omega), if_pos (by omega), w64 (n := (i : Int) + 1) (by omega) (by omega), show ((i : Int) + 1) = ((i + 1 : Nat) : Int) by omega, ih k (i + 1) _ (by omega) (by simpa using hv), List.drop_eq_getElem_cons hlt, nextV]
theorem specC_l1 (h : okG s t f l = true) (n : Int) (hn : 0 ≤ n ∧ n ≤ 12) (d : Nat) : ∀ (k j : Nat) (v : List Int), (j : Int) + d = n → v.length = s.toNat → spec_l07Counts.l1 (k + (l.length + 2) * d + 1) n v (j : Int) s t f l = some (itV l s d v) := by
  have hs := okG_st h
  induction d with
  | zero =>
    intro k j v hi hv
    rw [Nat.mul_zero, Nat.add_zero, spec_l07Counts.l1, if_neg (by omega), itV]
  | succ d ih =>
    intro k j v hi hv
    rw [Nat.mul_succ, show k + ((l.length + 2) * d + (l.length + 2)) + 1 = (k + (l.length + 2) * d + 1 + l.length + 1) + 1 by omega, spec_l07Counts.l1, if_pos (by omega), if_pos (by omega), if_pos (by omega)]
    have e := specC_l2 h n v hv (j : Int) l.length (k + (l.length + 2) * d + 1) 0 (List.replicate s.toNat 0) (by omega) (by simp)
    rw [List.drop_zero] at e
    rw [show spec_l07Counts.l2 (k + (l.length + 2) * d + 1 + l.length + 1) n v (j : Int) (List.replicate s.toNat 0) 0 s t f l = _ from e, w64 (by omega) (by omega), show ((j : Int) + 1) = ((j + 1 : Nat) : Int) by omega]
    exact ih k (j + 1) _ (by omega) (stV_len l s v)
theorem implC_l0 (h : okG s t f l = true) (hf : f.length ≤ 1048576) (n : Int) (d : Nat) : ∀ (k i : Nat) (v : List Int), i + d = f.length → v.length = s.toNat → impl_Grammar_counts.l0 (k + d + 1) n v f (f.length : Int) (i : Int) s t f l = impl_Grammar_counts.l1 k [initV (f.drop i) v] n 0 s t f l := by
  have hs := okG_st h
  induction d with
  | zero =>
    intro k i v hi hv
    rw [Nat.add_zero, impl_Grammar_counts.l0, if_neg (by omega), List.drop_eq_nil_of_le (by omega), initV]
  | succ d ih =>
    intro k i v hi hv
    have hlt : i < f.length := by omega
    have hx := okG_fin h (List.getElem_mem hlt)
    rw [show k + (d + 1) + 1 = (k + d + 1) + 1 by omega, impl_Grammar_counts.l0]
    simp only [if_pos (show (i : Int) < (f.length : Int) by omega), if_pos (show (0 : Int) ≤ (i : Int) by omega)]
    rw [rd_at hlt, if_pos (by omega), if_pos (by omega), w64 (by omega) (by omega), show ((i : Int) + 1) = ((i + 1 : Nat) : Int) by omega, ih k (i + 1) _ (by omega) (by simpa using hv), List.drop_eq_getElem_cons hlt, initV]
theorem implC_l2 (h : okG s t f l = true) (n : Int) (vs : List (List Int)) (hvs : vs.length ≤ 1048576) (old : List Int) (ho : old.length = s.toNat) (j : Int) (d : Nat) : ∀ (k i : Nat) (v : List Int), i + d = l.length → v.length = s.toNat → impl_Grammar_counts.l2 (k + d + 1) vs old v n j l (l.length : Int) (i : Int) s t f l = impl_Grammar_counts.l1 k (vs ++ [nextV old (l.drop i) v]) n (wrap64 (j + 1)) s t f l := by
  have hs := okG_st h
  have hl := okG_len h
  induction d with
  | zero =>
    intro k i v hi hv
    rw [Nat.add_zero, impl_Grammar_counts.l2, if_neg (by omega), List.drop_eq_nil_of_le (by omega), nextV, if_pos (by omega)]
  | succ d ih =>
    intro k i v hi hv
    have hlt : i < l.length := by omega
    have hx := okG_arc h (List.getElem_mem hlt)
    rw [show k + (d + 1) + 1 = (k + d + 1) + 1 by omega, impl_Grammar_counts.l2]
    simp only [if_pos (show (i : Int) < (l.length : Int) by omega), if_pos (show (0 : Int) ≤ (i : Int) by omega)]
    rw [rdA_at hlt, if_pos (by omega), if_pos (by omega), if_pos (by omega), if_pos (by omega), w64 (n := (i : Int) + 1) (by omega) (by omega), show ((i : Int) + 1) = ((i + 1 : Nat) : Int) by omega, ih k (i + 1) _ (by omega) (by simpa using hv), List.drop_eq_getElem_cons hlt, nextV]
theorem implC_l1 (h : okG s t f l = true) (n : Int) (hn : 0 ≤ n ∧ n ≤ 12) (d : Nat) : ∀ (k j : Nat) (us : List (List Int)) (v : List Int), us.length = j → (j : Int) + d = n → v.length = s.toNat → impl_Grammar_counts.l1 (k + (l.length + 2) * d + 1) (us ++ [v]) n (j : Int) s t f l = some (us ++ [v] ++ itL l s d v) := by
  have hs := okG_st h
  induction d with
  | zero =>
    intro k j us v hu hi hv
    rw [Nat.mul_zero, Nat.add_zero, impl_Grammar_counts.l1, if_neg (by omega), itL, List.append_nil]
  | succ d ih =>
    intro k j us v hu hi hv
    have hlen : (us ++ [v]).length = j + 1 := by rw [List.length_append, hu]; rfl
    have hlast : rd_L3 (us ++ [v]) (((us ++ [v]).length : Int) - 1) = v := by
      rw [hlen, show (((j + 1 : Nat) : Int) - 1) = (j : Int) by omega, rd_L3, Int.toNat_natCast, ← hu]
      simp
    rw [Nat.mul_succ, show k + ((l.length + 2) * d + (l.length + 2)) + 1 = (k + (l.length + 2) * d + 1 + l.length + 1) + 1 by omega, impl_Grammar_counts.l1, if_pos (by omega), w64 (n := ((us ++ [v]).length : Int) - 1) (by omega) (by omega), hlast, if_pos (by omega), if_pos (by omega), if_pos (by omega), if_pos (by omega)]
    have e := implC_l2 h n (us ++ [v]) (by omega) v hv (j : Int) l.length (k + (l.length + 2) * d + 1) 0 (List.replicate s.toNat 0) (by omega) (by simp)
    rw [List.drop_zero] at e
    rw [show impl_Grammar_counts.l2 (k + (l.length + 2) * d + 1 + l.length + 1) (us ++ [v]) v (List.replicate s.toNat 0) n (j : Int) l (l.length : Int) 0 s t f l = _ from e, w64 (by omega) (by omega), show ((j : Int) + 1) = ((j + 1 : Nat) : Int) by omega]
    rw [show nextV v l (List.replicate s.toNat 0) = stV l s v from rfl, ih k (j + 1) (us ++ [v]) _ hlen (by omega) (stV_len l s v), itL]
    congr 1
    rw [List.append_assoc (us ++ [v])]
    rfl
def v0 (s : Int) (f : List Int) : List Int := initV f (List.replicate s.toNat 0)
theorem v0_len (s : Int) (f : List Int) : (v0 s f).length = s.toNat := by rw [v0, initV_len, List.length_replicate]
theorem rounds (h : okG s t f l = true) (hf : f.length ≤ 1048576) (n : Nat) (hn : n ≤ 12) (k : Nat) (hk : 1100000 ≤ k) : ∃ k', k = (k' + (l.length + 2) * n + 1) + f.length + 1 := by
  have hl := okG_len h
  have : (l.length + 2) * n ≤ 258 * 12 := Nat.mul_le_mul (by omega) hn
  exact ⟨k - ((l.length + 2) * n + 1 + f.length + 1), by omega⟩
theorem specCounts (h : okG s t f l = true) (hf : f.length ≤ 1048576) (n : Nat) (hn : n ≤ 12) (k : Nat) (hk : 1100000 ≤ k) : spec_l07Counts.f k s t f l (n : Int) = some (itV l s n (v0 s f)) := by
  have hs := okG_st h
  obtain ⟨k', e⟩ := rounds h hf n hn k hk
  rw [e, spec_l07Counts.f, if_pos (by omega), if_pos (by omega)]
  have e1 := specC_l0 h hf (n : Int) f.length (k' + (l.length + 2) * n + 1) 0 (List.replicate s.toNat 0) (by omega) (by simp)
  rw [List.drop_zero] at e1
  rw [show spec_l07Counts.l0 (k' + (l.length + 2) * n + 1 + f.length + 1) (n : Int) (List.replicate s.toNat 0) 0 s t f l = _ from e1]
  exact specC_l1 h (n : Int) (by omega) n k' 0 _ (by omega) (v0_len s f)
theorem implCounts (h : okG s t f l = true) (hf : f.length ≤ 1048576) (n : Nat) (hn : n ≤ 12) (k : Nat) (hk : 1100000 ≤ k) : impl_Grammar_counts.f k s t f l (n : Int) = some (v0 s f :: itL l s n (v0 s f)) := by
  have hs := okG_st h
  obtain ⟨k', e⟩ := rounds h hf n hn k hk
  rw [e, impl_Grammar_counts.f, if_pos (by omega), if_pos (by omega)]
  have e1 := implC_l0 h hf (n : Int) f.length (k' + (l.length + 2) * n + 1) 0 (List.replicate s.toNat 0) (by omega) (by simp)
  rw [List.drop_zero] at e1
  rw [show impl_Grammar_counts.l0 (k' + (l.length + 2) * n + 1 + f.length + 1) (n : Int) (List.replicate s.toNat 0) f (f.length : Int) 0 s t f l = _ from e1]
  exact implC_l1 h (n : Int) (by omega) n k' 0 [] _ rfl (by omega) (v0_len s f)
end

end Go.Proofs.Ytijbhcalknfijaa.Pure
