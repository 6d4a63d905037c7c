/- Decimal numerals: the reference's digits, taken from the end and turned round, are the library's numeral. No condition. -/
import Derived.Test.YtlmeijlandogaaaDoorIx0
import Derived.Test.YtlmeijlandogaaaDoorIx6
import Derived.Lib.ItoaNum
namespace Go.Proofs.YtlmeijlandogaaaDoor.Pure
open Go Go.RowKit Go.Proofs.YtlmeijlandogaaaDoor.I Go.Proofs.YtlmeijlandogaaaDoorW.PrintWords Go.Proofs.YtlmeijlandogaaaDoorW.PrintLast
theorem dw64 {n : Int} (h : -9223372036854775808 ≤ n) (h' : n ≤ 9223372036854775807) : wrap64 n = n := by unfold wrap64; omega
theorem dsucc {n k : Nat} (h : n < k) : ∃ m, k = m + 1 := ⟨k - 1, by omega⟩
/-- A numeral's digits as numbers, the last first; none for nought. -/
def revz (u : Nat) : List Int := if u = 0 then [] else ((Lib.decDigits u).map fun b => (b.toNat : Int)).reverse
theorem dig_nat (u : Nat) (h : u < 10) : (UInt8.ofNat (48 + u)).toNat = 48 + u := by
  rw [UInt8.toNat_ofNat']
  omega
theorem revz_zero : revz 0 = [] := rfl
theorem revz_pos (u : Nat) (h : 0 < u) : revz u = ((48 + u % 10 : Nat) : Int) :: revz (u / 10) := by
  unfold revz
  rw [if_neg (by omega)]
  by_cases c : u < 10
  · rw [Lib.decDigits, dif_pos c, if_pos (by omega)]
    simp only [List.map_cons, List.map_nil, List.reverse_cons, List.reverse_nil, List.nil_append]
    rw [dig_nat u c, show u % 10 = u by omega]
  · rw [Lib.decDigits, dif_neg c, if_neg (by omega)]
    simp only [List.map_append, List.map_cons, List.map_nil, List.reverse_append, List.reverse_cons, List.reverse_nil, List.nil_append, List.cons_append]
    rw [dig_nat _ (by omega)]
theorem revz_len : ∀ (d u : Nat), u < 10 ^ d → (revz u).length ≤ d
  | 0, u, h => by
    have : u = 0 := by simpa using h
    subst this
    simp [revz_zero]
  | d + 1, u, h => by
    rcases Nat.eq_zero_or_pos u with e | e
    · subst e; simp [revz_zero]
    · rw [revz_pos u e]
      have := revz_len d (u / 10) (by rw [Nat.pow_succ] at h; omega)
      simp only [List.length_cons]
      omega
theorem tm_neg (u : Nat) : Int.tmod (-(u : Int)) 10 = -((u % 10 : Nat) : Int) := by
  rw [Int.neg_tmod, Int.tmod_eq_emod_of_nonneg (by omega)]
  omega
theorem tm_pos (u : Nat) : Int.tmod (u : Int) 10 = ((u % 10 : Nat) : Int) := by
  rw [Int.tmod_eq_emod_of_nonneg (by omega)]
  omega
theorem td_neg (u : Nat) : Int.tdiv (-(u : Int)) 10 = -((u / 10 : Nat) : Int) := by
  rw [Int.neg_tdiv, Int.tdiv_eq_ediv_of_nonneg (by omega)]
  omega
theorem td_pos (u : Nat) : Int.tdiv (u : Int) 10 = ((u / 10 : Nat) : Int) := by
  rw [Int.tdiv_eq_ediv_of_nonneg (by omega)]
  omega
theorem dec_l0 (n : Int) (V : Option ByteArray) (R : Nat) : ∀ (d u : Nat) (x3 : List Int) (m : Int), (m = (u : Int) ∨ m = -(u : Int)) → u < 10 ^ d → u ≤ 9223372036854775808 → x3.length + d ≤ 1000 →
    (∀ k, R ≤ k → spec_l01Dec.l0 k n (x3 ++ revz u) 0 = V) → ∀ k, R + d ≤ k → -9223372036854775808 ≤ m → m ≤ 9223372036854775807 → spec_l01Dec.l0 k n x3 m = V
  | 0, u, x3, m, hm, hu, _, _, hV, k, hk, _, _ => by
    have : u = 0 := by simpa using hu
    subst this
    have : m = 0 := by omega
    subst this
    have := hV k (by omega)
    simpa [revz_zero] using this
  | d + 1, u, x3, m, hm, hu, hb, hl, hV, k, hk, h1, h2 => by
    rcases Nat.eq_zero_or_pos u with e | e
    · subst e
      have : m = 0 := by omega
      subst this
      have := hV k (by omega)
      simpa [revz_zero] using this
    · obtain ⟨k, rfl⟩ := dsucc (n := 0) (k := k) (by omega)
      rw [revz_pos u e] at hV
      have hV' : ∀ k, R ≤ k → spec_l01Dec.l0 k n ((x3 ++ [((48 + u % 10 : Nat) : Int)]) ++ revz (u / 10)) 0 = V := by
        intro k hk
        rw [List.append_assoc]
        exact hV k hk
      rw [spec_l01Dec.l0, if_neg (by omega)]
      rcases hm with rfl | rfl
      · rw [tm_pos, td_pos, if_neg (by omega), if_pos (by omega), dw64 (by omega) (by omega), dw64 (by omega) (by omega), show (48 + ((u % 10 : Nat) : Int)) % 256 = ((48 + u % 10 : Nat) : Int) by omega]
        exact dec_l0 n V R d (u / 10) _ _ (Or.inl rfl) (by rw [Nat.pow_succ] at hu; omega) (by omega) (by simp; omega) hV' k (by omega) (by omega) (by omega)
      · rw [tm_neg, td_neg]
        by_cases c : u % 10 = 0
        · rw [if_neg (by omega), if_pos (by omega), dw64 (by omega) (by omega), dw64 (by omega) (by omega), show (48 + -((u % 10 : Nat) : Int)) % 256 = ((48 + u % 10 : Nat) : Int) by omega]
          exact dec_l0 n V R d (u / 10) _ _ (Or.inr rfl) (by rw [Nat.pow_succ] at hu; omega) (by omega) (by simp; omega) hV' k (by omega) (by omega) (by omega)
        · rw [if_pos (by omega), if_pos (by omega), dw64 (n := - -((u % 10 : Nat) : Int)) (by omega) (by omega), dw64 (by omega) (by omega), dw64 (by omega) (by omega), show (48 + - -((u % 10 : Nat) : Int)) % 256 = ((48 + u % 10 : Nat) : Int) by omega]
          exact dec_l0 n V R d (u / 10) _ _ (Or.inr rfl) (by rw [Nat.pow_succ] at hu; omega) (by omega) (by simp; omega) hV' k (by omega) (by omega) (by omega)
theorem dec_l1 (x3 : List Int) (hx : x3.length ≤ 1000) : ∀ (i : Nat) (x6 : List Int) (k : Nat), i ≤ x3.length → x6.length + i ≤ 1000 → i < k →
    spec_l01Dec.l1 k x3 x6 ((i : Int) - 1) = some (strOfNums (x6 ++ (x3.take i).reverse))
  | 0, x6, k, _, _, hk => by
    obtain ⟨k, rfl⟩ := dsucc hk
    rw [spec_l01Dec.l1, if_neg (by omega)]
    simp
  | i + 1, x6, k, hi, hl, hk => by
    obtain ⟨k, rfl⟩ := dsucc hk
    rw [spec_l01Dec.l1, if_pos (by omega), if_pos (by omega), if_pos (by omega), if_pos (by omega), dw64 (by omega) (by omega), show (((i + 1 : Nat) : Int) - 1 - 1) = (i : Int) - 1 by omega]
    rw [dec_l1 x3 hx i _ k (by omega) (by simp; omega) (by omega)]
    have e : rd x3 (((i + 1 : Nat) : Int) - 1) = x3[i] := by
      rw [show (((i + 1 : Nat) : Int) - 1) = (i : Int) by omega]
      simp [rd, List.getD_eq_getElem?_getD, List.getElem?_eq_getElem (show i < x3.length by omega)]
    rw [e, List.take_succ_eq_append_getElem (by omega), List.reverse_append, List.append_assoc]
    rfl
theorem str_bytes (l : List UInt8) : strOfNums (l.map fun b => (b.toNat : Int)) = ⟨l.toArray⟩ := by
  unfold strOfNums
  rw [List.map_map]
  congr 2
  conv => rhs; rw [← List.map_id l]
  apply List.map_congr_left
  intro b _
  simp
theorem dec_j1 (x3 : List Int) (hx : x3.length ≤ 1000) (k : Nat) (hk : 1002 ≤ k) : spec_l01Dec.j1 k x3 = some (strOfNums x3.reverse) := by
  obtain ⟨k, rfl⟩ := dsucc (n := 0) (k := k) (by omega)
  rw [spec_l01Dec.j1, dw64 (by omega) (by omega), dec_l1 x3 hx x3.length [] k (by omega) (by simp; omega) (by omega)]
  simp
theorem revz_rev (u : Nat) (h : 0 < u) : (revz u).reverse = (Lib.decDigits u).map fun b => (b.toNat : Int) := by
  unfold revz
  rw [if_neg (by omega), List.reverse_reverse]
/-- The reference's numeral. -/
theorem dec (n : Int) (h1 : -9223372036854775808 ≤ n) (h2 : n ≤ 9223372036854775807) (k : Nat) (hk : 1100 ≤ k) : spec_l01Dec.f k n = some ⟨(Lib.itoa n).toArray⟩ := by
  rw [spec_l01Dec.f]
  by_cases z : n = 0
  · subst z
    rw [if_pos rfl]
    have : Lib.itoa 0 = [48] := by rw [Lib.itoa, if_neg (by omega)]; rw [show (0 : Int).toNat = 0 by rfl, Lib.decDigits, dif_pos (by omega)]; rfl
    rw [this]
  · rw [if_neg z]
    have hu : n.natAbs < 10 ^ 20 := by
      have : n.natAbs ≤ 9223372036854775808 := by omega
      calc n.natAbs ≤ 9223372036854775808 := this
        _ < 10 ^ 20 := by decide
    have hlen := revz_len 20 n.natAbs hu
    refine dec_l0 n _ 1010 20 n.natAbs [] n (by omega) hu (by omega) (by simp) ?_ k (by omega) h1 h2
    intro k hk
    obtain ⟨k, rfl⟩ := dsucc (n := 0) (k := k) (by omega)
    rw [List.nil_append, spec_l01Dec.l0, if_pos rfl]
    by_cases c : n < 0
    · rw [if_pos c, if_pos (by omega), dec_j1 _ (by simp; omega) k (by omega)]
      rw [List.reverse_append, revz_rev _ (by omega), Lib.itoa, if_pos c, ← str_bytes]
      rfl
    · rw [if_neg c, dec_j1 _ (by omega) k (by omega), revz_rev _ (by omega), Lib.itoa, if_neg c, ← str_bytes, show n.natAbs = n.toNat by omega]
theorem dec_len (u : Nat) (d : Nat) (hd : 0 < d) (h : u < 10 ^ d) : (Lib.decDigits u).length ≤ d := by
  rcases Nat.eq_zero_or_pos u with e | e
  · subst e
    rw [Lib.decDigits, dif_pos (by omega)]
    exact hd
  · have := revz_len d u h
    rw [← List.length_reverse, revz_rev u e] at this
    simpa using this
theorem itoa_len (n : Int) (h1 : -9223372036854775808 ≤ n) (h2 : n ≤ 9223372036854775807) : (Lib.itoa n).length ≤ 21 := by
  have hu : n.natAbs < 10 ^ 20 := by
    have : n.natAbs ≤ 9223372036854775808 := by omega
    calc n.natAbs ≤ 9223372036854775808 := this
      _ < 10 ^ 20 := by decide
  unfold Lib.itoa
  split
  · simp only [List.length_cons]
    have := dec_len n.natAbs 20 (by omega) hu
    omega
  · have := dec_len n.toNat 20 (by omega) (by rw [show n.toNat = n.natAbs by omega]; exact hu)
    omega
end Go.Proofs.YtlmeijlandogaaaDoor.Pure
