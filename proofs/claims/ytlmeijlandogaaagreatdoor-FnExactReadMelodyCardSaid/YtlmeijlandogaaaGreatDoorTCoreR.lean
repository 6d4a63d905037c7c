/- Numerals, lists of numbers and texts divided: what is read is what is written. No condition. -/
import Derived.Test.YtlmeijlandogaaaGreatDoorRx0
import Derived.Test.YtlmeijlandogaaaGreatDoorRx1
import Derived.Test.YtlmeijlandogaaaGreatDoorRx2
import Derived.Test.YtlmeijlandogaaaGreatDoorRx3
import Derived.Test.YtlmeijlandogaaaGreatDoorRx7
import Derived.Test.YtlmeijlandogaaaGreatDoorRx9
import Derived.Test.YtlmeijlandogaaaGreatDoorRx10
import Derived.Lib.ItoaNum
import Derived.Lib.Join
import Derived.Lib.ParseIntBCases
import Derived.Lib.Strings
import Derived.Lib.Split
import Derived.Lib.ParseIntBTie
import Derived.Lib.SplitLaws
import Derived.Lib.TrimByte
namespace Go.Proofs.YtlmeijlandogaaaGreatDoor.Pure
open Go Go.RowKit Go.Proofs.YtlmeijlandogaaaGreatDoor.R Go.Proofs.YtlmeijlandogaaaGreatDoorW.PrintWords Go.Proofs.YtlmeijlandogaaaGreatDoorW.PrintLast
theorem dw64 {n : Int} (h : -9223372036854775808 ≤ n) (h' : n ≤ 9223372036854775807) : wrap64 n = n := by unfold wrap64; omega
theorem dsucc {n k : Nat} (h : n < k) : ∃ m, k = m + 1 := ⟨k - 1, by omega⟩
/-- A numeral's digits as numbers, the last first; none for nought. -/
def revz (u : Nat) : List Int := if u = 0 then [] else ((Lib.decDigits u).map fun b => (b.toNat : Int)).reverse
theorem dig_nat (u : Nat) (h : u < 10) : (UInt8.ofNat (48 + u)).toNat = 48 + u := by
  rw [UInt8.toNat_ofNat']
  omega
theorem revz_zero : revz 0 = [] := rfl
theorem revz_pos (u : Nat) (h : 0 < u) : revz u = ((48 + u % 10 : Nat) : Int) :: revz (u / 10) := by
  unfold revz
  rw [if_neg (by omega)]
  by_cases c : u < 10
  · rw [Lib.decDigits, dif_pos c, if_pos (by omega)]
    simp only [List.map_cons, List.map_nil, List.reverse_cons, List.reverse_nil, List.nil_append]
    rw [dig_nat u c, show u % 10 = u by omega]
  · rw [Lib.decDigits, dif_neg c, if_neg (by omega)]
    simp only [List.map_append, List.map_cons, List.map_nil, List.reverse_append, List.reverse_cons, List.reverse_nil, List.nil_append, List.cons_append]
    rw [dig_nat _ (by omega)]
theorem revz_len : ∀ (d u : Nat), u < 10 ^ d → (revz u).length ≤ d
  | 0, u, h => by
    have : u = 0 := by simpa using h
    subst this
    simp [revz_zero]
  | d + 1, u, h => by
    rcases Nat.eq_zero_or_pos u with e | e
    · subst e; simp [revz_zero]
    · rw [revz_pos u e]
      have := revz_len d (u / 10) (by rw [Nat.pow_succ] at h; omega)
      simp only [List.length_cons]
      omega
theorem tm_neg (u : Nat) : Int.tmod (-(u : Int)) 10 = -((u % 10 : Nat) : Int) := by
  rw [Int.neg_tmod, Int.tmod_eq_emod_of_nonneg (by omega)]
  omega
theorem tm_pos (u : Nat) : Int.tmod (u : Int) 10 = ((u % 10 : Nat) : Int) := by
  rw [Int.tmod_eq_emod_of_nonneg (by omega)]
  omega
theorem td_neg (u : Nat) : Int.tdiv (-(u : Int)) 10 = -((u / 10 : Nat) : Int) := by
  rw [Int.neg_tdiv, Int.tdiv_eq_ediv_of_nonneg (by omega)]
  omega
theorem td_pos (u : Nat) : Int.tdiv (u : Int) 10 = ((u / 10 : Nat) : Int) := by
  rw [Int.tdiv_eq_ediv_of_nonneg (by omega)]
  omega
theorem str_bytes (l : List UInt8) : strOfNums (l.map fun b => (b.toNat : Int)) = ⟨l.toArray⟩ := by
  unfold strOfNums
  rw [List.map_map]
  congr 2
  conv => rhs; rw [← List.map_id l]
  apply List.map_congr_left
  intro b _
  simp
theorem revz_rev (u : Nat) (h : 0 < u) : (revz u).reverse = (Lib.decDigits u).map fun b => (b.toNat : Int) := by
  unfold revz
  rw [if_neg (by omega), List.reverse_reverse]
theorem dec_len (u : Nat) (d : Nat) (hd : 0 < d) (h : u < 10 ^ d) : (Lib.decDigits u).length ≤ d := by
  rcases Nat.eq_zero_or_pos u with e | e
  · subst e
    rw [Lib.decDigits, dif_pos (by omega)]
    exact hd
  · have := revz_len d u h
    rw [← List.length_reverse, revz_rev u e] at this
    simpa using this
theorem itoa_len (n : Int) (h1 : -9223372036854775808 ≤ n) (h2 : n ≤ 9223372036854775807) : (Lib.itoa n).length ≤ 21 := by
  have hu : n.natAbs < 10 ^ 20 := by
    have : n.natAbs ≤ 9223372036854775808 := by omega
    calc n.natAbs ≤ 9223372036854775808 := this
      _ < 10 ^ 20 := by decide
  unfold Lib.itoa
  split
  · simp only [List.length_cons]
    have := dec_len n.natAbs 20 (by omega) hu
    omega
  · have := dec_len n.toNat 20 (by omega) (by rw [show n.toNat = n.natAbs by omega]; exact hu)
    omega
def bA (l : List UInt8) : ByteArray := ⟨l.toArray⟩
theorem bA_size (l : List UInt8) : (bA l).size = l.length := by simp [bA, ByteArray.size]
theorem bA_app (a b : List UInt8) : bA a ++ bA b = bA (a ++ b) := by
  apply ByteArray.ext
  rw [ByteArray.data_append]
  simp [bA]
theorem bA_list (l : List UInt8) : (bA l).data.toList = l := rfl
theorem join_snoc (xs : List (List UInt8)) (y sep : List UInt8) (h : xs ≠ []) : Lib.join (xs ++ [y]) sep = Lib.join xs sep ++ (sep ++ y) := by
  cases xs with
  | nil => exact absurd rfl h
  | cons x r =>
    rw [List.cons_append, Lib.join_cons, Lib.join_cons]
    simp [Lib.joinTail]
theorem join_le (xs : List (List UInt8)) (sep : List UInt8) (B : Nat) (h : ∀ x ∈ xs, x.length ≤ B) : (Lib.join xs sep).length ≤ xs.length * (B + sep.length) := by
  cases xs with
  | nil => simp [Lib.join_nil]
  | cons x r =>
    rw [Lib.join_length]
    have h2 : ∀ ys : List (List UInt8), (∀ x ∈ ys, x.length ≤ B) → Lib.lens ys ≤ ys.length * B := by
      intro ys
      induction ys with
      | nil => intro _; simp [Lib.lens]
      | cons y ys ih =>
        intro hy
        have a := ih (fun x hx => hy x (List.mem_cons_of_mem _ hx))
        have b := hy y (List.mem_cons_self ..)
        simp only [Lib.lens, List.map_cons, List.sum_cons, List.length_cons, Nat.add_mul, Nat.one_mul] at a ⊢
        omega
    have := h2 (x :: r) h
    have e : sep.length * r.length ≤ (x :: r).length * sep.length := by
      rw [Nat.mul_comm]
      exact Nat.mul_le_mul_right _ (by simp)
    rw [Nat.mul_add]
    omega
/-- The text of the first i numbers. -/
def tx (l : List Int) (i : Nat) : List UInt8 := Lib.join ((l.take i).map Lib.itoa) [44]
theorem tx_succ (l : List Int) (i : Nat) (h : i < l.length) : tx l (i + 1) = if i = 0 then Lib.itoa l[i] else tx l i ++ ([44] ++ Lib.itoa l[i]) := by
  unfold tx
  rw [List.take_succ_eq_append_getElem h, List.map_append]
  by_cases c : i = 0
  · subst c
    simp [Lib.join_one]
  · rw [if_neg c, List.map_cons, List.map_nil, join_snoc]
    intro e
    have e2 : ((l.take i).map Lib.itoa).length = 0 := by rw [e]; rfl
    rw [List.length_map, List.length_take] at e2
    omega
def R64 (x : Int) : Prop := -9223372036854775808 ≤ x ∧ x ≤ 9223372036854775807
theorem tx_len (l : List Int) (i : Nat) (hl : l.length ≤ 64) (hr : ∀ x ∈ l, R64 x) : (tx l i).length ≤ 1408 := by
  unfold tx
  have := join_le ((l.take i).map Lib.itoa) [44] 21 (by
    intro x hx
    obtain ⟨y, hy, rfl⟩ := List.mem_map.1 hx
    have := hr y (List.mem_of_mem_take hy)
    exact itoa_len y this.1 this.2)
  have e : ((l.take i).map Lib.itoa).length ≤ 64 := by rw [List.length_map, List.length_take]; omega
  simp only [List.length_cons, List.length_nil] at this
  omega
theorem rd_list (l : List Int) (i : Nat) (h : i < l.length) : rd l (i : Int) = l[i] := by
  simp [rd, List.getD_eq_getElem?_getD, List.getElem?_eq_getElem h]
/-- The first i pieces, joined. -/
def jt (ps : List (List UInt8)) (s : List UInt8) (i : Nat) : List UInt8 := Lib.join (ps.take i) s
theorem jt_zero (ps : List (List UInt8)) (s : List UInt8) : jt ps s 0 = [] := by simp [jt, Lib.join_nil]
theorem jt_succ (ps : List (List UInt8)) (s : List UInt8) (i : Nat) (h : i < ps.length) : jt ps s (i + 1) = if i = 0 then ps[i] else jt ps s i ++ (s ++ ps[i]) := by
  unfold jt
  rw [List.take_succ_eq_append_getElem h]
  by_cases c : i = 0
  · subst c
    simp [Lib.join_one]
  · rw [if_neg c, join_snoc]
    intro e
    have e2 : (ps.take i).length = 0 := by rw [e]; rfl
    rw [List.length_take] at e2
    omega
theorem jt_len (ps : List (List UInt8)) (s : List UInt8) (B N : Nat) (hN : ps.length ≤ N) (hB : ∀ x ∈ ps, x.length ≤ B) (i : Nat) : (jt ps s i).length ≤ N * (B + s.length) := by
  unfold jt
  have := join_le (ps.take i) s B (fun x hx => hB x (List.mem_of_mem_take hx))
  have e : (ps.take i).length ≤ N := by rw [List.length_take]; omega
  exact Nat.le_trans this (Nat.mul_le_mul_right _ e)
theorem join_f (ps : List (List UInt8)) (s : List UInt8) (hp : ps.length ≤ 1000) (hl : (jt ps s ps.length).length ≤ 1000000) : strings_Join.f (ps.map bA) (bA s) = some (bA (jt ps s ps.length)) := by
  have e1 : (ps.map bA).map (·.data.toList) = ps := by
    rw [List.map_map]
    conv => rhs; rw [← List.map_id ps]
    rfl
  unfold jt at hl ⊢
  rw [List.take_length] at hl ⊢
  rw [strings_Join.f, e1, if_pos ⟨by rw [List.length_map]; omega, by show (Lib.join ps s).length ≤ _; omega⟩]
  rfl
/-- A byte that is a digit. -/
def dgB (c : UInt8) : Bool := decide (48 ≤ c.toNat ∧ c.toNat ≤ 57)
/-- What digits spell, behind what was spelt before. -/
def valD (acc : Nat) (l : List UInt8) : Nat := l.foldl (fun a c => a * 10 + (c.toNat - 48)) acc
theorem valD_nil (acc : Nat) : valD acc [] = acc := by unfold valD; rw [List.foldl_nil]
theorem valD_cons (acc : Nat) (c : UInt8) (r : List UInt8) : valD acc (c :: r) = valD (acc * 10 + (c.toNat - 48)) r := by unfold valD; rw [List.foldl_cons]
theorem dropLast_last {α : Type} {l : List α} (h : l ≠ []) : ∃ p c, l = p ++ [c] := ⟨l.dropLast, l.getLast h, (List.dropLast_concat_getLast h).symm⟩
theorem head_app {α : Type} {l : List α} (h : l ≠ []) (r : List α) : (l ++ r).head? = l.head? := by
  cases l with
  | nil => exact absurd rfl h
  | cons x t => rfl
theorem pow18 : 10 ^ 18 = 1000000000000000000 := by decide
/-- The digits of a numeral without a sign, if it is one of at most eighteen digits; big: a nought ahead is allowed for "0" alone and not behind a sign. -/
def okD (neg : Bool) (ds : List UInt8) : Bool := decide (ds ≠ []) && decide (ds.length ≤ 18) && (decide (ds.head? ≠ some 48) || (!neg && decide (ds.length = 1))) && ds.all dgB
/-- The number with a numeral. -/
def num : List UInt8 → Option Int
  | [] => none
  | c :: r => if c = 45 then (if okD true r then some (-(valD 0 r : Int)) else none) else (if okD false (c :: r) then some (valD 0 (c :: r) : Int) else none)
theorem valD_snoc (acc : Nat) (l : List UInt8) (c : UInt8) : valD acc (l ++ [c]) = valD acc l * 10 + (c.toNat - 48) := by
  induction l generalizing acc with
  | nil => rw [List.nil_append, valD_cons, valD_nil, valD_nil]
  | cons x r ih => rw [List.cons_append, valD_cons, valD_cons, ih]
theorem valD_lt : ∀ (l : List UInt8) (acc : Nat), (∀ c ∈ l, dgB c = true) → valD acc l < (acc + 1) * 10 ^ l.length
  | [], acc, _ => by rw [valD_nil, List.length_nil, Nat.pow_zero]; omega
  | c :: r, acc, h => by
    have hc := h c (List.mem_cons_self ..)
    simp only [dgB, decide_eq_true_eq] at hc
    have go := valD_lt r (acc * 10 + (c.toNat - 48)) (fun x hx => h x (List.mem_cons_of_mem _ hx))
    rw [valD_cons, List.length_cons, Nat.pow_succ]
    have : (acc * 10 + (c.toNat - 48) + 1) * 10 ^ r.length ≤ (acc * 10 + 10) * 10 ^ r.length := Nat.mul_le_mul_right _ (by omega)
    have e : (acc * 10 + 10) * 10 ^ r.length = (acc + 1) * (10 ^ r.length * 10) := by
      rw [show acc * 10 + 10 = (acc + 1) * 10 by omega, Nat.mul_assoc, Nat.mul_comm 10]
    omega
theorem valD_ge : ∀ (l : List UInt8) (acc : Nat), acc ≤ valD acc l
  | [], acc => by rw [valD_nil]; exact Nat.le_refl _
  | c :: r, acc => by
    rw [valD_cons]
    have := valD_ge r (acc * 10 + (c.toNat - 48))
    omega
theorem dgB_of {c : UInt8} (h : dgB c = true) : UInt8.ofNat (48 + (c.toNat - 48)) = c := by
  simp only [dgB, decide_eq_true_eq] at h
  rw [show 48 + (c.toNat - 48) = c.toNat by omega]
  exact UInt8.ofNat_toNat
/-- The digits of what digits spell are those digits. -/
theorem dec_val : ∀ (n : Nat) (l : List UInt8), l.length = n → l ≠ [] → (∀ c ∈ l, dgB c = true) → (l.head? ≠ some 48 ∨ l.length = 1) → Lib.decDigits (valD 0 l) = l
  | 0, l, h, hne, _, _ => absurd (List.eq_nil_of_length_eq_zero h) hne
  | n + 1, l, h, hne, hd, hz => by
    obtain ⟨p, c, rfl⟩ : ∃ p c, l = p ++ [c] := dropLast_last hne
    have hc := hd c (by simp)
    have hc2 : 48 ≤ c.toNat ∧ c.toNat ≤ 57 := by simpa [dgB] using hc
    rw [valD_snoc]
    by_cases e : p = []
    · subst e
      rw [valD_nil, Lib.decDigits, dif_pos (by omega), Nat.zero_mul, Nat.zero_add, dgB_of hc]
      rfl
    · have hp : 0 < p.length := List.length_pos_iff.2 e
      have hh : p.head? ≠ some 48 := by
        rcases hz with hz | hz
        · rw [head_app e] at hz; exact hz
        · rw [List.length_append, List.length_singleton] at hz; omega
      have hpos : 0 < valD 0 p := by
        cases p with
        | nil => exact absurd rfl e
        | cons x r =>
          have hx := hd x (by simp)
          simp only [dgB, decide_eq_true_eq] at hx
          have : x.toNat ≠ 48 := fun q => hh (by rw [List.head?_cons]; congr 1; exact UInt8.toNat_inj.1 q)
          rw [valD_cons]
          have := valD_ge r (0 * 10 + (x.toNat - 48))
          omega
      rw [Lib.decDigits, dif_neg (by omega), show (valD 0 p * 10 + (c.toNat - 48)) / 10 = valD 0 p by omega, show (valD 0 p * 10 + (c.toNat - 48)) % 10 = c.toNat - 48 by omega, dgB_of hc,
        dec_val n p (by simp at h; omega) e (fun x hx => hd x (by simp [hx])) (.inl hh)]
theorem dec_dg (u : Nat) : ∀ c ∈ Lib.decDigits u, dgB c = true := by
  induction u using Nat.strongRecOn with
  | _ u ih =>
    intro c hc
    rw [Lib.decDigits] at hc
    split at hc
    · rename_i h
      simp only [List.mem_singleton] at hc
      subst hc
      simp only [dgB, decide_eq_true_eq, UInt8.toNat_ofNat']
      omega
    · rename_i h
      rw [List.mem_append] at hc
      rcases hc with hc | hc
      · exact ih (u / 10) (by omega) c hc
      · simp only [List.mem_singleton] at hc
        subst hc
        simp only [dgB, decide_eq_true_eq, UInt8.toNat_ofNat']
        omega
theorem dec_ne (u : Nat) : Lib.decDigits u ≠ [] := by
  rw [Lib.decDigits]
  split <;> simp
theorem val_dec (u : Nat) : valD 0 (Lib.decDigits u) = u := by
  induction u using Nat.strongRecOn with
  | _ u ih =>
    rw [Lib.decDigits]
    split
    · rename_i h
      rw [valD_cons, valD_nil, UInt8.toNat_ofNat']
      omega
    · rename_i h
      rw [valD_snoc, ih (u / 10) (by omega), UInt8.toNat_ofNat']
      omega
theorem dec_head (u : Nat) (h : 0 < u) : (Lib.decDigits u).head? ≠ some 48 := by
  induction u using Nat.strongRecOn with
  | _ u ih =>
    rw [Lib.decDigits]
    split
    · rename_i h9
      simp only [List.head?_cons, ne_eq, Option.some.injEq]
      intro e
      have := congrArg UInt8.toNat e
      rw [UInt8.toNat_ofNat'] at this
      have e2 : (48 : UInt8).toNat = 48 := rfl
      omega
    · rename_i h9
      rw [head_app (dec_ne _)]
      exact ih (u / 10) (by omega) (by omega)
theorem dec_short (u d : Nat) (hd : 0 < d) (h : u < 10 ^ d) : (Lib.decDigits u).length ≤ d := by
  induction u using Nat.strongRecOn generalizing d with
  | _ u ih =>
    rw [Lib.decDigits]
    split
    · exact hd
    · rename_i h9
      rw [List.length_append, List.length_singleton]
      obtain ⟨d, rfl⟩ : ∃ e, d = e + 1 := ⟨d - 1, by omega⟩
      rcases Nat.eq_zero_or_pos d with z | z
      · subst z; simp at h; omega
      · have := ih (u / 10) (by omega) d z (by rw [Nat.pow_succ] at h; omega)
        omega
theorem okD_iff {neg : Bool} {ds : List UInt8} : okD neg ds = true ↔ ds ≠ [] ∧ ds.length ≤ 18 ∧ (ds.head? ≠ some 48 ∨ (neg = false ∧ ds.length = 1)) ∧ ∀ c ∈ ds, dgB c = true := by
  simp only [okD, Bool.and_eq_true, Bool.or_eq_true, decide_eq_true_eq, List.all_eq_true, Bool.not_eq_true', and_assoc]
theorem not45 {c : UInt8} (h : dgB c = true) : c ≠ 45 := by
  rintro rfl
  simp [dgB] at h
theorem num_itoa {t : List UInt8} {v : Int} (h : num t = some v) : Lib.itoa v = t := by
  cases t with
  | nil => cases h
  | cons c r =>
    rw [num] at h
    by_cases e : c = 45
    · subst e
      rw [if_pos rfl] at h
      split at h
      · rename_i k
        obtain ⟨k1, k2, k3, k4⟩ := okD_iff.1 k
        obtain rfl := Option.some.inj h
        have k3' : r.head? ≠ some 48 := by
          rcases k3 with k3 | k3
          · exact k3
          · cases k3.1
        have hv := dec_val r.length r rfl k1 k4 (.inl k3')
        have hp : 0 < valD 0 r := by
          rcases Nat.eq_zero_or_pos (valD 0 r) with z | z
          · rw [z, Lib.decDigits, dif_pos (by omega)] at hv
            rw [← hv] at k3'
            exact absurd rfl k3'
          · exact z
        unfold Lib.itoa
        rw [if_pos (by omega), show (-(valD 0 r : Int)).natAbs = valD 0 r by omega, hv]
      · cases h
    · rw [if_neg e] at h
      split at h
      · rename_i k
        obtain ⟨k1, k2, k3, k4⟩ := okD_iff.1 k
        obtain rfl := Option.some.inj h
        unfold Lib.itoa
        rw [if_neg (by omega), Int.toNat_natCast, dec_val (c :: r).length (c :: r) rfl k1 k4 (by
          rcases k3 with k3 | k3
          · exact .inl k3
          · exact .inr k3.2)]
      · cases h
theorem num_lt {t : List UInt8} {v : Int} (h : num t = some v) : -1000000000000000000 < v ∧ v < 1000000000000000000 := by
  have key : ∀ (neg : Bool) (ds : List UInt8), okD neg ds = true → valD 0 ds < 1000000000000000000 := by
    intro neg ds k
    obtain ⟨_, k2, _, k4⟩ := okD_iff.1 k
    have a := valD_lt ds 0 k4
    have b : 10 ^ ds.length ≤ 10 ^ 18 := Nat.pow_le_pow_right (by decide) k2
    have c : 10 ^ 18 = 1000000000000000000 := by decide
    omega
  cases t with
  | nil => cases h
  | cons c r =>
    rw [num] at h
    split at h
    · split at h
      · rename_i k
        have := key _ _ k
        obtain rfl := Option.some.inj h
        omega
      · cases h
    · split at h
      · rename_i k
        have := key _ _ k
        obtain rfl := Option.some.inj h
        omega
      · cases h
theorem itoa_num (v : Int) (h1 : -1000000000000000000 < v) (h2 : v < 1000000000000000000) : num (Lib.itoa v) = some v := by
  unfold Lib.itoa
  by_cases c : v < 0
  · rw [if_pos c, num, if_pos rfl, if_pos, val_dec]
    · congr 1; omega
    · exact okD_iff.2 ⟨dec_ne _, dec_short _ 18 (by decide) (by rw [pow18]; omega), .inl (dec_head _ (by omega)), dec_dg _⟩
  · rw [if_neg c]
    have hd := dec_dg v.toNat
    have hn := dec_ne v.toNat
    have hs := dec_short v.toNat 18 (by decide) (by rw [pow18]; omega)
    have hv := val_dec v.toNat
    have hz : (Lib.decDigits v.toNat).head? ≠ some 48 ∨ (false = false ∧ (Lib.decDigits v.toNat).length = 1) := by
      rcases Nat.eq_zero_or_pos v.toNat with z | z
      · right; rw [z, Lib.decDigits, dif_pos (by omega)]; exact ⟨rfl, rfl⟩
      · exact .inl (dec_head _ z)
    revert hd hn hs hv hz
    generalize Lib.decDigits v.toNat = l
    intro hd hn hs hv hz
    cases l with
    | nil => exact absurd rfl hn
    | cons x r =>
      rw [num, if_neg (not45 (hd x (List.mem_cons_self ..))), if_pos (okD_iff.2 ⟨hn, hs, hz, hd⟩), hv]
      congr 1; omega
theorem parse_M : ∀ (l : List UInt8) (acc : Nat), (∀ c ∈ l, dgB c = true) → (acc + 1) * 10 ^ l.length ≤ 1000000000000000000 → Lib.parseUintM (2 ^ 64 - 1) acc l = .ok (valD acc l)
  | [], acc, _, _ => by rw [valD_nil]; rfl
  | c :: r, acc, h, hb => by
    have hc := h c (List.mem_cons_self ..)
    simp only [dgB, decide_eq_true_eq] at hc
    rw [List.length_cons, Nat.pow_succ] at hb
    have hr : 1 ≤ 10 ^ r.length := Nat.one_le_pow _ _ (by decide)
    have h1 : (acc + 1) * 10 ≤ (acc + 1) * (10 ^ r.length * 10) := Nat.mul_le_mul_left _ (by omega)
    have e64 : (2 : Nat) ^ 64 - 1 = 18446744073709551615 := by decide
    rw [Lib.parseUintM, if_pos hc, if_neg (by omega), if_neg (by rw [e64]; omega), valD_cons]
    refine parse_M r _ (fun x hx => h x (List.mem_cons_of_mem _ hx)) ?_
    have : (acc * 10 + (c.toNat - 48) + 1) * 10 ^ r.length ≤ (acc * 10 + 10) * 10 ^ r.length := Nat.mul_le_mul_right _ (by omega)
    have e : (acc * 10 + 10) * 10 ^ r.length = (acc + 1) * (10 ^ r.length * 10) := by
      rw [show acc * 10 + 10 = (acc + 1) * 10 by omega, Nat.mul_assoc, Nat.mul_comm 10]
    omega
theorem parse_U {ds : List UInt8} (h1 : ds ≠ []) (h2 : ds.length ≤ 18) (h3 : ∀ c ∈ ds, dgB c = true) : Lib.parseUintB 64 ds = .ok (valD 0 ds) := by
  rw [Lib.parseUintB, if_neg h1]
  refine parse_M ds 0 h3 ?_
  have b : 10 ^ ds.length ≤ 10 ^ 18 := Nat.pow_le_pow_right (by decide) h2
  have c : 10 ^ 18 = 1000000000000000000 := by decide
  omega
theorem num_parse {t : List UInt8} {v : Int} (h : num t = some v) : Lib.parseIntB 64 t = .ok v := by
  have hl := num_lt h
  have e63 : (2 : Nat) ^ (64 - 1) = 9223372036854775808 := by decide
  cases t with
  | nil => cases h
  | cons c r =>
    rw [num] at h
    by_cases e : c = 45
    · subst e
      rw [if_pos rfl] at h
      split at h
      · rename_i k
        obtain ⟨k1, k2, k3, k4⟩ := okD_iff.1 k
        obtain rfl := Option.some.inj h
        rw [Lib.parseIntB_minus, parse_U k1 k2 k4, Lib.signedC, if_neg (by omega)]
      · cases h
    · rw [if_neg e] at h
      split at h
      · rename_i k
        obtain ⟨k1, k2, k3, k4⟩ := okD_iff.1 k
        have hc := k4 c (List.mem_cons_self ..)
        simp only [dgB, decide_eq_true_eq] at hc
        obtain rfl := Option.some.inj h
        rw [Lib.parseIntB_plain 64 c r (by omega) (by omega), parse_U k1 k2 k4, Lib.signlessC, if_neg (by omega)]
      · cases h
/-- The digits of a numeral: what stands behind a sign. -/
theorem num_trim {t : List UInt8} {v : Int} (h : num t = some v) : (Lib.trimPrefix t [45]).length ≤ 18 := by
  cases t with
  | nil => cases h
  | cons c r =>
    rw [num] at h
    by_cases e : c = 45
    · subst e
      rw [if_pos rfl] at h
      split at h
      · rename_i k
        have := (okD_iff.1 k).2.1
        simpa [Lib.trimPrefix, Lib.hasPrefix, List.isPrefixOf] using this
      · cases h
    · rw [if_neg e] at h
      split at h
      · rename_i k
        have := (okD_iff.1 k).2.1
        have e2 : Lib.trimPrefix (c :: r) [45] = c :: r := by
          simp [Lib.trimPrefix, Lib.hasPrefix, List.isPrefixOf, Ne.symm e]
        rw [e2]; exact this
      · cases h
theorem dec_long {u : Nat} (h : (Lib.decDigits u).length ≤ 18) : u < 1000000000000000000 := by
  have a := valD_lt (Lib.decDigits u) 0 (dec_dg u)
  rw [val_dec] at a
  have b : 10 ^ (Lib.decDigits u).length ≤ 10 ^ 18 := Nat.pow_le_pow_right (by decide) h
  have c : 10 ^ 18 = 1000000000000000000 := by decide
  omega
theorem itoa_small {v : Int} (h : (Lib.trimPrefix (Lib.itoa v) [45]).length ≤ 18) : -1000000000000000000 < v ∧ v < 1000000000000000000 := by
  unfold Lib.itoa at h
  by_cases c : v < 0
  · rw [if_pos c] at h
    have e : Lib.trimPrefix (45 :: Lib.decDigits v.natAbs) [45] = Lib.decDigits v.natAbs := by simp [Lib.trimPrefix, Lib.hasPrefix, List.isPrefixOf]
    rw [e] at h
    have := dec_long h
    omega
  · rw [if_neg c] at h
    have hd := dec_dg v.toNat
    have hn := dec_ne v.toNat
    have e : Lib.trimPrefix (Lib.decDigits v.toNat) [45] = Lib.decDigits v.toNat := by
      revert hd hn
      generalize Lib.decDigits v.toNat = l
      intro hd hn
      cases l with
      | nil => rfl
      | cons x r => simp [Lib.trimPrefix, Lib.hasPrefix, List.isPrefixOf, Ne.symm (not45 (hd x (List.mem_cons_self ..)))]
    rw [e] at h
    have := dec_long h
    omega
/-- The pieces of a text between the bytes c. -/
def spL (c : UInt8) : List UInt8 → List (List UInt8)
  | [] => [[]]
  | b :: l => if b = c then [] :: spL c l else (match spL c l with
    | [] => [[b]]
    | p :: ps => (b :: p) :: ps)
theorem spL_ne (c : UInt8) : ∀ l, spL c l ≠ []
  | [] => by simp [spL]
  | b :: l => by
    rw [spL]
    split
    · simp
    · split <;> simp
theorem spL_hit (c : UInt8) (l : List UInt8) : spL c (c :: l) = [] :: spL c l := by rw [spL, if_pos rfl]
theorem spL_miss (c b : UInt8) (l : List UInt8) (h : b ≠ c) : ∃ p ps, spL c l = p :: ps ∧ spL c (b :: l) = (b :: p) :: ps := by
  cases e : spL c l with
  | nil => exact absurd e (spL_ne c l)
  | cons p ps => exact ⟨p, ps, rfl, by rw [spL, if_neg h, e]⟩
theorem spL_clean (c : UInt8) : ∀ l, ∀ p ∈ spL c l, c ∉ p
  | [], p, hp => by
    simp only [spL, List.mem_singleton] at hp
    subst hp
    simp
  | b :: l, p, hp => by
    by_cases h : b = c
    · subst h
      rw [spL_hit] at hp
      rcases List.mem_cons.1 hp with rfl | hp
      · simp
      · exact spL_clean b l p hp
    · obtain ⟨q, qs, e1, e2⟩ := spL_miss c b l h
      rw [e2] at hp
      have ih := spL_clean c l
      rw [e1] at ih
      rcases List.mem_cons.1 hp with rfl | hp
      · have := ih q (List.mem_cons_self ..)
        simp only [List.mem_cons, not_or]
        exact ⟨fun e => h e.symm, this⟩
      · exact ih p (List.mem_cons_of_mem _ hp)
theorem spL_none (c : UInt8) : ∀ l, c ∉ l → spL c l = [l]
  | [], _ => rfl
  | b :: l, h => by
    simp only [List.mem_cons, not_or] at h
    obtain ⟨q, qs, e1, e2⟩ := spL_miss c b l (fun e => h.1 e.symm)
    rw [spL_none c l h.2] at e1
    injection e1 with h1 h2
    rw [e2, ← h1, ← h2]
theorem spL_app (c : UInt8) : ∀ (p l : List UInt8), c ∉ p → spL c (p ++ c :: l) = p :: spL c l
  | [], l, _ => by rw [List.nil_append, spL_hit]
  | b :: p, l, h => by
    simp only [List.mem_cons, not_or] at h
    obtain ⟨q, qs, e1, e2⟩ := spL_miss c b (p ++ c :: l) (fun e => h.1 e.symm)
    rw [spL_app c p l h.2] at e1
    injection e1 with h1 h2
    rw [List.cons_append, e2, ← h1, ← h2]
/-- Pieces, joined. -/
theorem join_cons2 (p q : List UInt8) (ps : List (List UInt8)) (s : List UInt8) : Lib.join (p :: q :: ps) s = p ++ (s ++ Lib.join (q :: ps) s) := by
  rw [Lib.join_cons, Lib.join_cons]
  simp [Lib.joinTail]
theorem join_sp (c : UInt8) : ∀ l, Lib.join (spL c l) [c] = l
  | [] => by simp [spL, Lib.join_one]
  | b :: l => by
    have ih := join_sp c l
    by_cases h : b = c
    · subst h
      rw [spL_hit]
      cases e : spL b l with
      | nil => exact absurd e (spL_ne b l)
      | cons q qs =>
        rw [e] at ih
        rw [join_cons2, ih]
        rfl
    · obtain ⟨q, qs, e1, e2⟩ := spL_miss c b l h
      rw [e2]
      rw [e1] at ih
      rw [Lib.join_cons] at ih ⊢
      rw [List.cons_append, ih]
/-- What was joined is divided again. -/
theorem sp_join (c : UInt8) : ∀ ps : List (List UInt8), ps ≠ [] → (∀ p ∈ ps, c ∉ p) → spL c (Lib.join ps [c]) = ps
  | [], h, _ => absurd rfl h
  | [p], _, h => by rw [Lib.join_one, spL_none c p (h p (List.mem_cons_self ..))]
  | p :: q :: ps, _, h => by
    rw [join_cons2, List.singleton_append, spL_app c p _ (h p (List.mem_cons_self ..)), sp_join c (q :: ps) (by simp) (fun x hx => h x (List.mem_cons_of_mem _ hx))]
theorem index_byte (c : UInt8) (l : List UInt8) : (c ∉ l ∧ Lib.index l [c] = -1) ∨ ∃ p r, l = p ++ c :: r ∧ c ∉ p ∧ Lib.index l [c] = (p.length : Int) := by
  induction l with
  | nil => exact .inl ⟨by simp, by simp [Lib.index]⟩
  | cons b l ih =>
    by_cases h : b = c
    · subst h
      exact .inr ⟨[], l, rfl, by simp, by simp [Lib.index, List.isPrefixOf]⟩
    · have hp : ([c] : List UInt8).isPrefixOf (b :: l) = false := by simp [List.isPrefixOf, Ne.symm h]
      rcases ih with ⟨h1, h2⟩ | ⟨p, r, rfl, h1, h2⟩
      · left
        refine ⟨by simp only [List.mem_cons, not_or]; exact ⟨fun e => h e.symm, h1⟩, ?_⟩
        rw [Lib.index, hp, h2]
        rfl
      · right
        refine ⟨b :: p, r, rfl, by simp only [List.mem_cons, not_or]; exact ⟨fun e => h e.symm, h1⟩, ?_⟩
        rw [Lib.index, hp, h2]
        have : ((p.length : Int) == -1) = false := by rw [beq_eq_false_iff_ne]; omega
        rw [this, List.length_cons]
        simp
/-- The library's pieces: all, if there are at most k more than one, and else k + 1 that put together are the text. -/
theorem splitK_sp (c : UInt8) : ∀ (k : Nat) (l : List UInt8), ((spL c l).length ≤ k + 1 → Lib.splitK [c] 0 k l = spL c l) ∧ (k + 1 < (spL c l).length → (Lib.splitK [c] 0 k l).length = k + 1)
  | 0, l => by
    refine ⟨fun h => ?_, fun h => rfl⟩
    have hne := spL_ne c l
    have hj := join_sp c l
    cases e : spL c l with
    | nil => exact absurd e hne
    | cons p ps =>
      rw [e] at h hj
      have : ps = [] := List.eq_nil_of_length_eq_zero (by rw [List.length_cons] at h; omega)
      subst this
      rw [Lib.join_one] at hj
      rw [hj]
      rfl
  | k + 1, l => by
    rcases index_byte c l with ⟨h1, h2⟩ | ⟨p, r, rfl, h1, h2⟩
    · have e : Lib.splitK [c] 0 (k + 1) l = [l] := by rw [Lib.splitK, h2]; rfl
      rw [e, spL_none c l h1]
      exact ⟨fun _ => rfl, fun h => by simp at h⟩
    · have e : Lib.splitK [c] 0 (k + 1) (p ++ c :: r) = p :: Lib.splitK [c] 0 k r := by
        have hm : ((p.length : Int) == -1) = false := by rw [beq_eq_false_iff_ne]; omega
        rw [Lib.splitK, h2, hm]
        simp only [Bool.false_eq_true, if_false, Int.toNat_natCast, Nat.add_zero, List.length_singleton]
        rw [List.take_left, show (p ++ c :: r).drop (p.length + 1) = r by rw [← List.drop_drop, List.drop_left]; rfl]
      have ih := splitK_sp c k r
      rw [e, spL_app c p r h1, List.length_cons, List.length_cons]
      exact ⟨fun h => by rw [ih.1 (by omega)], fun h => by rw [ih.2 (by omega)]⟩
theorem splitK_mem (c : UInt8) (k : Nat) (l : List UInt8) : Lib.join (Lib.splitK [c] 0 k l) [c] = l ∧ Lib.splitK [c] 0 k l ≠ [] := by
  induction k generalizing l with
  | zero => exact ⟨Lib.join_one .., by simp [Lib.splitK]⟩
  | succ k ih =>
    rcases index_byte c l with ⟨h1, h2⟩ | ⟨p, r, rfl, h1, h2⟩
    · have e : Lib.splitK [c] 0 (k + 1) l = [l] := by rw [Lib.splitK, h2]; rfl
      rw [e]
      exact ⟨Lib.join_one .., by simp⟩
    · have e : Lib.splitK [c] 0 (k + 1) (p ++ c :: r) = p :: Lib.splitK [c] 0 k r := by
        have hm : ((p.length : Int) == -1) = false := by rw [beq_eq_false_iff_ne]; omega
        rw [Lib.splitK, h2, hm]
        simp only [Bool.false_eq_true, if_false, Int.toNat_natCast, Nat.add_zero, List.length_singleton]
        rw [List.take_left, show (p ++ c :: r).drop (p.length + 1) = r by rw [← List.drop_drop, List.drop_left]; rfl]
      obtain ⟨i1, i2⟩ := ih r
      rw [e]
      refine ⟨?_, by simp⟩
      cases e2 : Lib.splitK [c] 0 k r with
      | nil => exact absurd e2 i2
      | cons q qs => rw [e2] at i1; rw [join_cons2, i1]; rfl
theorem bA_data (s : ByteArray) : bA s.data.toList = s := by
  apply ByteArray.ext
  simp [bA]
theorem bA_inj {a b : List UInt8} (h : bA a = bA b) : a = b := by
  have := congrArg (fun s : ByteArray => s.data.toList) h
  simpa [bA] using this
theorem bA_tl (l : List UInt8) : (bA l).toList = l := by rw [ByteArray.toList_eq]; rfl
theorem map_back (xs : List ByteArray) : xs = (xs.map (·.data.toList)).map bA := by
  rw [List.map_map]
  conv => lhs; rw [← List.map_id xs]
  apply List.map_congr_left
  intro x _
  exact (bA_data x).symm
theorem splitB_sp (c : UInt8) (k : Nat) (l : List UInt8) : Lib.splitB (bA [c]) 0 k (bA l) = (Lib.splitK [c] 0 k l).map bA := by
  rw [map_back (Lib.splitB (bA [c]) 0 k (bA l)), Lib.splitB_data]
  rfl
theorem spL_len (c : UInt8) : ∀ l : List UInt8, (spL c l).length ≤ l.length + 1
  | [] => by simp [spL]
  | b :: l => by
    have ih := spL_len c l
    by_cases h : b = c
    · subst h
      rw [spL_hit, List.length_cons, List.length_cons]
      omega
    · obtain ⟨q, qs, e1, e2⟩ := spL_miss c b l h
      rw [e1] at ih
      rw [e2, List.length_cons, List.length_cons]
      rw [List.length_cons] at ih
      omega
theorem count_sp (c : UInt8) : ∀ l : List UInt8, (spL c l).length = l.count c + 1
  | [] => by simp [spL]
  | b :: l => by
    have ih := count_sp c l
    by_cases h : b = c
    · subst h
      rw [spL_hit, List.length_cons, ih, List.count_cons_self]
    · obtain ⟨q, qs, e1, e2⟩ := spL_miss c b l h
      rw [e1] at ih
      rw [e2, List.length_cons, List.count_cons_of_ne (by simpa using h)]
      rw [List.length_cons] at ih
      omega
/-- The text of a list that may be empty. -/
def ltB (l : List Int) : List UInt8 := if l.length = 0 then [45] else tx l l.length
theorem ltB_nil : ltB [] = [45] := rfl
theorem ltB_join {l : List Int} (h : l ≠ []) : ltB l = Lib.join (l.map Lib.itoa) [44] := by
  unfold ltB tx
  rw [if_neg (by have := List.length_pos_iff.2 h; omega), List.take_length]
/-- A list of numbers that has a text. -/
def fitsL (l : List Int) : Prop := l.length ≤ 64 ∧ ∀ x ∈ l, -1000000000000 ≤ x ∧ x ≤ 1000000000000
/-- Bytes of a numeral. -/
def nuB (c : UInt8) : Bool := dgB c || decide (c = 45)
theorem itoa_nu (v : Int) : ∀ c ∈ Lib.itoa v, nuB c = true := by
  intro c hc
  unfold Lib.itoa at hc
  split at hc
  · rcases List.mem_cons.1 hc with rfl | hc
    · decide
    · rw [nuB, dec_dg _ c hc]; rfl
  · rw [nuB, dec_dg _ c hc]; rfl
theorem nu_not {c d : UInt8} (h : nuB c = true) (hd : nuB d = false) : c ≠ d := by
  rintro rfl
  rw [h] at hd
  cases hd
theorem itoa_not (v : Int) (d : UInt8) (hd : nuB d = false) : d ∉ Lib.itoa v := fun h => nu_not (itoa_nu v d h) hd rfl
theorem itoa_ne (v : Int) : Lib.itoa v ≠ [] := by
  unfold Lib.itoa
  split
  · simp
  · exact dec_ne _
theorem join_mem (s : List UInt8) (c : UInt8) : ∀ ps : List (List UInt8), c ∈ Lib.join ps s → c ∈ s ∨ ∃ p ∈ ps, c ∈ p
  | [], h => by simp [Lib.join_nil] at h
  | [p], h => by rw [Lib.join_one] at h; exact .inr ⟨p, by simp, h⟩
  | p :: q :: ps, h => by
    rw [join_cons2] at h
    rcases List.mem_append.1 h with h | h
    · exact .inr ⟨p, by simp, h⟩
    · rcases List.mem_append.1 h with h | h
      · exact .inl h
      · rcases join_mem s c (q :: ps) h with h | ⟨p', h1, h2⟩
        · exact .inl h
        · exact .inr ⟨p', List.mem_cons_of_mem _ h1, h2⟩
theorem ltB_not (l : List Int) (d : UInt8) (hd : nuB d = false) (h44 : d ≠ 44) : d ∉ ltB l := by
  intro h
  by_cases e : l = []
  · subst e
    rw [ltB_nil, List.mem_singleton] at h
    subst h
    cases hd
  · rw [ltB_join e] at h
    rcases join_mem _ _ _ h with h | ⟨p, h1, h2⟩
    · exact h44 (List.mem_singleton.1 h)
    · obtain ⟨v, _, rfl⟩ := List.mem_map.1 h1
      exact itoa_not v d hd h2
/-- The numbers with numerals, all with a property. -/
def numsP (P : Int → Bool) : List (List UInt8) → Option (List Int)
  | [] => some []
  | p :: ps => match num p with
    | none => none
    | some v => if P v then (match numsP P ps with | none => none | some l => some (v :: l)) else none
theorem numsP_some {P : Int → Bool} : ∀ {ps : List (List UInt8)} {l : List Int}, numsP P ps = some l → ps = l.map Lib.itoa ∧ (∀ v ∈ l, P v = true) ∧ ∀ v ∈ l, -1000000000000000000 < v ∧ v < 1000000000000000000
  | [], l, h => by
    obtain rfl := Option.some.inj h
    simp
  | p :: ps, l, h => by
    rw [numsP] at h
    cases e : num p with
    | none => rw [e] at h; cases h
    | some v =>
      rw [e] at h
      dsimp only at h
      split at h
      · rename_i hv
        cases e2 : numsP P ps with
        | none => rw [e2] at h; cases h
        | some r =>
          rw [e2] at h
          obtain rfl := Option.some.inj h
          obtain ⟨i1, i2, i3⟩ := numsP_some e2
          refine ⟨by rw [List.map_cons, ← i1, num_itoa e], ?_, ?_⟩
          · intro x hx
            rcases List.mem_cons.1 hx with rfl | hx
            · exact hv
            · exact i2 x hx
          · intro x hx
            rcases List.mem_cons.1 hx with rfl | hx
            · exact num_lt e
            · exact i3 x hx
      · cases h
theorem numsP_itoa {P : Int → Bool} : ∀ (l : List Int), (∀ v ∈ l, P v = true) → (∀ v ∈ l, -1000000000000000000 < v ∧ v < 1000000000000000000) → numsP P (l.map Lib.itoa) = some l
  | [], _, _ => rfl
  | v :: l, h1, h2 => by
    have hv := h2 v (List.mem_cons_self ..)
    rw [List.map_cons, numsP, itoa_num v hv.1 hv.2]
    dsimp only
    rw [if_pos (h1 v (List.mem_cons_self ..)), numsP_itoa l (fun x hx => h1 x (List.mem_cons_of_mem _ hx)) (fun x hx => h2 x (List.mem_cons_of_mem _ hx))]
def inV (v : Int) : Bool := decide (-1000000000000 ≤ v ∧ v ≤ 1000000000000)
/-- The list with a text. -/
def readL (t : List UInt8) : Option (List Int) := if t = [45] then some [] else if (spL 44 t).length ≤ 64 then numsP inV (spL 44 t) else none
theorem sp_ltB {l : List Int} (h : l ≠ []) : spL 44 (ltB l) = l.map Lib.itoa := by
  rw [ltB_join h]
  refine sp_join 44 _ (by simpa using h) ?_
  intro p hp
  obtain ⟨v, _, rfl⟩ := List.mem_map.1 hp
  exact itoa_not v 44 (by decide)
theorem num45 : num [45] = none := by decide
theorem read_text {l : List Int} (h : fitsL l) : readL (ltB l) = some l := by
  obtain ⟨h1, h2⟩ := h
  unfold readL
  by_cases e : l = []
  · subst e; rfl
  · have hs := sp_ltB e
    by_cases c : ltB l = [45]
    · exfalso
      rw [c] at hs
      have e1 : spL 44 [45] = [[45]] := by decide
      rw [e1] at hs
      cases l with
      | nil => exact e rfl
      | cons v r =>
        rw [List.map_cons] at hs
        injection hs with h3 h4
        have hv := h2 v (List.mem_cons_self ..)
        have := itoa_num v (by omega) (by omega)
        rw [← h3, num45] at this
        cases this
    · rw [if_neg c, hs, List.length_map, if_pos h1]
      exact numsP_itoa l (fun v hv => by have := h2 v hv; exact decide_eq_true this) (fun v hv => by have := h2 v hv; omega)
theorem read_some {t : List UInt8} {l : List Int} (h : readL t = some l) : ltB l = t ∧ fitsL l := by
  unfold readL at h
  split at h
  · rename_i c
    obtain rfl := Option.some.inj h
    exact ⟨c.symm, by simp, by simp⟩
  · split at h
    · rename_i c hc
      obtain ⟨i1, i2, i3⟩ := numsP_some h
      have hl : l ≠ [] := by
        rintro rfl
        exact spL_ne 44 t i1
      refine ⟨?_, ?_, ?_⟩
      · rw [ltB_join hl, ← i1, join_sp]
      · rw [i1, List.length_map] at hc; exact hc
      · intro x hx
        have := i2 x hx
        simpa [inV] using this
    · cases h
theorem ltB_inj {l m : List Int} (hl : fitsL l) (hm : fitsL m) (h : ltB l = ltB m) : l = m := by
  have := read_text hl
  rw [h, read_text hm] at this
  exact (Option.some.inj this).symm
/-- What the library's pieces say of the list with a text. -/
theorem read_pieces (t : List UInt8) (h45 : t ≠ [45]) (q : List (List UInt8)) (hq : q = Lib.splitK [44] 0 (min 65 (t.length + 1) - 1) t) :
    q ≠ [] ∧ q.length ≤ 65 ∧ (numsP (fun _ => true) q = none → readL t = none) ∧ (∀ l, numsP (fun _ => true) q = some l → l.length = q.length ∧ (fitsL l → readL t = some l) ∧ (¬ fitsL l → readL t = none)) := by
  have hne := (splitK_mem 44 (min 65 (t.length + 1) - 1) t).2
  have hk := splitK_sp 44 (min 65 (t.length + 1) - 1) t
  have hlen := spL_len 44 t
  rw [← hq] at hne hk
  have hall : ∀ ps l, numsP inV ps = some l → numsP (fun _ => true) ps = some l := by
    intro ps l h
    obtain ⟨i1, i2, i3⟩ := numsP_some h
    rw [i1]
    exact numsP_itoa l (fun _ _ => rfl) i3
  have hlq : ∀ l, numsP (fun _ => true) q = some l → l.length = q.length := by
    intro l hl
    rw [(numsP_some hl).1, List.length_map]
  by_cases c : (spL 44 t).length ≤ (min 65 (t.length + 1) - 1) + 1
  · have e := hk.1 c
    refine ⟨hne, by rw [e]; omega, ?_, ?_⟩
    · intro h
      unfold readL
      rw [if_neg h45]
      split
      · cases e2 : numsP inV (spL 44 t) with
        | none => rfl
        | some l => rw [e, hall _ _ e2] at h; cases h
      · rfl
    · intro l hl
      have hlen2 := hlq l hl
      obtain ⟨i1, -, i3⟩ := numsP_some hl
      refine ⟨hlen2, ?_, ?_⟩
      · intro hf
        unfold readL
        rw [if_neg h45, ← e, if_pos (by have := hf.1; omega), i1]
        exact numsP_itoa l (fun v hv => decide_eq_true (hf.2 v hv)) i3
      · intro hf
        cases e2 : readL t with
        | none => rfl
        | some m =>
          exfalso
          have hm := read_some e2
          unfold readL at e2
          rw [if_neg h45] at e2
          split at e2
          · have := hall _ _ e2
            rw [← e, hl] at this
            obtain rfl := Option.some.inj this
            exact hf hm.2
          · cases e2
  · have e := hk.2 (by omega)
    have hn : readL t = none := by
      unfold readL
      rw [if_neg h45, if_neg (by omega)]
    refine ⟨hne, by omega, fun _ => hn, fun l hl => ⟨hlq l hl, ?_, fun _ => hn⟩⟩
    intro hf
    have := hlq l hl
    have := hf.1
    omega
theorem bt_bA {l : List UInt8} {i : Nat} (h : i < l.length) : bt (bA l) (i : Int) = (l[i].toNat : Int) := by
  have h2 : (i : Int).toNat < (bA l).size := by rw [bA_size]; omega
  rw [bt, dif_pos h2]
  congr 2
theorem ext_bA (l : List UInt8) (a b : Nat) : (bA l).extract a b = bA ((l.drop a).take (b - a)) := Lib.extract_mk l a b
theorem rdP_at {x : List (List UInt8)} {j : Nat} (h : j < x.length) : rdOf ByteArray.empty (x.map bA) (j : Int) = bA x[j] := by
  simp [rdOf, List.getD_eq_getElem?_getD, List.getElem?_eq_getElem h]
theorem byte_eq {a b : UInt8} : (a.toNat : Int) = (b.toNat : Int) ↔ a = b := by
  constructor
  · intro h
    exact UInt8.toNat_inj.1 (by omega)
  · rintro rfl
    rfl
theorem take_snoc {α : Type} (l : List α) (a n : Nat) (h : a + n < l.length) : (l.drop a).take (n + 1) = (l.drop a).take n ++ [l[a + n]] := by
  rw [List.take_succ_eq_append_getElem (by rw [List.length_drop]; omega), List.getElem_drop]
/-- The reference's division. -/
theorem split_l0 (t : List UInt8) (c : UInt8) (ht : t.length ≤ 1048576) : ∀ (d i fr k : Nat) (out : List ByteArray), i + d = t.length → fr ≤ i → c ∉ (t.drop fr).take (i - fr) → out.length ≤ i → d < k →
    spec_l01Split.l0 k (bA t) (c.toNat : Int) out (fr : Int) (i : Int) = some (out ++ (spL c (t.drop fr)).map bA)
  | 0, i, fr, k, out, hi, hf, hc, ho, hk => by
    obtain ⟨k, rfl⟩ := dsucc (n := 0) (k := k) (by omega)
    have e : (t.drop fr).take (i - fr) = t.drop fr := List.take_of_length_le (by rw [List.length_drop]; omega)
    rw [e] at hc
    rw [spec_l01Split.l0, bA_size, if_neg (by omega), if_pos (by omega), if_pos (by omega), if_pos (by omega), spL_none c _ hc, Int.toNat_natCast, ext_bA, List.take_of_length_le (by rw [List.length_drop]; omega)]
    rfl
  | d + 1, i, fr, k, out, hi, hf, hc, ho, hk => by
    obtain ⟨k, rfl⟩ := dsucc (n := 0) (k := k) (by omega)
    have hlt : i < t.length := by omega
    rw [spec_l01Split.l0, bA_size, if_pos (by omega), if_pos (by omega), bt_bA hlt, show wrap64 ((i : Int) + 1) = ((i + 1 : Nat) : Int) by rw [dw64 (by omega) (by omega)]; omega]
    by_cases e : t[i] = c
    · rw [if_pos (by rw [e]), if_pos (by omega), if_pos (by omega), if_pos (by omega), if_pos (by omega), Int.toNat_natCast, Int.toNat_natCast, ext_bA]
      have hd : t.drop fr = (t.drop fr).take (i - fr) ++ c :: t.drop (i + 1) := by
        conv => lhs; rw [← List.take_append_drop (i - fr) (t.drop fr), List.drop_drop, show fr + (i - fr) = i by omega, List.drop_eq_getElem_cons hlt, e]
      rw [split_l0 t c ht d (i + 1) (i + 1) k _ (by omega) (Nat.le_refl _) (by simp) (by rw [List.length_append, List.length_singleton]; omega) (by omega)]
      conv => rhs; rw [hd, spL_app c _ _ hc]
      rw [List.map_cons, List.append_assoc]
      rfl
    · rw [if_neg (fun h => e (byte_eq.1 h))]
      refine split_l0 t c ht d (i + 1) fr k out (by omega) (by omega) ?_ (by omega) (by omega)
      rw [show i + 1 - fr = (i - fr) + 1 by omega, take_snoc t fr (i - fr) (by omega)]
      simp only [List.mem_append, List.mem_singleton, not_or]
      refine ⟨hc, fun h => e ?_⟩
      rw [h]
      congr 1
      omega
theorem split_spec (t : List UInt8) (c : UInt8) (ht : t.length ≤ 1048576) (k : Nat) (hk : 1048577 ≤ k) : spec_l01Split.f k (bA t) (c.toNat : Int) = some ((spL c t).map bA) := by
  rw [spec_l01Split.f]
  exact split_l0 t c ht t.length 0 0 k [] (by omega) (Nat.le_refl _) (by simp) (Nat.le_refl _) (by omega)
/-- What a reader of numbers gives. -/
def nr : Option Int → Int × Bool
  | some v => (v, true)
  | none => (0, false)
theorem dig_spec (c : UInt8) : spec_l01Digit.f (c.toNat : Int) = some (dgB c) := by
  rw [spec_l01Digit.f, dgB]
  by_cases h : (c.toNat : Int) ≥ 48
  · rw [if_pos h]
    congr 1
    rw [decide_eq_decide]
    omega
  · rw [if_neg h, decide_eq_false (by omega)]
theorem num_l0 (t : List UInt8) (b : Int) : ∀ (d i k acc : Nat), i + d = t.length → (acc + 1) * 10 ^ d ≤ 1000000000000000000 → t.length ≤ 1048576 → d < k →
    spec_l01Number.l0 k (bA t) b (acc : Int) (i : Int) = some (if (t.drop i).all dgB then (if b = 1 then (-(valD acc (t.drop i) : Int), true) else ((valD acc (t.drop i) : Int), true)) else (0, false))
  | 0, i, k, acc, hi, ha, ht, hk => by
    obtain ⟨k, rfl⟩ := dsucc (n := 0) (k := k) (by omega)
    rw [Nat.pow_zero, Nat.mul_one] at ha
    rw [spec_l01Number.l0, bA_size, if_neg (by omega), List.drop_eq_nil_of_le (by omega), List.all_nil, if_pos rfl, valD_nil, dw64 (by omega) (by omega)]
    split <;> rfl
  | d + 1, i, k, acc, hi, ha, ht, hk => by
    obtain ⟨k, rfl⟩ := dsucc (n := 0) (k := k) (by omega)
    have hlt : i < t.length := by omega
    rw [Nat.pow_succ] at ha
    have hp : 1 ≤ 10 ^ d := Nat.one_le_pow _ _ (by decide)
    have h1 : (acc + 1) * 10 ≤ (acc + 1) * (10 ^ d * 10) := Nat.mul_le_mul_left _ (by omega)
    rw [spec_l01Number.l0, bA_size, if_pos (by omega), if_pos (by omega), bt_bA hlt, dig_spec, Option.bind_some, List.drop_eq_getElem_cons hlt, List.all_cons]
    cases e : dgB t[i]
    · simp
    · have hc : 48 ≤ t[i].toNat ∧ t[i].toNat ≤ 57 := by simpa [dgB] using e
      rw [if_pos rfl, Bool.true_and, valD_cons, dw64 (n := 10 * (acc : Int)) (by omega) (by omega), dw64 (by omega) (by omega), dw64 (n := (i : Int) + 1) (by omega) (by omega),
        show 10 * (acc : Int) + ((t[i].toNat : Int) - 48) % 256 = ((acc * 10 + (t[i].toNat - 48) : Nat) : Int) by omega, show ((i : Int) + 1) = ((i + 1 : Nat) : Int) by omega]
      refine num_l0 t b d (i + 1) k _ (by omega) ?_ ht (by omega)
      have : (acc * 10 + (t[i].toNat - 48) + 1) * 10 ^ d ≤ (acc * 10 + 10) * 10 ^ d := Nat.mul_le_mul_right _ (by omega)
      have e2 : (acc * 10 + 10) * 10 ^ d = (acc + 1) * (10 ^ d * 10) := by
        rw [show acc * 10 + 10 = (acc + 1) * 10 by omega, Nat.mul_assoc, Nat.mul_comm 10]
      omega
theorem p18 {d : Nat} (h : d ≤ 18) : (0 + 1) * 10 ^ d ≤ 1000000000000000000 := by
  rw [Nat.zero_add, Nat.one_mul, ← pow18]
  exact Nat.pow_le_pow_right (by decide) h
theorem num_run (t : List UInt8) (b : Int) (i k : Nat) (hi : i ≤ t.length) (h18 : t.length - i ≤ 18) (ht : t.length ≤ 1048576) (hk : 20 ≤ k) :
    spec_l01Number.l0 k (bA t) b 0 (i : Int) = some (if (t.drop i).all dgB then (if b = 1 then (-(valD 0 (t.drop i) : Int), true) else ((valD 0 (t.drop i) : Int), true)) else (0, false)) :=
  num_l0 t b (t.length - i) i k 0 (by omega) (p18 h18) ht (by omega)
theorem num_j1 (t : List UInt8) (b : Nat) (k : Nat) (hb : b ≤ 1) (hl : b ≤ t.length) (ht : t.length ≤ 1048576) (hk : 22 ≤ k) :
    spec_l01Number.j1 k (bA t) (b : Int) = some (if okD (decide (b = 1)) (t.drop b) then ((if b = 1 then -(valD 0 (t.drop b) : Int) else (valD 0 (t.drop b) : Int)), true) else (0, false)) := by
  obtain ⟨k, rfl⟩ := dsucc (n := 0) (k := k) (by omega)
  obtain ⟨k, rfl⟩ := dsucc (n := 0) (k := k) (by omega)
  rw [spec_l01Number.j1, bA_size]
  by_cases c1 : (t.length : Int) = b
  · rw [if_pos c1, spec_l01Number.j2, if_pos rfl, List.drop_eq_nil_of_le (by omega)]
    simp [okD]
  · rw [if_neg c1, dw64 (by omega) (by omega)]
    by_cases c2 : (t.length : Int) - b > 18
    · have hf : okD (decide (b = 1)) (t.drop b) = false := by
        cases h : okD (decide (b = 1)) (t.drop b)
        · rfl
        · have := (okD_iff.1 h).2.1
          rw [List.length_drop] at this
          omega
      rw [if_pos c2, spec_l01Number.j2, if_pos rfl, hf]
      rfl
    · have hlt : b < t.length := by omega
      have hd : t.drop b = t[b] :: t.drop (b + 1) := List.drop_eq_getElem_cons hlt
      rw [if_neg c2, if_pos (by omega), if_pos (by omega), bt_bA hlt]
      have run := num_run t (b : Int) b k (by omega) (by omega) ht (by omega)
      have fin : (∀ h : t[b] = 48, b = 0 ∧ t.length = 1) → spec_l01Number.j2 (k + 1) (bA t) (b : Int) false = some (if okD (decide (b = 1)) (t.drop b) then ((if b = 1 then -(valD 0 (t.drop b) : Int) else (valD 0 (t.drop b) : Int)), true) else (0, false)) := by
        intro h48
        rw [spec_l01Number.j2, if_neg (by simp), run]
        have e1 : okD (decide (b = 1)) (t.drop b) = (t.drop b).all dgB := by
          rw [Bool.eq_iff_iff, okD_iff]
          constructor
          · intro h; exact List.all_eq_true.2 h.2.2.2
          · intro h
            refine ⟨by rw [hd]; exact List.cons_ne_nil _ _, by rw [List.length_drop]; omega, ?_, List.all_eq_true.1 h⟩
            by_cases e : t[b] = 48
            · have := h48 e
              exact .inr ⟨decide_eq_false (by omega), by rw [List.length_drop]; omega⟩
            · exact .inl (by rw [hd, List.head?_cons]; intro h; exact e (Option.some.inj h))
        rw [e1]
        cases (t.drop b).all dgB
        · rfl
        · by_cases c : b = 1
          · subst c; rfl
          · rw [if_pos rfl, if_pos rfl, if_neg (by omega), if_neg c]
      by_cases c3 : t[b] = 48
      · rw [if_pos (by rw [c3]; rfl)]
        by_cases c4 : t.length > 1
        · have hf : okD (decide (b = 1)) (t.drop b) = false := by
            cases h : okD (decide (b = 1)) (t.drop b)
            · rfl
            · have h3 := (okD_iff.1 h).2.2.1
              rw [List.length_drop, hd, List.head?_cons, c3] at h3
              rcases h3 with h3 | ⟨h3, h4⟩
              · exact absurd rfl h3
              · have := of_decide_eq_false h3; omega
          rw [decide_eq_true (by omega), spec_l01Number.j2, if_pos rfl, hf]
          rfl
        · rw [decide_eq_false (by omega)]
          exact fin (fun _ => by omega)
      · rw [if_neg (show ¬ ((t[b].toNat : Int) = 48) from fun h => c3 ((byte_eq (b := 48)).1 h))]
        exact fin (fun h => absurd h c3)
/-- The reference's numbers. -/
theorem num_spec (t : List UInt8) (ht : t.length ≤ 1048576) (k : Nat) (hk : 30 ≤ k) : spec_l01Number.f k (bA t) = some (nr (num t)) := by
  obtain ⟨k, rfl⟩ := dsucc (n := 0) (k := k) (by omega)
  rw [spec_l01Number.f, bA_size]
  cases t with
  | nil =>
    have := num_j1 [] 0 k (by omega) (by simp) (by simp) (by omega)
    rw [if_neg (by simp), spec_l01Number.j0, if_neg (by simp)]
    exact this
  | cons c r =>
    rw [if_pos (by rw [List.length_cons]; omega), if_pos (by rw [List.length_cons]; omega), spec_l01Number.j0, show bt (bA (c :: r)) 0 = (c.toNat : Int) from bt_bA (l := c :: r) (i := 0) (by simp)]
    have e45 : ((c.toNat : Int) == 45) = decide (c = 45) := by
      rw [Bool.eq_iff_iff, beq_iff_eq, decide_eq_true_eq]
      exact byte_eq (b := 45)
    rw [e45, num]
    by_cases e : c = 45
    · rw [if_pos (decide_eq_true e), if_pos e]
      have := num_j1 (c :: r) 1 k (by omega) (by simp) ht (by omega)
      rw [show ((1 : Nat) : Int) = 1 from rfl] at this
      rw [this, List.drop_succ_cons, List.drop_zero, decide_eq_true rfl]
      cases okD true r <;> rfl
    · rw [if_neg (by simp [e]), if_neg e]
      have := num_j1 (c :: r) 0 k (by omega) (by simp) ht (by omega)
      rw [show ((0 : Nat) : Int) = 0 from rfl] at this
      rw [this, List.drop_zero, decide_eq_false (by omega)]
      cases okD false (c :: r) <;> rfl
/-- The program's numbers. -/
theorem num_impl (t : List UInt8) (ht : t.length ≤ 1048576) : impl_ReadDecimal.f (bA t) = some (nr (num t)) := by
  rw [impl_ReadDecimal.f, if_pos (by rw [bA_size]; exact ht), show (bA t).data.toList = t from rfl]
  cases hp : Lib.parseIntB 64 t with
  | «syntax» =>
    cases hn : num t with
    | none => rfl
    | some v => rw [num_parse hn] at hp; cases hp
  | range =>
    cases hn : num t with
    | none => rfl
    | some v => rw [num_parse hn] at hp; cases hp
  | ok v =>
    dsimp only
    have hb := Lib.parseIntB_bounds hp
    have e63 : (2 : Int) ^ (64 - 1) = 9223372036854775808 := by decide
    rw [impl_ReadDecimal.g, if_pos (by omega)]
    have htp : (impl_ReadDecimal.tp (bA t)).size = (Lib.trimPrefix t [45]).length := by
      unfold impl_ReadDecimal.tp
      simp [ByteArray.size, bA]
    rw [htp, show (⟨(Lib.itoa v).toArray⟩ : ByteArray) = bA (Lib.itoa v) from rfl, bA_tl, bA_tl]
    by_cases c1 : (Lib.trimPrefix t [45]).length ≤ 18
    · rw [if_pos c1]
      by_cases c2 : Lib.itoa v = t
      · rw [if_pos c2]
        rw [← c2] at c1
        have := itoa_small c1
        rw [← c2, itoa_num v this.1 this.2]
        rfl
      · rw [if_neg c2]
        cases hn : num t with
        | none => rfl
        | some u =>
          exfalso
          have := num_parse hn
          rw [hp] at this
          injection this with e
          rw [e] at c2
          exact c2 (num_itoa hn)
    · rw [if_neg c1]
      cases hn : num t with
      | none => rfl
      | some u => exact absurd (num_trim hn) c1
theorem mem_join_len (s : List UInt8) : ∀ (ps : List (List UInt8)), ∀ p ∈ ps, p.length ≤ (Lib.join ps s).length
  | [], p, h => by cases h
  | [q], p, h => by
    rw [List.mem_singleton.1 h, Lib.join_one]
    exact Nat.le_refl _
  | q :: r :: ps, p, h => by
    rw [join_cons2, List.length_append, List.length_append]
    rcases List.mem_cons.1 h with rfl | h
    · omega
    · have := mem_join_len s (r :: ps) p h
      omega
theorem sp_piece {c : UInt8} {t p : List UInt8} (h : p ∈ spL c t) : p.length ≤ t.length := by
  have := mem_join_len [c] _ p h
  rwa [join_sp] at this
theorem spk_piece {c : UInt8} {n : Nat} {t p : List UInt8} (h : p ∈ Lib.splitK [c] 0 n t) : p.length ≤ t.length := by
  have := mem_join_len [c] _ p h
  rwa [(splitK_mem c n t).1] at this
theorem splitN_f (t s : List UInt8) (n : Int) (c : UInt8) (hs : s = [c]) (ht : t.length ≤ 1048576) (h1 : 1 ≤ n) (h2 : n ≤ 1048576) : strings_SplitN.f (bA t) (bA s) n = some ((Lib.splitK [c] 0 (min n.toNat (t.length + 1) - 1) t).map bA) := by
  subst hs
  rw [strings_SplitN.f, bA_size, bA_size, if_pos ⟨ht, by simp, h1, h2⟩, splitB_sp]
end Go.Proofs.YtlmeijlandogaaaGreatDoor.Pure
