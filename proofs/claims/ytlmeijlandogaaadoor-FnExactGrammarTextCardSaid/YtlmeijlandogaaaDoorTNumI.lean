/- Numerals of at most eighteen digits: what is read is what is written. No condition. -/
import Derived.Test.YtlmeijlandogaaaDoorIx0
import Derived.Lib.ItoaNum
import Derived.Lib.ParseIntBCases
import Derived.Lib.Strings
namespace Go.Proofs.YtlmeijlandogaaaDoor.Pure
open Go Go.RowKit
/-- A byte that is a digit. -/
def dgB (c : UInt8) : Bool := decide (48 ≤ c.toNat ∧ c.toNat ≤ 57)
/-- What digits spell, behind what was spelt before. -/
def valD (acc : Nat) (l : List UInt8) : Nat := l.foldl (fun a c => a * 10 + (c.toNat - 48)) acc
theorem valD_nil (acc : Nat) : valD acc [] = acc := by unfold valD; rw [List.foldl_nil]
theorem valD_cons (acc : Nat) (c : UInt8) (r : List UInt8) : valD acc (c :: r) = valD (acc * 10 + (c.toNat - 48)) r := by unfold valD; rw [List.foldl_cons]
theorem dropLast_last {α : Type} {l : List α} (h : l ≠ []) : ∃ p c, l = p ++ [c] := ⟨l.dropLast, l.getLast h, (List.dropLast_concat_getLast h).symm⟩
theorem head_app {α : Type} {l : List α} (h : l ≠ []) (r : List α) : (l ++ r).head? = l.head? := by
  cases l with
  | nil => exact absurd rfl h
  | cons x t => rfl
theorem pow18 : 10 ^ 18 = 1000000000000000000 := by decide
/-- The digits of a numeral without a sign, if it is one of at most eighteen digits; big: a nought ahead is allowed for "0" alone and not behind a sign. -/
def okD (neg : Bool) (ds : List UInt8) : Bool := decide (ds ≠ []) && decide (ds.length ≤ 18) && (decide (ds.head? ≠ some 48) || (!neg && decide (ds.length = 1))) && ds.all dgB
/-- The number with a numeral. -/
def num : List UInt8 → Option Int
  | [] => none
  | c :: r => if c = 45 then (if okD true r then some (-(valD 0 r : Int)) else none) else (if okD false (c :: r) then some (valD 0 (c :: r) : Int) else none)
theorem valD_snoc (acc : Nat) (l : List UInt8) (c : UInt8) : valD acc (l ++ [c]) = valD acc l * 10 + (c.toNat - 48) := by
  induction l generalizing acc with
  | nil => rw [List.nil_append, valD_cons, valD_nil, valD_nil]
  | cons x r ih => rw [List.cons_append, valD_cons, valD_cons, ih]
theorem valD_lt : ∀ (l : List UInt8) (acc : Nat), (∀ c ∈ l, dgB c = true) → valD acc l < (acc + 1) * 10 ^ l.length
  | [], acc, _ => by rw [valD_nil, List.length_nil, Nat.pow_zero]; omega
  | c :: r, acc, h => by
    have hc := h c (List.mem_cons_self ..)
    simp only [dgB, decide_eq_true_eq] at hc
    have go := valD_lt r (acc * 10 + (c.toNat - 48)) (fun x hx => h x (List.mem_cons_of_mem _ hx))
    rw [valD_cons, List.length_cons, Nat.pow_succ]
    have : (acc * 10 + (c.toNat - 48) + 1) * 10 ^ r.length ≤ (acc * 10 + 10) * 10 ^ r.length := Nat.mul_le_mul_right _ (by omega)
    have e : (acc * 10 + 10) * 10 ^ r.length = (acc + 1) * (10 ^ r.length * 10) := by
      rw [show acc * 10 + 10 = (acc + 1) * 10 by omega, Nat.mul_assoc, Nat.mul_comm 10]
    omega
theorem valD_ge : ∀ (l : List UInt8) (acc : Nat), acc ≤ valD acc l
  | [], acc => by rw [valD_nil]; exact Nat.le_refl _
  | c :: r, acc => by
    rw [valD_cons]
    have := valD_ge r (acc * 10 + (c.toNat - 48))
    omega
theorem dgB_of {c : UInt8} (h : dgB c = true) : UInt8.ofNat (48 + (c.toNat - 48)) = c := by
  simp only [dgB, decide_eq_true_eq] at h
  rw [show 48 + (c.toNat - 48) = c.toNat by omega]
  exact UInt8.ofNat_toNat
/-- The digits of what digits spell are those digits. -/
theorem dec_val : ∀ (n : Nat) (l : List UInt8), l.length = n → l ≠ [] → (∀ c ∈ l, dgB c = true) → (l.head? ≠ some 48 ∨ l.length = 1) → Lib.decDigits (valD 0 l) = l
  | 0, l, h, hne, _, _ => absurd (List.eq_nil_of_length_eq_zero h) hne
  | n + 1, l, h, hne, hd, hz => by
    obtain ⟨p, c, rfl⟩ : ∃ p c, l = p ++ [c] := dropLast_last hne
    have hc := hd c (by simp)
    have hc2 : 48 ≤ c.toNat ∧ c.toNat ≤ 57 := by simpa [dgB] using hc
    rw [valD_snoc]
    by_cases e : p = []
    · subst e
      rw [valD_nil, Lib.decDigits, dif_pos (by omega), Nat.zero_mul, Nat.zero_add, dgB_of hc]
      rfl
    · have hp : 0 < p.length := List.length_pos_iff.2 e
      have hh : p.head? ≠ some 48 := by
        rcases hz with hz | hz
        · rw [head_app e] at hz; exact hz
        · rw [List.length_append, List.length_singleton] at hz; omega
      have hpos : 0 < valD 0 p := by
        cases p with
        | nil => exact absurd rfl e
        | cons x r =>
          have hx := hd x (by simp)
          simp only [dgB, decide_eq_true_eq] at hx
          have : x.toNat ≠ 48 := fun q => hh (by rw [List.head?_cons]; congr 1; exact UInt8.toNat_inj.1 q)
          rw [valD_cons]
          have := valD_ge r (0 * 10 + (x.toNat - 48))
          omega
      rw [Lib.decDigits, dif_neg (by omega), show (valD 0 p * 10 + (c.toNat - 48)) / 10 = valD 0 p by omega, show (valD 0 p * 10 + (c.toNat - 48)) % 10 = c.toNat - 48 by omega, dgB_of hc,
        dec_val n p (by simp at h; omega) e (fun x hx => hd x (by simp [hx])) (.inl hh)]
theorem dec_dg (u : Nat) : ∀ c ∈ Lib.decDigits u, dgB c = true := by
  induction u using Nat.strongRecOn with
  | _ u ih =>
    intro c hc
    rw [Lib.decDigits] at hc
    split at hc
    · rename_i h
      simp only [List.mem_singleton] at hc
      subst hc
      simp only [dgB, decide_eq_true_eq, UInt8.toNat_ofNat']
      omega
    · rename_i h
      rw [List.mem_append] at hc
      rcases hc with hc | hc
      · exact ih (u / 10) (by omega) c hc
      · simp only [List.mem_singleton] at hc
        subst hc
        simp only [dgB, decide_eq_true_eq, UInt8.toNat_ofNat']
        omega
theorem dec_ne (u : Nat) : Lib.decDigits u ≠ [] := by
  rw [Lib.decDigits]
  split <;> simp
theorem val_dec (u : Nat) : valD 0 (Lib.decDigits u) = u := by
  induction u using Nat.strongRecOn with
  | _ u ih =>
    rw [Lib.decDigits]
    split
    · rename_i h
      rw [valD_cons, valD_nil, UInt8.toNat_ofNat']
      omega
    · rename_i h
      rw [valD_snoc, ih (u / 10) (by omega), UInt8.toNat_ofNat']
      omega
theorem dec_head (u : Nat) (h : 0 < u) : (Lib.decDigits u).head? ≠ some 48 := by
  induction u using Nat.strongRecOn with
  | _ u ih =>
    rw [Lib.decDigits]
    split
    · rename_i h9
      simp only [List.head?_cons, ne_eq, Option.some.injEq]
      intro e
      have := congrArg UInt8.toNat e
      rw [UInt8.toNat_ofNat'] at this
      have e2 : (48 : UInt8).toNat = 48 := rfl
      omega
    · rename_i h9
      rw [head_app (dec_ne _)]
      exact ih (u / 10) (by omega) (by omega)
theorem dec_short (u d : Nat) (hd : 0 < d) (h : u < 10 ^ d) : (Lib.decDigits u).length ≤ d := by
  induction u using Nat.strongRecOn generalizing d with
  | _ u ih =>
    rw [Lib.decDigits]
    split
    · exact hd
    · rename_i h9
      rw [List.length_append, List.length_singleton]
      obtain ⟨d, rfl⟩ : ∃ e, d = e + 1 := ⟨d - 1, by omega⟩
      rcases Nat.eq_zero_or_pos d with z | z
      · subst z; simp at h; omega
      · have := ih (u / 10) (by omega) d z (by rw [Nat.pow_succ] at h; omega)
        omega
theorem okD_iff {neg : Bool} {ds : List UInt8} : okD neg ds = true ↔ ds ≠ [] ∧ ds.length ≤ 18 ∧ (ds.head? ≠ some 48 ∨ (neg = false ∧ ds.length = 1)) ∧ ∀ c ∈ ds, dgB c = true := by
  simp only [okD, Bool.and_eq_true, Bool.or_eq_true, decide_eq_true_eq, List.all_eq_true, Bool.not_eq_true', and_assoc]
theorem not45 {c : UInt8} (h : dgB c = true) : c ≠ 45 := by
  rintro rfl
  simp [dgB] at h
theorem num_itoa {t : List UInt8} {v : Int} (h : num t = some v) : Lib.itoa v = t := by
  cases t with
  | nil => cases h
  | cons c r =>
    rw [num] at h
    by_cases e : c = 45
    · subst e
      rw [if_pos rfl] at h
      split at h
      · rename_i k
        obtain ⟨k1, k2, k3, k4⟩ := okD_iff.1 k
        obtain rfl := Option.some.inj h
        have k3' : r.head? ≠ some 48 := by
          rcases k3 with k3 | k3
          · exact k3
          · cases k3.1
        have hv := dec_val r.length r rfl k1 k4 (.inl k3')
        have hp : 0 < valD 0 r := by
          rcases Nat.eq_zero_or_pos (valD 0 r) with z | z
          · rw [z, Lib.decDigits, dif_pos (by omega)] at hv
            rw [← hv] at k3'
            exact absurd rfl k3'
          · exact z
        unfold Lib.itoa
        rw [if_pos (by omega), show (-(valD 0 r : Int)).natAbs = valD 0 r by omega, hv]
      · cases h
    · rw [if_neg e] at h
      split at h
      · rename_i k
        obtain ⟨k1, k2, k3, k4⟩ := okD_iff.1 k
        obtain rfl := Option.some.inj h
        unfold Lib.itoa
        rw [if_neg (by omega), Int.toNat_natCast, dec_val (c :: r).length (c :: r) rfl k1 k4 (by
          rcases k3 with k3 | k3
          · exact .inl k3
          · exact .inr k3.2)]
      · cases h
theorem num_lt {t : List UInt8} {v : Int} (h : num t = some v) : -1000000000000000000 < v ∧ v < 1000000000000000000 := by
  have key : ∀ (neg : Bool) (ds : List UInt8), okD neg ds = true → valD 0 ds < 1000000000000000000 := by
    intro neg ds k
    obtain ⟨_, k2, _, k4⟩ := okD_iff.1 k
    have a := valD_lt ds 0 k4
    have b : 10 ^ ds.length ≤ 10 ^ 18 := Nat.pow_le_pow_right (by decide) k2
    have c : 10 ^ 18 = 1000000000000000000 := by decide
    omega
  cases t with
  | nil => cases h
  | cons c r =>
    rw [num] at h
    split at h
    · split at h
      · rename_i k
        have := key _ _ k
        obtain rfl := Option.some.inj h
        omega
      · cases h
    · split at h
      · rename_i k
        have := key _ _ k
        obtain rfl := Option.some.inj h
        omega
      · cases h
theorem itoa_num (v : Int) (h1 : -1000000000000000000 < v) (h2 : v < 1000000000000000000) : num (Lib.itoa v) = some v := by
  unfold Lib.itoa
  by_cases c : v < 0
  · rw [if_pos c, num, if_pos rfl, if_pos, val_dec]
    · congr 1; omega
    · exact okD_iff.2 ⟨dec_ne _, dec_short _ 18 (by decide) (by rw [pow18]; omega), .inl (dec_head _ (by omega)), dec_dg _⟩
  · rw [if_neg c]
    have hd := dec_dg v.toNat
    have hn := dec_ne v.toNat
    have hs := dec_short v.toNat 18 (by decide) (by rw [pow18]; omega)
    have hv := val_dec v.toNat
    have hz : (Lib.decDigits v.toNat).head? ≠ some 48 ∨ (false = false ∧ (Lib.decDigits v.toNat).length = 1) := by
      rcases Nat.eq_zero_or_pos v.toNat with z | z
      · right; rw [z, Lib.decDigits, dif_pos (by omega)]; exact ⟨rfl, rfl⟩
      · exact .inl (dec_head _ z)
    revert hd hn hs hv hz
    generalize Lib.decDigits v.toNat = l
    intro hd hn hs hv hz
    cases l with
    | nil => exact absurd rfl hn
    | cons x r =>
      rw [num, if_neg (not45 (hd x (List.mem_cons_self ..))), if_pos (okD_iff.2 ⟨hn, hs, hz, hd⟩), hv]
      congr 1; omega
theorem parse_M : ∀ (l : List UInt8) (acc : Nat), (∀ c ∈ l, dgB c = true) → (acc + 1) * 10 ^ l.length ≤ 1000000000000000000 → Lib.parseUintM (2 ^ 64 - 1) acc l = .ok (valD acc l)
  | [], acc, _, _ => by rw [valD_nil]; rfl
  | c :: r, acc, h, hb => by
    have hc := h c (List.mem_cons_self ..)
    simp only [dgB, decide_eq_true_eq] at hc
    rw [List.length_cons, Nat.pow_succ] at hb
    have hr : 1 ≤ 10 ^ r.length := Nat.one_le_pow _ _ (by decide)
    have h1 : (acc + 1) * 10 ≤ (acc + 1) * (10 ^ r.length * 10) := Nat.mul_le_mul_left _ (by omega)
    have e64 : (2 : Nat) ^ 64 - 1 = 18446744073709551615 := by decide
    rw [Lib.parseUintM, if_pos hc, if_neg (by omega), if_neg (by rw [e64]; omega), valD_cons]
    refine parse_M r _ (fun x hx => h x (List.mem_cons_of_mem _ hx)) ?_
    have : (acc * 10 + (c.toNat - 48) + 1) * 10 ^ r.length ≤ (acc * 10 + 10) * 10 ^ r.length := Nat.mul_le_mul_right _ (by omega)
    have e : (acc * 10 + 10) * 10 ^ r.length = (acc + 1) * (10 ^ r.length * 10) := by
      rw [show acc * 10 + 10 = (acc + 1) * 10 by omega, Nat.mul_assoc, Nat.mul_comm 10]
    omega
theorem parse_U {ds : List UInt8} (h1 : ds ≠ []) (h2 : ds.length ≤ 18) (h3 : ∀ c ∈ ds, dgB c = true) : Lib.parseUintB 64 ds = .ok (valD 0 ds) := by
  rw [Lib.parseUintB, if_neg h1]
  refine parse_M ds 0 h3 ?_
  have b : 10 ^ ds.length ≤ 10 ^ 18 := Nat.pow_le_pow_right (by decide) h2
  have c : 10 ^ 18 = 1000000000000000000 := by decide
  omega
theorem num_parse {t : List UInt8} {v : Int} (h : num t = some v) : Lib.parseIntB 64 t = .ok v := by
  have hl := num_lt h
  have e63 : (2 : Nat) ^ (64 - 1) = 9223372036854775808 := by decide
  cases t with
  | nil => cases h
  | cons c r =>
    rw [num] at h
    by_cases e : c = 45
    · subst e
      rw [if_pos rfl] at h
      split at h
      · rename_i k
        obtain ⟨k1, k2, k3, k4⟩ := okD_iff.1 k
        obtain rfl := Option.some.inj h
        rw [Lib.parseIntB_minus, parse_U k1 k2 k4, Lib.signedC, if_neg (by omega)]
      · cases h
    · rw [if_neg e] at h
      split at h
      · rename_i k
        obtain ⟨k1, k2, k3, k4⟩ := okD_iff.1 k
        have hc := k4 c (List.mem_cons_self ..)
        simp only [dgB, decide_eq_true_eq] at hc
        obtain rfl := Option.some.inj h
        rw [Lib.parseIntB_plain 64 c r (by omega) (by omega), parse_U k1 k2 k4, Lib.signlessC, if_neg (by omega)]
      · cases h
/-- The digits of a numeral: what stands behind a sign. -/
theorem num_trim {t : List UInt8} {v : Int} (h : num t = some v) : (Lib.trimPrefix t [45]).length ≤ 18 := by
  cases t with
  | nil => cases h
  | cons c r =>
    rw [num] at h
    by_cases e : c = 45
    · subst e
      rw [if_pos rfl] at h
      split at h
      · rename_i k
        have := (okD_iff.1 k).2.1
        simpa [Lib.trimPrefix, Lib.hasPrefix, List.isPrefixOf] using this
      · cases h
    · rw [if_neg e] at h
      split at h
      · rename_i k
        have := (okD_iff.1 k).2.1
        have e2 : Lib.trimPrefix (c :: r) [45] = c :: r := by
          simp [Lib.trimPrefix, Lib.hasPrefix, List.isPrefixOf, Ne.symm e]
        rw [e2]; exact this
      · cases h
theorem dec_long {u : Nat} (h : (Lib.decDigits u).length ≤ 18) : u < 1000000000000000000 := by
  have a := valD_lt (Lib.decDigits u) 0 (dec_dg u)
  rw [val_dec] at a
  have b : 10 ^ (Lib.decDigits u).length ≤ 10 ^ 18 := Nat.pow_le_pow_right (by decide) h
  have c : 10 ^ 18 = 1000000000000000000 := by decide
  omega
theorem itoa_small {v : Int} (h : (Lib.trimPrefix (Lib.itoa v) [45]).length ≤ 18) : -1000000000000000000 < v ∧ v < 1000000000000000000 := by
  unfold Lib.itoa at h
  by_cases c : v < 0
  · rw [if_pos c] at h
    have e : Lib.trimPrefix (45 :: Lib.decDigits v.natAbs) [45] = Lib.decDigits v.natAbs := by simp [Lib.trimPrefix, Lib.hasPrefix, List.isPrefixOf]
    rw [e] at h
    have := dec_long h
    omega
  · rw [if_neg c] at h
    have hd := dec_dg v.toNat
    have hn := dec_ne v.toNat
    have e : Lib.trimPrefix (Lib.decDigits v.toNat) [45] = Lib.decDigits v.toNat := by
      revert hd hn
      generalize Lib.decDigits v.toNat = l
      intro hd hn
      cases l with
      | nil => rfl
      | cons x r => simp [Lib.trimPrefix, Lib.hasPrefix, List.isPrefixOf, Ne.symm (not45 (hd x (List.mem_cons_self ..)))]
    rw [e] at h
    have := dec_long h
    omega
end Go.Proofs.YtlmeijlandogaaaDoor.Pure
