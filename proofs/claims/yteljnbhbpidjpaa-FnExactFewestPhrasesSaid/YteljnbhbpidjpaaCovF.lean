/- Plain facts on the pitches that phrases cover: the reference's flags and the program's set of bits agree. No condition. -/
import Derived.Test.YteljnbhbpidjpaaFx0
import Derived.Test.YteljnbhbpidjpaaFx7
import Derived.Test.YteljnbhbpidjpaaFx16
import Derived.Test.YteljnbhbpidjpaaCovAF
import Derived.Laws.Bits64b
import Derived.Lib.TrailingZeros
namespace Go.Proofs.Yteljnbhbpidjpaa.Pure
open Go.RowKit Go.Proofs.Yteljnbhbpidjpaa.F Go.Proofs.YteljnbhbpidjpaaW.PrintWords Go.Proofs.YteljnbhbpidjpaaW.PrintLast Go.Proofs.YteljnbhbpidjpaaW.PrintMore
theorem occL_in (x y : List Int) (d : Nat) : ∀ (i : Nat), ∀ a ∈ occL x y d i, ∃ p : Nat, a = (p : Int) ∧ p + y.length ≤ x.length := by
  induction d with
  | zero => intro i a h; simp [occL] at h
  | succ d ih =>
    intro i a h
    rw [occL] at h
    by_cases c : occ x y i = true
    · rw [if_pos c] at h
      rcases List.mem_cons.1 h with rfl | h
      · rw [occ, Bool.and_eq_true, decide_eq_true_eq] at c
        exact ⟨i, rfl, c.1⟩
      · exact ih _ a h
    · rw [if_neg c] at h
      exact ih _ a h
def putB : Nat → Nat → List Bool → List Bool
  | 0, _, o => o
  | n + 1, p, o => putB n (p + 1) (o.set p true)
def putsB (n : Nat) : List Int → List Bool → List Bool
  | [], o => o
  | a :: r, o => putsB n r (putB n a.toNat o)
def covB (x : List Int) : List (List Int) → List Bool → List Bool
  | [], o => o
  | y :: r, o => covB x r (putsB y.length (occL x y x.length 0) o)
theorem putB_len : ∀ (n p : Nat) (o : List Bool), (putB n p o).length = o.length
  | 0, _, _ => rfl
  | n + 1, p, o => by rw [putB, putB_len n, List.length_set]
theorem putsB_len (n : Nat) : ∀ (L : List Int) (o : List Bool), (putsB n L o).length = o.length
  | [], _ => rfl
  | a :: r, o => by rw [putsB, putsB_len n r, putB_len]
theorem covB_len (x : List Int) : ∀ (l : List (List Int)) (o : List Bool), (covB x l o).length = o.length
  | [], _ => rfl
  | y :: r, o => by rw [covB, covB_len x r, putsB_len]
def putN : Nat → Nat → Nat → Nat
  | 0, _, s => s
  | n + 1, p, s => putN n (p + 1) (s ||| 2 ^ p)
def putsN (n : Nat) : List Int → Nat → Nat
  | [], s => s
  | a :: r, s => putsN n r (putN n a.toNat s)
def covN (x : List Int) : List (List Int) → Nat → Nat
  | [], s => s
  | y :: r, s => covN x r (putsN y.length (occL x y x.length 0) s)
/-- The flags and the bits say the same. -/
def Same (o : List Bool) (s : Nat) : Prop := ∀ i, o.getD i false = s.testBit i
theorem same_set {o : List Bool} {s p : Nat} (h : Same o s) (hp : p < o.length) : Same (o.set p true) (s ||| 2 ^ p) := fun i => by
  rw [Nat.testBit_or, Nat.testBit_two_pow, ← h i]
  simp only [List.getD_eq_getElem?_getD]
  by_cases c : p = i
  · subst c
    simp [hp]
  · rw [List.getElem?_set_ne c, decide_eq_false c, Bool.or_false]
theorem same_put : ∀ (n p : Nat) (o : List Bool) (s : Nat), Same o s → p + n ≤ o.length → Same (putB n p o) (putN n p s)
  | 0, _, _, _, h, _ => h
  | n + 1, p, o, s, h, hp => same_put n (p + 1) _ _ (same_set h (by omega)) (by rw [List.length_set]; omega)
theorem same_puts (n m : Nat) : ∀ (L : List Int) (o : List Bool) (s : Nat), Same o s → o.length = m → (∀ a ∈ L, ∃ p : Nat, a = (p : Int) ∧ p + n ≤ m) → Same (putsB n L o) (putsN n L s)
  | [], _, _, h, _, _ => h
  | a :: r, o, s, h, hm, hL => by
    obtain ⟨p, e, hp⟩ := hL a List.mem_cons_self
    exact same_puts n m r _ _ (same_put n _ o s h (by rw [e, Int.toNat_natCast]; omega)) (by rw [putB_len, hm]) (fun b hb => hL b (List.mem_cons_of_mem _ hb))
theorem same_cov (x : List Int) : ∀ (l : List (List Int)) (o : List Bool) (s : Nat), Same o s → o.length = x.length → Same (covB x l o) (covN x l s)
  | [], _, _, h, _ => h
  | y :: r, o, s, h, hm => same_cov x r _ _ (same_puts y.length x.length _ o s h hm (occL_in x y x.length 0)) (by rw [putsB_len, hm])
theorem same_none (n : Nat) : Same (List.replicate n false) 0 := fun i => by
  rw [Nat.zero_testBit, List.getD_eq_getElem?_getD]
  by_cases c : i < n
  · simp [c]
  · simp [List.getElem?_eq_none (l := List.replicate n false) (i := i) (by simpa using c)]
def flags (x : List Int) (l : List (List Int)) : List Bool := covB x l (List.replicate x.length false)
def mask (x : List Int) (l : List (List Int)) : Nat := covN x l 0
theorem flags_mask (x : List Int) (l : List (List Int)) : Same (flags x l) (mask x l) := same_cov x l _ _ (same_none _) (by simp)
theorem flags_len (x : List Int) (l : List (List Int)) : (flags x l).length = x.length := by rw [flags, covB_len]; simp
theorem mask_bit (x : List Int) (l : List (List Int)) (i : Nat) (h : x.length ≤ i) : (mask x l).testBit i = false := by
  rw [← flags_mask x l i, List.getD_eq_getElem?_getD, List.getElem?_eq_none (by rw [flags_len]; exact h)]
  rfl
theorem mask_lt (x : List Int) (l : List (List Int)) : mask x l < 2 ^ x.length := Nat.lt_pow_two_of_testBit _ (fun i hi => mask_bit x l i hi)
def cst (x : List Int) : List (List Int) → Nat
  | [] => 0
  | y :: r => (occL x y x.length 0).length * (y.length + 2) + 2 + cst x r
theorem cst_le (x : List Int) : ∀ l : List (List Int), (∀ y ∈ l, y.length ≤ 8) → x.length ≤ 64 → cst x l ≤ l.length * 700
  | [], _, _ => Nat.zero_le _
  | y :: r, h, hx => by
    have h1 := h y List.mem_cons_self
    have h2 := cst_le x r (fun z hz => h z (List.mem_cons_of_mem _ hz)) hx
    have h3 := occL_len x y x.length 0
    have h4 : (occL x y x.length 0).length * (y.length + 2) ≤ 64 * 10 := Nat.mul_le_mul (by omega) (by omega)
    rw [cst, List.length_cons]
    omega
theorem s_l2 (x : List Int) (l : List (List Int)) (i : Nat) (hi : i < l.length) (hl : l.length ≤ 1048576) (L : List Int) (hL : L.length ≤ 64) (m : Nat) (hm : m < L.length) (p : Nat) (hp : L[m] = (p : Int)) (hn : p + l[i].length ≤ 64) :
    ∀ (d j k : Nat) (o : List Bool), j + d = l[i].length → p + l[i].length ≤ o.length → spec_l06Covered.l2 (k + d + 1) x l o (i : Int) L (m : Int) (j : Int) = spec_l06Covered.l1 k x l (putB d (p + j) o) (i : Int) L ((m + 1 : Nat) : Int)
  | 0, j, k, o, hj, ho => by
    rw [spec_l06Covered.l2, if_pos (by omega), if_pos (by omega), rdR_at hi, if_neg (by omega), w64 (by omega) (by omega), putB]
    rfl
  | d + 1, j, k, o, hj, ho => by
    rw [show k + (d + 1) + 1 = (k + d + 1) + 1 by omega, spec_l06Covered.l2, if_pos (by omega), if_pos (by omega), rdR_at hi, if_pos (by omega), if_pos (by omega), if_pos (by omega), rd_at hm, hp, w64 (by omega) (by omega), if_pos (by omega), if_pos (by omega), w64 (by omega) (by omega), show ((j : Int) + 1) = ((j + 1 : Nat) : Int) by omega, show ((p : Int) + (j : Int)).toNat = p + j by omega]
    rw [s_l2 x l i hi hl L hL m hm p hp hn d (j + 1) k _ (by omega) (by rw [List.length_set]; exact ho), putB]
    rfl
theorem s_l1 (x : List Int) (hx : x.length ≤ 64) (l : List (List Int)) (i : Nat) (hi : i < l.length) (hl : l.length ≤ 1048576) (L : List Int) (hL : L.length ≤ 64) (hv : ∀ a ∈ L, ∃ p : Nat, a = (p : Int) ∧ p + l[i].length ≤ x.length) :
    ∀ (e m k : Nat) (o : List Bool), m + e = L.length → o.length = x.length → spec_l06Covered.l1 (k + e * (l[i].length + 2) + 1) x l o (i : Int) L (m : Int) = spec_l06Covered.l0 k x l (putsB l[i].length (L.drop m) o) ((i + 1 : Nat) : Int)
  | 0, m, k, o, hm, ho => by
    rw [Nat.zero_mul, spec_l06Covered.l1, if_neg (by omega), w64 (by omega) (by omega), List.drop_eq_nil_of_le (by omega), putsB]
    rfl
  | e + 1, m, k, o, hm, ho => by
    have hlt : m < L.length := by omega
    obtain ⟨p, hp, hn⟩ := hv L[m] (List.getElem_mem hlt)
    rw [show k + (e + 1) * (l[i].length + 2) + 1 = ((k + e * (l[i].length + 2) + 1) + l[i].length + 1) + 1 by rw [Nat.succ_mul]; omega, spec_l06Covered.l1, if_pos (by omega)]
    have g := s_l2 x l i hi hl L hL m hlt p hp (by omega) l[i].length 0 (k + e * (l[i].length + 2) + 1) o (by omega) (by omega)
    rw [show ((0 : Nat) : Int) = 0 from rfl, show p + 0 = p from rfl] at g
    rw [g, s_l1 x hx l i hi hl L hL hv e (m + 1) k _ (by omega) (by rw [putB_len, ho]), List.drop_eq_getElem_cons hlt, putsB, hp, Int.toNat_natCast]
theorem s_l0 (x : List Int) (hx : x.length ≤ 64) (l : List (List Int)) (hl : l.length ≤ 1048576) (hv : ∀ y ∈ l, y.length ≤ 8) :
    ∀ (e i k : Nat) (o : List Bool), i + e = l.length → 100 ≤ k → o.length = x.length → spec_l06Covered.l0 (k + cst x (l.drop i) + 1) x l o (i : Int) = some (covB x (l.drop i) o)
  | 0, i, k, o, hi, hk, ho => by
    rw [List.drop_eq_nil_of_le (by omega), cst, spec_l06Covered.l0, if_neg (by omega), covB]
  | e + 1, i, k, o, hi, hk, ho => by
    have hlt : i < l.length := by omega
    have hL := occL_len x l[i] x.length 0
    rw [List.drop_eq_getElem_cons hlt, cst, covB]
    rw [show k + ((occL x l[i] x.length 0).length * (l[i].length + 2) + 2 + cst x (l.drop (i + 1))) + 1 = ((k + cst x (l.drop (i + 1)) + 1) + (occL x l[i] x.length 0).length * (l[i].length + 2) + 1) + 1 by omega]
    rw [spec_l06Covered.l0, if_pos (by omega), if_pos (by omega), rdR_at hlt, specFind x l[i] hx (hv _ (List.getElem_mem hlt)) _ (by omega), Option.bind_some]
    have g := s_l1 x hx l i hlt hl (occL x l[i] x.length 0) (by omega) (occL_in x l[i] x.length 0) (occL x l[i] x.length 0).length 0 (k + cst x (l.drop (i + 1)) + 1) o (by omega) ho
    rw [show ((0 : Nat) : Int) = 0 from rfl, List.drop_zero] at g
    rw [g, s_l0 x hx l hl hv e (i + 1) k _ (by omega) hk (by rw [putsB_len, ho])]
theorem specCov (x : List Int) (hx : x.length ≤ 64) (l : List (List Int)) (hl : l.length ≤ 12) (hv : ∀ y ∈ l, y.length ≤ 8) (k : Nat) (hk : 9000 ≤ k) : spec_l06Covered.f k x l = some (flags x l) := by
  have hc := cst_le x l hv hx
  have hc2 : cst x l ≤ 8400 := Nat.le_trans hc (by omega)
  rw [spec_l06Covered.f, if_pos (by omega), if_pos (by omega), show ((x.length : Int)).toNat = x.length by omega]
  have g := s_l0 x hx l (by omega) hv l.length 0 (k - cst x l - 1) (List.replicate x.length false) (by omega) (by omega) (by simp)
  rw [List.drop_zero, show k - cst x l - 1 + cst x l + 1 = k by omega] at g
  exact g
theorem putN_lt : ∀ (n p s : Nat), s < 2 ^ 64 → p + n ≤ 64 → putN n p s < 2 ^ 64
  | 0, _, _, h, _ => h
  | n + 1, p, s, h, hp => putN_lt n (p + 1) _ (Nat.or_lt_two_pow h (Nat.pow_lt_pow_right (by decide) (by omega))) (by omega)
theorem putsN_lt (n : Nat) : ∀ (L : List Int) (s : Nat), s < 2 ^ 64 → (∀ a ∈ L, ∃ p : Nat, a = (p : Int) ∧ p + n ≤ 64) → putsN n L s < 2 ^ 64
  | [], _, h, _ => h
  | a :: r, s, h, hL => by
    obtain ⟨p, e, hp⟩ := hL a List.mem_cons_self
    exact putsN_lt n r _ (putN_lt n _ s h (by rw [e, Int.toNat_natCast]; exact hp)) (fun b hb => hL b (List.mem_cons_of_mem _ hb))
theorem or_shl (s q : Nat) (hs : s < 2 ^ 64) (hq : q < 64) : Go.bits .or .u64 (s : Int) (shl .u64 1 (q : Int)) = ((s ||| 2 ^ q : Nat) : Int) := by
  have h1 : 2 ^ q < 2 ^ 64 := Nat.pow_lt_pow_right (by decide) hq
  have e : shl .u64 1 (q : Int) = ((2 ^ q : Nat) : Int) := by
    rw [shl, Int.toNat_natCast, Nat.min_eq_left (show q ≤ IntKind.bits .u64 by simp [IntKind.bits]; omega), IntKind.wrap_u64, Int.one_mul]
    have h2 : ((2 : Int) ^ q) = ((2 ^ q : Nat) : Int) := by simp
    rw [h2]
    clear h2
    have h3 : (2 ^ 64 : Nat) = 18446744073709551616 := by decide
    rw [h3] at h1
    generalize 2 ^ q = z at h1 ⊢
    omega
  rw [e, bits_or_u64_nat s (2 ^ q) (by omega) (by omega)]
theorem i_l2 (x : List Int) (l : List (List Int)) (i : Nat) (y L : List Int) (m p : Nat) (hn : p + y.length ≤ 64) (hm : m ≤ 64) :
    ∀ (d j k s : Nat), j + d = y.length → s < 2 ^ 64 → impl_coveredSet.l2 (k + d + 1) x (s : Int) y (p : Int) l (l.length : Int) (i : Int) L (L.length : Int) (m : Int) (y.length : Int) (j : Int) = impl_coveredSet.l1 k x ((putN d (p + j) s : Nat) : Int) y l (l.length : Int) (i : Int) L (L.length : Int) ((m + 1 : Nat) : Int)
  | 0, j, k, s, hj, hs => by
    rw [impl_coveredSet.l2, if_neg (by omega), w64 (by omega) (by omega), putN]
    rfl
  | d + 1, j, k, s, hj, hs => by
    rw [show k + (d + 1) + 1 = (k + d + 1) + 1 by omega, impl_coveredSet.l2, if_pos (by omega), w64 (n := (p : Int) + (j : Int)) (by omega) (by omega), if_pos (by omega), w64 (n := (j : Int) + 1) (by omega) (by omega), show ((j : Int) + 1) = ((j + 1 : Nat) : Int) by omega, show ((p : Int) + (j : Int)) = ((p + j : Nat) : Int) by omega, or_shl s (p + j) hs (by omega)]
    rw [i_l2 x l i y L m p hn hm d (j + 1) k _ (by omega) (Nat.or_lt_two_pow hs (Nat.pow_lt_pow_right (by decide) (by omega))), putN]
    rfl
theorem i_l1 (x : List Int) (l : List (List Int)) (i : Nat) (hi : i ≤ 1048576) (y L : List Int) (hL : L.length ≤ 64) (hv : ∀ a ∈ L, ∃ p : Nat, a = (p : Int) ∧ p + y.length ≤ 64) :
    ∀ (e m k s : Nat), m + e = L.length → s < 2 ^ 64 → impl_coveredSet.l1 (k + e * (y.length + 2) + 1) x (s : Int) y l (l.length : Int) (i : Int) L (L.length : Int) (m : Int) = impl_coveredSet.l0 k x ((putsN y.length (L.drop m) s : Nat) : Int) l (l.length : Int) ((i + 1 : Nat) : Int)
  | 0, m, k, s, hm, hs => by
    rw [Nat.zero_mul, impl_coveredSet.l1, if_neg (by omega), w64 (by omega) (by omega), List.drop_eq_nil_of_le (by omega), putsN]
    rfl
  | e + 1, m, k, s, hm, hs => by
    have hlt : m < L.length := by omega
    obtain ⟨p, hp, hn⟩ := hv L[m] (List.getElem_mem hlt)
    rw [show k + (e + 1) * (y.length + 2) + 1 = ((k + e * (y.length + 2) + 1) + y.length + 1) + 1 by rw [Nat.succ_mul]; omega, impl_coveredSet.l1, if_pos (by omega), if_pos (by omega), if_pos (by omega), rd_at hlt, hp]
    have g := i_l2 x l i y L m p hn (by omega) y.length 0 (k + e * (y.length + 2) + 1) s (by omega) hs
    rw [show ((0 : Nat) : Int) = 0 from rfl, show p + 0 = p from rfl] at g
    rw [g, i_l1 x l i hi y L hL hv e (m + 1) k _ (by omega) (putN_lt _ _ _ hs hn), List.drop_eq_getElem_cons hlt, putsN, hp, Int.toNat_natCast]
theorem i_l0 (x : List Int) (hx : x.length ≤ 64) (l : List (List Int)) (hl : l.length ≤ 1048576) (hv : ∀ y ∈ l, 2 ≤ y.length ∧ y.length ≤ 8) :
    ∀ (e i k s : Nat), i + e = l.length → 100 ≤ k → s < 2 ^ 64 → impl_coveredSet.l0 (k + cst x (l.drop i) + 1) x (s : Int) l (l.length : Int) (i : Int) = some ((covN x (l.drop i) s : Nat) : Int)
  | 0, i, k, s, hi, hk, hs => by
    rw [List.drop_eq_nil_of_le (by omega), cst, impl_coveredSet.l0, if_neg (by omega), covN]
  | e + 1, i, k, s, hi, hk, hs => by
    have hlt : i < l.length := by omega
    have hL := occL_len x l[i] x.length 0
    have hy := hv _ (List.getElem_mem hlt)
    have hin : ∀ a ∈ occL x l[i] x.length 0, ∃ p : Nat, a = (p : Int) ∧ p + l[i].length ≤ 64 := fun a ha => by
      obtain ⟨p, h1, h2⟩ := occL_in x l[i] x.length 0 a ha
      exact ⟨p, h1, by omega⟩
    rw [List.drop_eq_getElem_cons hlt, cst, covN]
    rw [show k + ((occL x l[i] x.length 0).length * (l[i].length + 2) + 2 + cst x (l.drop (i + 1))) + 1 = ((k + cst x (l.drop (i + 1)) + 1) + (occL x l[i] x.length 0).length * (l[i].length + 2) + 1) + 1 by omega]
    rw [impl_coveredSet.l0, if_pos (by omega), if_pos (by omega), if_pos (by omega), rdR_at hlt, implOccs x l[i] hx hy.2 hy.1 _ (by omega), Option.bind_some]
    have g := i_l1 x l i (by omega) l[i] (occL x l[i] x.length 0) (by omega) hin (occL x l[i] x.length 0).length 0 (k + cst x (l.drop (i + 1)) + 1) s (by omega) hs
    rw [show ((0 : Nat) : Int) = 0 from rfl, List.drop_zero] at g
    rw [g, i_l0 x hx l hl hv e (i + 1) k _ (by omega) hk (putsN_lt _ _ _ hs hin)]
theorem implCov (x : List Int) (hx : x.length ≤ 64) (l : List (List Int)) (hl : l.length ≤ 12) (hv : ∀ y ∈ l, 2 ≤ y.length ∧ y.length ≤ 8) (k : Nat) (hk : 9000 ≤ k) : impl_coveredSet.f k x l = some ((mask x l : Nat) : Int) := by
  have hc := cst_le x l (fun y hy => (hv y hy).2) hx
  have hc2 : cst x l ≤ 8400 := Nat.le_trans hc (by omega)
  rw [impl_coveredSet.f]
  have g := i_l0 x hx l (by omega) hv l.length 0 (k - cst x l - 1) 0 (by omega) (by omega) (by decide)
  rw [List.drop_zero, show k - cst x l - 1 + cst x l + 1 = k by omega] at g
  exact g

end Go.Proofs.Yteljnbhbpidjpaa.Pure
