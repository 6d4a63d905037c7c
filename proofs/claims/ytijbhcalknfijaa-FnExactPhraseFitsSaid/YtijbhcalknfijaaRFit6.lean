/- Plain facts on the moves of a raga and on the phrases that fit, in the reference and in the program. No condition. -/
import Derived.Test.YtijbhcalknfijaaM6x0
import Derived.Test.YtijbhcalknfijaaM6x10
import Derived.Test.YtijbhcalknfijaaM6x11
import Derived.Test.YtijbhcalknfijaaM6x12
import Derived.Test.YtijbhcalknfijaaM6x13
import Derived.Test.YtijbhcalknfijaaM6x22
import Derived.Test.YtijbhcalknfijaaM6x23
import Derived.Test.YtijbhcalknfijaaM6x24
import Derived.Test.YtijbhcalknfijaaRSc6
namespace Go.Proofs.Ytijbhcalknfijaa.Pure
open Go.RowKit Go.Proofs.Ytijbhcalknfijaa.M6 Go.Proofs.YtijbhcalknfijaaW.PrintWords Go.Proofs.YtijbhcalknfijaaW.PrintLast Go.Proofs.YtijbhcalknfijaaW.PrintMore
def rsn (u d : List Int) (fb : List (List Int)) (a b : Int) : Int := wrOne (tn a) (tn b) a b (hasL u (tn b)) (hasL d (tn b)) (toneL u d (tn a)) (toneL u d (tn b)) (fb.all (nIn (tn a) (tn b)))
theorem rsn_nn (u d : List Int) (fb : List (List Int)) (a b : Int) : 0 ≤ rsn u d fb a b := by
  unfold rsn wrOne
  repeat' split
  all_goals omega
theorem implRsn (nm : ByteArray) (u d : List Int) (st wk : Int) (fb : List (List Int)) (a b : Int) (hu : u.length ≤ 1048576) (hd : d.length ≤ 1048576) (h2 : two fb = true) (k : Nat) (hk : 1048577 ≤ k) : impl_Raga_reason.f k nm u d st wk fb a b = some (rsn u d fb a b) := by
  rw [impl_Raga_reason.f, if_pos h2, implTone nm u d st wk fb _ hu hd k hk, implTone nm u d st wk fb _ hu hd k hk, implCont u _ hu k hk, implCont d _ hd k hk]
  rfl
theorem specRs_l0 (nm : ByteArray) (u dn : List Int) (st wk : Int) (fb : List (List Int)) (hn : fb.length ≤ 1048576) (h2 : two fb = true) (x y : Int) (d : Nat) : ∀ (k i : Nat), i + d = fb.length → d < k → spec_l05Reason.l0 k x y (i : Int) nm u dn st wk fb = some (if (fb.drop i).all (nIn x y) = false then 5 else 0) := by
  induction d with
  | zero =>
    intro k i hi hk
    obtain ⟨k, rfl⟩ := succ_of hk
    rw [spec_l05Reason.l0, if_neg (by omega), List.drop_eq_nil_of_le (by omega)]
    rfl
  | succ d ih =>
    intro k i hi hk
    obtain ⟨k, rfl⟩ := succ_of hk
    have hlt : i < fb.length := by omega
    have hl := two_at h2 i hlt
    have hg : rd_L1 fb (i : Int) = fb[i] := by simp [rd_L1, List.getD_eq_getElem?_getD, List.getElem?_eq_getElem hlt]
    rw [spec_l05Reason.l0, if_pos (by omega), if_pos (by omega), if_pos (by omega), w64 (by omega) (by omega), show ((i : Int) + 1) = ((i + 1 : Nat) : Int) by omega, ih k (i + 1) (by omega) (by omega), List.drop_eq_getElem_cons hlt, List.all_cons, hg]
    rw [hg] at hl
    by_cases c1 : rd fb[i] 0 = x
    · by_cases c2 : rd fb[i] 1 = y
      · simp [c1, c2, nIn, hl]
      · simp [c1, c2, nIn, hl]
    · simp [c1, nIn]
theorem specMax (a b : Int) (h1 : -9223372036854775808 < a - b) (h2 : a - b ≤ 9223372036854775807) : spec_l00Max.f (wrap64 (a - b)) (wrap64 (b - a)) = some (mx (wrap64 (a - b)) (wrap64 (-(wrap64 (a - b))))) := by
  rw [w64 (n := a - b) (by omega) (by omega), w64 (n := b - a) (by omega) (by omega), w64 (n := -(a - b)) (by omega) (by omega), spec_l00Max.f, mx]
  by_cases c : a - b > b - a
  · rw [if_pos c, if_neg (by omega)]
  · rw [if_neg c]
    congr 1
    split <;> omega
theorem specRsn (nm : ByteArray) (u d : List Int) (st wk : Int) (fb : List (List Int)) (a b : Int) (hu : u.length ≤ 1048576) (hd : d.length ≤ 1048576) (hf : fb.length ≤ 1048576) (h2 : two fb = true) (ha : -12 ≤ a ∧ a ≤ 23) (hb : -12 ≤ b ∧ b ≤ 23) (k : Nat) (hk : 1048600 ≤ k) : spec_l05Reason.f k nm u d st wk fb a b = some (rsn u d fb a b) := by
  obtain ⟨m, rfl⟩ : ∃ m, k = m + 3 := ⟨k - 3, by omega⟩
  have e := specRs_l0 nm u d st wk fb hf h2 (tn a) (tn b) fb.length m 0 (by omega) (by omega)
  rw [show ((0 : Nat) : Int) = 0 from rfl, List.drop_zero] at e
  have j2 : ∀ q, spec_l05Reason.j2 (m + 1) (tn a) (tn b) q nm u d st wk fb = if q = true then some 4 else some (if fb.all (nIn (tn a) (tn b)) = false then 5 else 0) := fun q => by rw [spec_l05Reason.j2, e]
  have j1 : ∀ q, spec_l05Reason.j1 (m + 2) a b (tn a) (tn b) q nm u d st wk fb = if q = true then some 3 else (if b < a then (some (hasL d (tn b))).bind fun t168 => spec_l05Reason.j2 (m + 1) (tn a) (tn b) (!t168) nm u d st wk fb else spec_l05Reason.j2 (m + 1) (tn a) (tn b) false nm u d st wk fb) := fun q => by rw [spec_l05Reason.j1, specHas d _ hd (m + 1) (by omega)]
  have j0 : ∀ q, spec_l05Reason.j0 (m + 3) a b (tn a) (tn b) q nm u d st wk fb = if q = true then some 1 else (if mx (wrap64 (a - b)) (wrap64 (-(wrap64 (a - b)))) > 12 then some 2 else (if b > a then (some (hasL u (tn b))).bind fun t166 => spec_l05Reason.j1 (m + 2) a b (tn a) (tn b) (!t166) nm u d st wk fb else spec_l05Reason.j1 (m + 2) a b (tn a) (tn b) false nm u d st wk fb)) := fun q => by rw [spec_l05Reason.j0, specHas u _ hu (m + 2) (by omega), specMax a b (by omega) (by omega)]; rfl
  have t1 : spec_l03Tone.f a = some (tn a) := rfl
  have t2 : spec_l03Tone.f b = some (tn b) := rfl
  rw [spec_l05Reason.f, t1, t2]
  simp only [Option.bind_some, specTone nm u d st wk fb _ hu hd _ (show 1048577 ≤ m + 3 by omega), j0, j1, j2]
  unfold rsn wrOne
  generalize mx (wrap64 (a - b)) (wrap64 (-(wrap64 (a - b)))) = z
  generalize toneL u d (tn a) = ta
  generalize toneL u d (tn b) = tb
  generalize hasL u (tn b) = hu'
  generalize hasL d (tn b) = hd'
  generalize fb.all (nIn (tn a) (tn b)) = pf
  cases ta
  · simp
  · cases tb
    · simp
    · by_cases c1 : z > 12
      · simp [c1]
      · by_cases c2 : b > a
        · have c3 : ¬ b < a := by omega
          cases hu' <;> cases pf <;> simp [c1, c2, c3]
        · by_cases c3 : b < a
          · cases hd' <;> cases pf <;> simp [c1, c2, c3]
          · cases pf <;> simp [c1, c2, c3]
def gdB (u d : List Int) (fb : List (List Int)) (p : List Int) : Nat → Nat → Bool
  | 0, _ => true
  | n + 1, i => decide (rsn u d fb (rd p ((i - 1 : Nat) : Int)) (rd p (i : Int)) = 0) && gdB u d fb p n (i + 1)
def inP (p : List Int) : Bool := p.all (inB · (-12) 23)
theorem inP_at {p : List Int} (h : inP p = true) (j : Nat) (hj : j < p.length) : -12 ≤ rd p (j : Int) ∧ rd p (j : Int) ≤ 23 := by
  rw [rd_at hj]
  exact inB_true.1 (List.all_eq_true.1 h _ (List.getElem_mem hj))
theorem specWr_l0 (nm : ByteArray) (u d : List Int) (st wk : Int) (fb : List (List Int)) (p : List Int) (hu : u.length ≤ 1048576) (hd : d.length ≤ 1048576) (hf : fb.length ≤ 1048576) (h2 : two fb = true) (hp : inP p = true) (hn : p.length ≤ 1048576) (n : Nat) : ∀ (k i : Nat), 1 ≤ i → i + n = p.length → n + 1048600 < k → ∃ r, spec_l05Wrong.l0 k p (i : Int) nm u d st wk fb = some r ∧ decide (r.1 < 0) = gdB u d fb p n i := by
  induction n with
  | zero =>
    intro k i h1 hi hk
    obtain ⟨k, rfl⟩ := succ_of (show 0 < k by omega)
    exact ⟨(-1, 0), by rw [spec_l05Wrong.l0, if_neg (by omega)], rfl⟩
  | succ n ih =>
    intro k i h1 hi hk
    obtain ⟨k, rfl⟩ := succ_of (show 0 < k by omega)
    obtain ⟨r, e1, e2⟩ := ih k (i + 1) (by omega) (by omega) (by omega)
    have b1 := inP_at hp (i - 1) (by omega)
    have b2 := inP_at hp i (by omega)
    have nn := rsn_nn u d fb (rd p ((i - 1 : Nat) : Int)) (rd p (i : Int))
    rw [spec_l05Wrong.l0, if_pos (by omega), if_pos (by omega), w64 (show -9223372036854775808 ≤ (i : Int) - 1 by omega) (by omega), w64 (show -9223372036854775808 ≤ (i : Int) + 1 by omega) (by omega), if_pos (by omega), if_pos (by omega), if_pos (by omega), show ((i : Int) + 1) = ((i + 1 : Nat) : Int) by omega, show ((i : Int) - 1) = ((i - 1 : Nat) : Int) by omega, specRsn nm u d st wk fb _ _ hu hd hf h2 b1 b2 k (by omega), Option.bind_some, gdB]
    by_cases c : rsn u d fb (rd p ((i - 1 : Nat) : Int)) (rd p (i : Int)) > 0
    · rw [if_pos c, decide_eq_false (by omega)]
      exact ⟨_, rfl, by simp⟩
    · rw [if_neg c, decide_eq_true (by omega), Bool.true_and]
      exact ⟨r, e1, e2⟩
theorem implWr_l0 (nm : ByteArray) (u d : List Int) (st wk : Int) (fb : List (List Int)) (p : List Int) (hu : u.length ≤ 1048576) (hd : d.length ≤ 1048576) (h2 : two fb = true) (hn : p.length ≤ 1048576) (n : Nat) : ∀ (k i : Nat), 1 ≤ i → i + n = p.length → 2 * n + 1048600 < k → ∃ r, impl_Raga_firstWrong.l0 k p p (p.length : Int) (i : Int) nm u d st wk fb = some r ∧ decide (r.2 = 0) = gdB u d fb p n i := by
  induction n with
  | zero =>
    intro k i h1 hi hk
    obtain ⟨k, rfl⟩ := succ_of (show 0 < k by omega)
    exact ⟨(0, 0), by rw [impl_Raga_firstWrong.l0, if_neg (by omega)], rfl⟩
  | succ n ih =>
    intro k i h1 hi hk
    obtain ⟨k, rfl⟩ : ∃ m, k = m + 2 := ⟨k - 2, by omega⟩
    obtain ⟨r, e1, e2⟩ := ih k (i + 1) (by omega) (by omega) (by omega)
    rw [impl_Raga_firstWrong.l0, if_pos (by omega), if_pos (by omega), if_pos (by omega), if_neg (by omega), impl_Raga_firstWrong.j1, if_neg (by decide), if_pos (by omega), w64 (show -9223372036854775808 ≤ (i : Int) - 1 by omega) (by omega), w64 (show -9223372036854775808 ≤ (i : Int) + 1 by omega) (by omega), if_pos (by omega), if_pos (by omega), show ((i : Int) + 1) = ((i + 1 : Nat) : Int) by omega, show ((i : Int) - 1) = ((i - 1 : Nat) : Int) by omega, implRsn nm u d st wk fb _ _ hu hd h2 k (by omega), Option.bind_some, Option.bind_some, gdB]
    by_cases c : rsn u d fb (rd p ((i - 1 : Nat) : Int)) (rd p (i : Int)) = 0
    · rw [if_pos c, decide_eq_true c, Bool.true_and]
      exact ⟨r, e1, e2⟩
    · rw [if_neg c, decide_eq_false c]
      exact ⟨_, rfl, by simp [c]⟩
def fitB (u d : List Int) (fb : List (List Int)) (p : List Int) : Bool := toneL u d (tn (rd p 0)) && gdB u d fb p (p.length - 1) 1
theorem specWr (nm : ByteArray) (u d : List Int) (st wk : Int) (fb : List (List Int)) (p : List Int) (hu : u.length ≤ 1048576) (hd : d.length ≤ 1048576) (hf : fb.length ≤ 1048576) (h2 : two fb = true) (hp : inP p = true) (hn : p.length ≤ 1048576) (h1 : 1 ≤ p.length) (k : Nat) (hk : 4000000 ≤ k) : ∃ r, spec_l05Wrong.f k nm u d st wk fb p = some r ∧ decide (r.1 < 0) = fitB u d fb p := by
  obtain ⟨k, rfl⟩ := succ_of (show 0 < k by omega)
  obtain ⟨r, e1, e2⟩ := specWr_l0 nm u d st wk fb p hu hd hf h2 hp hn (p.length - 1) k 1 (by omega) (by omega) (by omega)
  have t1 : spec_l03Tone.f (rd p 0) = some (tn (rd p 0)) := rfl
  rw [spec_l05Wrong.f, spec_l05Wrong.l0, if_pos (by omega), if_neg (by decide), if_pos (by omega), t1, Option.bind_some, specTone nm u d st wk fb _ hu hd k (by omega), Option.bind_some, w64 (n := (0 : Int) + 1) (by omega) (by omega), show ((0 : Int) + 1) = ((1 : Nat) : Int) by rfl, e1, fitB]
  cases toneL u d (tn (rd p 0))
  · exact ⟨(0, 1), by simp, rfl⟩
  · exact ⟨r, by simp, e2⟩
theorem implWr (nm : ByteArray) (u d : List Int) (st wk : Int) (fb : List (List Int)) (p : List Int) (hu : u.length ≤ 1048576) (hd : d.length ≤ 1048576) (h2 : two fb = true) (hn : p.length ≤ 1048576) (h1 : 1 ≤ p.length) (k : Nat) (hk : 4000000 ≤ k) : ∃ r, impl_Raga_firstWrong.f k nm u d st wk fb p = some r ∧ decide (r.2 = 0) = fitB u d fb p := by
  obtain ⟨k, rfl⟩ : ∃ m, k = m + 2 := ⟨k - 2, by omega⟩
  obtain ⟨r, e1, e2⟩ := implWr_l0 nm u d st wk fb p hu hd h2 hn (p.length - 1) k 1 (by omega) (by omega) (by omega)
  have t1 : impl_ToneOf.f (rd p 0) = some (tn (rd p 0)) := rfl
  rw [impl_Raga_firstWrong.f, impl_Raga_firstWrong.l0, if_pos (by omega), if_pos (by omega), if_pos (by omega), if_pos rfl, t1, Option.bind_some, implTone nm u d st wk fb _ hu hd (k + 1) (by omega), Option.bind_some, impl_Raga_firstWrong.j1, fitB]
  cases toneL u d (tn (rd p 0))
  · exact ⟨(0, 1), by simp, rfl⟩
  · rw [if_neg (by decide), if_neg (by decide), w64 (n := (0 : Int) + 1) (by omega) (by omega), show ((0 : Int) + 1) = ((1 : Nat) : Int) by rfl, e1]
    exact ⟨r, rfl, e2⟩
def phB (p : List Int) : Bool := decide (2 ≤ p.length ∧ p.length ≤ 8) && inP p
theorem specPit_l0 (p : List Int) (hn : p.length ≤ 1048576) (d : Nat) : ∀ (k i : Nat), i + d = p.length → d < k → spec_l05Pitches.l0 k p (i : Int) = some (inP (p.drop i) && decide (p.length ≤ 64)) := by
  induction d with
  | zero =>
    intro k i hi hk
    obtain ⟨k, rfl⟩ := succ_of hk
    rw [spec_l05Pitches.l0, if_neg (by omega), List.drop_eq_nil_of_le (by omega)]
    simp [inP]
    omega
  | succ d ih =>
    intro k i hi hk
    obtain ⟨k, rfl⟩ := succ_of hk
    have hlt : i < p.length := by omega
    have e : spec_l03Pitch.f (rd p (i : Int)) = some (inB p[i] (-12) 23) := by rw [spec_l03Pitch.f, specIn, rd_at hlt]; rfl
    rw [spec_l05Pitches.l0, if_pos (by omega), if_pos (by omega), e, Option.bind_some, w64 (by omega) (by omega), show ((i : Int) + 1) = ((i + 1 : Nat) : Int) by omega, ih k (i + 1) (by omega) (by omega), List.drop_eq_getElem_cons hlt, show inP (p[i] :: p.drop (i + 1)) = (inB p[i] (-12) 23 && inP (p.drop (i + 1))) from rfl]
    cases inB p[i] (-12) 23 <;> simp
theorem specPit (p : List Int) (hn : p.length ≤ 1048576) (k : Nat) (hk : 1048577 ≤ k) : spec_l05Pitches.f k p = some (inP p && decide (p.length ≤ 64)) := specPit_l0 p hn p.length k 0 (by omega) (by omega)
theorem specPh (p : List Int) (hn : p.length ≤ 1048576) (k : Nat) (hk : 1048577 ≤ k) : spec_l06Phrase.f k p = some (phB p) := by
  rw [spec_l06Phrase.f, specPit p hn k hk, Option.bind_some, phB]
  cases inP p
  · simp
  · by_cases h : p.length ≤ 64
    · by_cases h2 : 2 ≤ p.length
      · simp [h, h2, show (2 : Int) ≤ (p.length : Int) by omega]
        omega
      · simp [h, h2, show ¬ (2 : Int) ≤ (p.length : Int) by omega]
    · simp [h, show ¬ p.length ≤ 8 by omega]
theorem implPh (p : List Int) : impl_phraseOk.f p = some (phB p) := by
  have e : impl_allWithin.f p (-12) 23 = some (inP p) := rfl
  rw [impl_phraseOk.f, e, phB]
  by_cases h2 : 2 ≤ p.length
  · by_cases h : p.length ≤ 8
    · simp [h, h2, show (2 : Int) ≤ (p.length : Int) by omega, show (p.length : Int) ≤ 8 by omega]
    · simp [h, show ¬ (p.length : Int) ≤ 8 by omega]
  · simp [h2, show ¬ (2 : Int) ≤ (p.length : Int) by omega]

end Go.Proofs.Ytijbhcalknfijaa.Pure
