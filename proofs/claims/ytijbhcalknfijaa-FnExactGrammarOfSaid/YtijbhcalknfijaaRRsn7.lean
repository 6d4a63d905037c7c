/- Plain facts on the moves of a raga, in the reference and in the program. No condition. -/
import Derived.Test.YtijbhcalknfijaaM7x0
import Derived.Test.YtijbhcalknfijaaM7x12
import Derived.Test.YtijbhcalknfijaaM7x25
import Derived.Test.YtijbhcalknfijaaRSc7
namespace Go.Proofs.Ytijbhcalknfijaa.Pure
open Go.RowKit Go.Proofs.Ytijbhcalknfijaa.M7 Go.Proofs.YtijbhcalknfijaaW.PrintWords Go.Proofs.YtijbhcalknfijaaW.PrintLast Go.Proofs.YtijbhcalknfijaaW.PrintMore
def rsn (u d : List Int) (fb : List (List Int)) (a b : Int) : Int := wrOne (tn a) (tn b) a b (hasL u (tn b)) (hasL d (tn b)) (toneL u d (tn a)) (toneL u d (tn b)) (fb.all (nIn (tn a) (tn b)))
theorem rsn_nn (u d : List Int) (fb : List (List Int)) (a b : Int) : 0 ≤ rsn u d fb a b := by
  unfold rsn wrOne
  repeat' split
  all_goals omega
theorem implRsn (nm : ByteArray) (u d : List Int) (st wk : Int) (fb : List (List Int)) (a b : Int) (hu : u.length ≤ 1048576) (hd : d.length ≤ 1048576) (h2 : two fb = true) (k : Nat) (hk : 1048577 ≤ k) : impl_Raga_reason.f k nm u d st wk fb a b = some (rsn u d fb a b) := by
  rw [impl_Raga_reason.f, if_pos h2, implTone nm u d st wk fb _ hu hd k hk, implTone nm u d st wk fb _ hu hd k hk, implCont u _ hu k hk, implCont d _ hd k hk]
  rfl
theorem specRs_l0 (nm : ByteArray) (u dn : List Int) (st wk : Int) (fb : List (List Int)) (hn : fb.length ≤ 1048576) (h2 : two fb = true) (x y : Int) (d : Nat) : ∀ (k i : Nat), i + d = fb.length → d < k → spec_l05Reason.l0 k x y (i : Int) nm u dn st wk fb = some (if (fb.drop i).all (nIn x y) = false then 5 else 0) := by
  induction d with
  | zero =>
    intro k i hi hk
    obtain ⟨k, rfl⟩ := succ_of hk
    rw [spec_l05Reason.l0, if_neg (by omega), List.drop_eq_nil_of_le (by omega)]
    rfl
  | succ d ih =>
    intro k i hi hk
    obtain ⟨k, rfl⟩ := succ_of hk
    have hlt : i < fb.length := by omega
    have hl := two_at h2 i hlt
    have hg : rd_L2 fb (i : Int) = fb[i] := by simp [rd_L2, List.getD_eq_getElem?_getD, List.getElem?_eq_getElem hlt]
    rw [spec_l05Reason.l0, if_pos (by omega), if_pos (by omega), if_pos (by omega), w64 (by omega) (by omega), show ((i : Int) + 1) = ((i + 1 : Nat) : Int) by omega, ih k (i + 1) (by omega) (by omega), List.drop_eq_getElem_cons hlt, List.all_cons, hg]
    rw [hg] at hl
    by_cases c1 : rd fb[i] 0 = x
    · by_cases c2 : rd fb[i] 1 = y
      · simp [c1, c2, nIn, hl]
      · simp [c1, c2, nIn, hl]
    · simp [c1, nIn]
theorem specMax (a b : Int) (h1 : -9223372036854775808 < a - b) (h2 : a - b ≤ 9223372036854775807) : spec_l00Max.f (wrap64 (a - b)) (wrap64 (b - a)) = some (mx (wrap64 (a - b)) (wrap64 (-(wrap64 (a - b))))) := by
  rw [w64 (n := a - b) (by omega) (by omega), w64 (n := b - a) (by omega) (by omega), w64 (n := -(a - b)) (by omega) (by omega), spec_l00Max.f, mx]
  by_cases c : a - b > b - a
  · rw [if_pos c, if_neg (by omega)]
  · rw [if_neg c]
    congr 1
    split <;> omega
theorem specRsn (nm : ByteArray) (u d : List Int) (st wk : Int) (fb : List (List Int)) (a b : Int) (hu : u.length ≤ 1048576) (hd : d.length ≤ 1048576) (hf : fb.length ≤ 1048576) (h2 : two fb = true) (ha : -12 ≤ a ∧ a ≤ 23) (hb : -12 ≤ b ∧ b ≤ 23) (k : Nat) (hk : 1048600 ≤ k) : spec_l05Reason.f k nm u d st wk fb a b = some (rsn u d fb a b) := by
  obtain ⟨m, rfl⟩ : ∃ m, k = m + 3 := ⟨k - 3, by omega⟩
  have e := specRs_l0 nm u d st wk fb hf h2 (tn a) (tn b) fb.length m 0 (by omega) (by omega)
  rw [show ((0 : Nat) : Int) = 0 from rfl, List.drop_zero] at e
  have j2 : ∀ q, spec_l05Reason.j2 (m + 1) (tn a) (tn b) q nm u d st wk fb = if q = true then some 4 else some (if fb.all (nIn (tn a) (tn b)) = false then 5 else 0) := fun q => by rw [spec_l05Reason.j2, e]
  have j1 : ∀ q, spec_l05Reason.j1 (m + 2) a b (tn a) (tn b) q nm u d st wk fb = if q = true then some 3 else (if b < a then (some (hasL d (tn b))).bind fun t168 => spec_l05Reason.j2 (m + 1) (tn a) (tn b) (!t168) nm u d st wk fb else spec_l05Reason.j2 (m + 1) (tn a) (tn b) false nm u d st wk fb) := fun q => by rw [spec_l05Reason.j1, specHas d _ hd (m + 1) (by omega)]
  have j0 : ∀ q, spec_l05Reason.j0 (m + 3) a b (tn a) (tn b) q nm u d st wk fb = if q = true then some 1 else (if mx (wrap64 (a - b)) (wrap64 (-(wrap64 (a - b)))) > 12 then some 2 else (if b > a then (some (hasL u (tn b))).bind fun t166 => spec_l05Reason.j1 (m + 2) a b (tn a) (tn b) (!t166) nm u d st wk fb else spec_l05Reason.j1 (m + 2) a b (tn a) (tn b) false nm u d st wk fb)) := fun q => by rw [spec_l05Reason.j0, specHas u _ hu (m + 2) (by omega), specMax a b (by omega) (by omega)]; rfl
  have t1 : spec_l03Tone.f a = some (tn a) := rfl
  have t2 : spec_l03Tone.f b = some (tn b) := rfl
  rw [spec_l05Reason.f, t1, t2]
  simp only [Option.bind_some, specTone nm u d st wk fb _ hu hd _ (show 1048577 ≤ m + 3 by omega), j0, j1, j2]
  unfold rsn wrOne
  generalize mx (wrap64 (a - b)) (wrap64 (-(wrap64 (a - b)))) = z
  generalize toneL u d (tn a) = ta
  generalize toneL u d (tn b) = tb
  generalize hasL u (tn b) = hu'
  generalize hasL d (tn b) = hd'
  generalize fb.all (nIn (tn a) (tn b)) = pf
  cases ta
  · simp
  · cases tb
    · simp
    · by_cases c1 : z > 12
      · simp [c1]
      · by_cases c2 : b > a
        · have c3 : ¬ b < a := by omega
          cases hu' <;> cases pf <;> simp [c1, c2, c3]
        · by_cases c3 : b < a
          · cases hd' <;> cases pf <;> simp [c1, c2, c3]
          · cases pf <;> simp [c1, c2, c3]

end Go.Proofs.Ytijbhcalknfijaa.Pure
