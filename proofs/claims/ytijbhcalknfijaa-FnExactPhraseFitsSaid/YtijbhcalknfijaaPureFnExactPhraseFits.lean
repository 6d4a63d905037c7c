/- The law FnExactPhraseFits over lists alone. No condition. -/
import Derived.Test.YtijbhcalknfijaaM6x0
import Derived.Test.YtijbhcalknfijaaM6x10
import Derived.Test.YtijbhcalknfijaaM6x14
import Derived.Test.YtijbhcalknfijaaM6x25
import Derived.Test.YtijbhcalknfijaaM6x27
import Derived.Test.YtijbhcalknfijaaRFit6
import Derived.Test.YtijbhcalknfijaaRRows6
namespace Go.Proofs.Ytijbhcalknfijaa.Pure
open Go.RowKit Go.Proofs.Ytijbhcalknfijaa.M6 Go.Proofs.YtijbhcalknfijaaW.PrintWords Go.Proofs.YtijbhcalknfijaaW.PrintLast
theorem fits_both (nm : ByteArray) (u d : List Int) (st wk : Int) (fb : List (List Int)) (p : List Int) (hu : u.length ≤ 1048576) (hd : d.length ≤ 1048576) (hf : fb.length ≤ 1048576) (hn : p.length ≤ 1048576) (k : Nat) (hk : 4000000 ≤ k) : spec_PhraseFits.f k nm u d st wk fb p = some (okR nm u d st wk fb && (phB p && fitB u d fb p)) ∧ impl_PhraseFits.f k nm u d st wk fb p = some (okR nm u d st wk fb && (phB p && fitB u d fb p)) := by
  have O1 := specOkR nm u d st wk fb hu hd hf k (by omega)
  have O2 := implOkR nm u d st wk fb hu hd hf k (by omega)
  have P1 := specPh p hn k (by omega)
  have P2 := implPh p
  have P3 := specPit p hn k (by omega)
  rw [spec_PhraseFits.f, impl_PhraseFits.f, spec_FirstWrong.f, spec_l05Ask.f]
  cases ho : okR nm u d st wk fb
  · simp [O1, O2, ho]
  · cases hq : phB p
    · simp [O1, O2, ho, P1, P2, hq]
    · have hq' := hq
      simp only [phB, Bool.and_eq_true, decide_eq_true_eq] at hq'
      obtain ⟨r, e1, e2⟩ := specWr nm u d st wk fb p hu hd hf (okR_two ho).1 hq'.2 hn (by omega) k hk
      obtain ⟨s, e3, e4⟩ := implWr nm u d st wk fb p hu hd (okR_two ho).1 hn (by omega) k hk
      simp only [O1, O2, ho, P1, P2, P3, hq, hq'.2, show p.length ≤ 64 by omega, e1, e3, Option.bind_some, decide_true, Bool.and_self, if_true, Bool.true_and]
      rw [← e2]
      constructor
      · by_cases c : r.1 < 0
        · simp [c]
        · simp [c]
      · rw [e2, ← e4]
        by_cases c : s.2 = 0
        · simp [c]
        · simp [c]
theorem FnExactPhraseFits : laws_FnExactPhraseFits.Pure := by
  intro nm u d st wk fb p h0 h1 h2 _ _ h3 h4
  obtain ⟨k, hk⟩ : ∃ k, 4000000 ≤ k := ⟨_, Nat.le_refl _⟩
  refine ⟨k, ?_⟩
  rw [laws_FnExactPhraseFits.f]
  by_cases cp : (p.length : Int) > 1048576
  · rw [if_pos cp]
  · obtain ⟨t, ht, hl⟩ := szRg nm u d st wk fb h0 h1.1 h2.1 h3.1 (fun x hx => (h3.2 x hx).1) k (by omega)
    rw [if_neg cp, ht, Option.bind_some]
    by_cases c : t < 0
    · rw [if_pos c]
    · obtain ⟨hu, hd, hf, hv⟩ := hl c
      have hp : p.length ≤ 1048576 := by omega
      have T := toRg nm u d st wk fb hu hd hf hv k (by omega)
      have TP := toI p hp k (by omega)
      obtain ⟨S, I⟩ := fits_both nm u d st wk fb p hu hd hf hp k hk
      have E := eqRg nm u d st wk fb hu hd hf hv k (by omega)
      have EP := eqI p (by omega) k (by omega)
      rw [if_neg c]
      simp only [T, TP, S, I, E, EP, Option.bind_some, bne_self_eq_false, Bool.false_eq_true, if_false, if_true]

end Go.Proofs.Ytijbhcalknfijaa.Pure
