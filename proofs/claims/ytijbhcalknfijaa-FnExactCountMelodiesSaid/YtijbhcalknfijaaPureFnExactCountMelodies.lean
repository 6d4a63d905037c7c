/- The law FnExactCountMelodies over lists alone. No condition. -/
import Derived.Test.YtijbhcalknfijaaM2x0
import Derived.Test.YtijbhcalknfijaaM2x8
import Derived.Test.YtijbhcalknfijaaM2x10
import Derived.Test.YtijbhcalknfijaaM2x16
import Derived.Test.YtijbhcalknfijaaM2x17
import Derived.Test.YtijbhcalknfijaaCount2
namespace Go.Proofs.Ytijbhcalknfijaa.Pure
open Go.RowKit Go.Proofs.Ytijbhcalknfijaa.M2 Go.Proofs.YtijbhcalknfijaaW.PrintWords Go.Proofs.YtijbhcalknfijaaW.PrintLast
def cmN (s t : Int) (f : List Int) (l : List S67) (n : Int) : Int × Int :=
  if okG s t f l = true then (if inB n 0 12 = true then (rd (itV l s n.toNat (v0 s f)) t, 0) else (0, 2)) else (0, 1)
theorem cm_both (s t : Int) (f : List Int) (l : List S67) (n : Int) (hn : l.length ≤ 1048576) (hf : f.length ≤ 1048576) (k : Nat) (hk : 2200000 ≤ k) : spec_CountMelodies.f k s t f l n = some (cmN s t f l n) ∧ impl_CountMelodies.f k s t f l n = some (cmN s t f l n) := by
  rw [spec_CountMelodies.f, impl_CountMelodies.f, specOkG s t f l hf hn k hk, implOkG s t f l hf hn k hk, Option.bind_some, Option.bind_some]
  unfold cmN
  by_cases h : okG s t f l = true
  · rw [if_pos h, if_pos h, if_pos h, spec_l07Long.f, specIn, implIn, Option.bind_some, Option.bind_some, Option.bind_some]
    by_cases c : inB n 0 12 = true
    · have hc := inB_true.1 c
      have hs := okG_st h
      obtain ⟨m, rfl⟩ := Int.eq_ofNat_of_zero_le hc.1
      have hl := itV_len l s m (v0 s f) (v0_len s f)
      rw [if_pos c, if_pos c, if_pos c, specCounts h hf m (by omega) k (by omega), implCounts h hf m (by omega) k (by omega), Option.bind_some, Option.bind_some, Int.toNat_natCast, rd_L3, Int.toNat_natCast, itL_at l s m _ m (Nat.le_refl _)]
      have hlen : (v0 s f :: itL l s m (v0 s f)).length = m + 1 := by rw [List.length_cons, itL_len]
      rw [if_pos (by omega), if_pos (by omega), if_pos (by omega), if_pos (by omega)]
      exact ⟨rfl, rfl⟩
    · rw [if_neg c, if_neg c, if_neg c]
      exact ⟨rfl, rfl⟩
  · rw [if_neg h, if_neg h, if_neg h]
    exact ⟨rfl, rfl⟩
theorem FnExactCountMelodies : laws_FnExactCountMelodies.Pure := by
  intro s t f l a h0 h1 hf hl _
  obtain ⟨k, hk⟩ : ∃ k, 2300000 ≤ k := ⟨_, Nat.le_refl _⟩
  refine ⟨k + 5, ?_⟩
  rw [laws_FnExactCountMelodies.f, szG s t f l _ hf.1 hl.1 (by omega) (by omega), Option.bind_some]
  by_cases c : (1048576 : Int) - f.length - l.length < 0
  · simp [c]
  · have hn : l.length ≤ 1048576 := by omega
    have hm : f.length ≤ 1048576 := by omega
    have hn' : (l.map cvA).length ≤ 1048576 := by simpa using hn
    have T := toG s t f l hm hn
    have S := fun j hj => (cm_both s t f (l.map cvA) a hn' hm j hj).1
    have I := fun j hj => (cm_both s t f (l.map cvA) a hn' hm j hj).2
    have EG := eqG s t f (l.map cvA) hm hn'
    rw [if_neg c, if_neg c]
    generalize cmN s t f (l.map cvA) a = W at *
    obtain ⟨w0, w1⟩ := W
    generalize l.map cvA = m at *
    simp (disch := omega) only [T, S, I, EG, laws_FnExactCountMelodies.j0, Option.bind_some, bne_self_eq_false, Bool.false_eq_true, if_false, if_true]


end Go.Proofs.Ytijbhcalknfijaa.Pure
