/- The law FnExactAccepts over lists alone. No condition. -/
import Derived.Test.YtijbhcalknfijaaMx0
import Derived.Test.YtijbhcalknfijaaMx16
import Derived.Test.YtijbhcalknfijaaMx18
import Derived.Test.YtijbhcalknfijaaMx19
import Derived.Test.YtijbhcalknfijaaRun
namespace Go.Proofs.Ytijbhcalknfijaa.Pure
open Go.RowKit Go.Proofs.Ytijbhcalknfijaa.M Go.Proofs.YtijbhcalknfijaaW.PrintWords Go.Proofs.YtijbhcalknfijaaW.PrintLast
def accG (s t : Int) (f : List Int) (l : List S67) (p : List Int) : Bool := okG s t f l && (decide ((runG l t p).2 = (p.length : Int)) && hasL f (runG l t p).1)
theorem specAccepts (s t : Int) (f : List Int) (l : List S67) (p : List Int) (hn : l.length ≤ 1048576) (hf : f.length ≤ 1048576) (hp : p.length ≤ 1048576) (k : Nat) (hk : 2200000 ≤ k) : spec_l07Accepts.f k s t f l p = some (decide ((runG l t p).2 = (p.length : Int)) && hasL f (runG l t p).1) := by
  rw [spec_l07Accepts.f, specRun s t f l p hn hp k hk, Option.bind_some]
  by_cases c : (runG l t p).2 = (p.length : Int)
  · rw [if_pos c, specHas f _ hf k (by omega), Option.bind_some, decide_eq_true c, Bool.true_and]
  · rw [if_neg c, decide_eq_false c, Bool.false_and]
theorem acc_both (s t : Int) (f : List Int) (l : List S67) (p : List Int) (hn : l.length ≤ 1048576) (hf : f.length ≤ 1048576) (hp : p.length ≤ 1048576) (k : Nat) (hk : 2200000 ≤ k) : spec_Accepts.f k s t f l p = some (accG s t f l p) ∧ impl_Accepts.f k s t f l p = some (accG s t f l p) := by
  rw [spec_Accepts.f, impl_Accepts.f, specOkG s t f l hf hn k hk, implOkG s t f l hf hn k hk, Option.bind_some, Option.bind_some]
  unfold accG
  by_cases h : okG s t f l = true
  · rw [if_pos h, if_pos h, specAccepts s t f l p hn hf hp k hk, implRun h p hn hp k hk, Option.bind_some, Option.bind_some, h, Bool.true_and]
    refine ⟨rfl, ?_⟩
    by_cases c : (runG l t p).2 = (p.length : Int)
    · rw [if_pos c, implHas s t f l _ hf k (by omega), Option.bind_some, decide_eq_true c, Bool.true_and]
    · rw [if_neg c, decide_eq_false c, Bool.false_and]
  · rw [if_neg h, if_neg h]
    rw [Bool.not_eq_true] at h
    rw [h]
    exact ⟨rfl, rfl⟩
theorem FnExactAccepts : laws_FnExactAccepts.Pure := by
  intro s t f l p h0 h1 hf hl hp0
  obtain ⟨k, hk⟩ : ∃ k, 2300000 ≤ k := ⟨_, Nat.le_refl _⟩
  refine ⟨k, ?_⟩
  rw [laws_FnExactAccepts.f]
  by_cases cp : (p.length : Int) > 1048576
  · rw [if_pos cp]
  · rw [if_neg cp, szG s t f l _ hf.1 hl.1 (by omega) (by omega), Option.bind_some]
    by_cases c : (1048576 : Int) - f.length - l.length < 0
    · simp [c]
    · have hn : l.length ≤ 1048576 := by omega
      have hm : f.length ≤ 1048576 := by omega
      have hp : p.length ≤ 1048576 := by omega
      have hn' : (l.map cvA).length ≤ 1048576 := by simpa using hn
      have T := toG s t f l hm hn k (by omega)
      have TP := toI p hp k (by omega)
      obtain ⟨S, I⟩ := acc_both s t f (l.map cvA) p hn' hm hp k (by omega)
      have E := eqG s t f (l.map cvA) hm hn' k (by omega)
      have EP := eqI p (by omega) k (by omega)
      rw [if_neg c, if_neg c]
      generalize l.map cvA = m at *
      simp only [T, TP, S, I, E, EP, Option.bind_some, bne_self_eq_false, Bool.false_eq_true, if_false, if_true]


end Go.Proofs.Ytijbhcalknfijaa.Pure
