/- The law FnExactWrongTurn over lists alone. No condition. -/
import Derived.Test.YtijbhcalknfijaaMx0
import Derived.Test.YtijbhcalknfijaaMx16
import Derived.Test.YtijbhcalknfijaaMx22
import Derived.Test.YtijbhcalknfijaaMx23
import Derived.Test.YtijbhcalknfijaaMx24
import Derived.Test.YtijbhcalknfijaaRun
import Derived.Test.YtijbhcalknfijaaGMarks
namespace Go.Proofs.Ytijbhcalknfijaa.Pure
open Go.RowKit Go.Proofs.Ytijbhcalknfijaa.M Go.Proofs.YtijbhcalknfijaaW.PrintWords Go.Proofs.YtijbhcalknfijaaW.PrintLast
def wtN (s t : Int) (f : List Int) (l : List S67) (p : List Int) : Int × List Int × Int :=
  if okG s t f l = true then (if (decide ((runG l t p).2 = (p.length : Int)) && hasL f (runG l t p).1) = true then (0, [], 3) else ((runG l t p).2, (from_ l (runG l t p).1).map S67.f1, 0)) else (0, [], 1)
theorem specWT_l0 (a b st n : Int) (f : List Int) (l : List S67) (hn : l.length ≤ 1048576) (d : Nat) : ∀ (k i : Nat) (acc : List Int), i + d = l.length → acc.length ≤ i → d < k → spec_WrongTurn.l0 k st n acc (i : Int) a b f l = some (n, acc ++ (from_ (l.drop i) st).map S67.f1, 0) := by
  induction d with
  | zero =>
    intro k i acc hi ha hk
    obtain ⟨k, rfl⟩ := succ_of hk
    rw [spec_WrongTurn.l0, if_neg (by omega), List.drop_eq_nil_of_le (by omega)]
    simp [from_]
  | succ d ih =>
    intro k i acc hi ha hk
    obtain ⟨k, rfl⟩ := succ_of hk
    have hlt : i < l.length := by omega
    rw [spec_WrongTurn.l0, if_pos (by omega), if_pos (by omega), rdA_at hlt, w64 (by omega) (by omega), show ((i : Int) + 1) = ((i + 1 : Nat) : Int) by omega, List.drop_eq_getElem_cons hlt]
    by_cases c : l[i].f0 = st
    · rw [if_pos c, if_pos (by omega), ih k (i + 1) _ (by omega) (by simp; omega) (by omega), from_, from_, List.filter_cons_of_pos (by simpa using c), List.map_cons, List.append_assoc]
      rfl
    · rw [if_neg c, ih k (i + 1) _ (by omega) (by omega) (by omega), from_, from_, List.filter_cons_of_neg (by simpa using c)]
theorem implWT_l0 (n : Int) (l : List S67) (hn : l.length ≤ 1048576) (d : Nat) : ∀ (k i : Nat) (acc : List Int), i + d = l.length → acc.length ≤ i → d < k → impl_WrongTurn.l0 k n acc l (l.length : Int) (i : Int) = some (n, acc ++ (l.drop i).map S67.f1, 0) := by
  induction d with
  | zero =>
    intro k i acc hi ha hk
    obtain ⟨k, rfl⟩ := succ_of hk
    rw [impl_WrongTurn.l0, if_neg (by omega), List.drop_eq_nil_of_le (by omega)]
    simp
  | succ d ih =>
    intro k i acc hi ha hk
    obtain ⟨k, rfl⟩ := succ_of hk
    have hlt : i < l.length := by omega
    rw [impl_WrongTurn.l0]
    simp only [if_pos (show (i : Int) < (l.length : Int) by omega), if_pos (show (0 : Int) ≤ (i : Int) by omega)]
    rw [if_pos (by omega), rdA_at hlt, w64 (by omega) (by omega), show ((i : Int) + 1) = ((i + 1 : Nat) : Int) by omega, List.drop_eq_getElem_cons hlt, ih k (i + 1) _ (by omega) (by simp; omega) (by omega), List.map_cons, List.append_assoc]
    rfl
theorem specAccepts (s t : Int) (f : List Int) (l : List S67) (p : List Int) (hn : l.length ≤ 1048576) (hf : f.length ≤ 1048576) (hp : p.length ≤ 1048576) (k : Nat) (hk : 2200000 ≤ k) : spec_l07Accepts.f k s t f l p = some (decide ((runG l t p).2 = (p.length : Int)) && hasL f (runG l t p).1) := by
  rw [spec_l07Accepts.f, specRun s t f l p hn hp k hk, Option.bind_some]
  by_cases c : (runG l t p).2 = (p.length : Int)
  · rw [if_pos c, specHas f _ hf k (by omega), Option.bind_some, decide_eq_true c, Bool.true_and]
  · rw [if_neg c, decide_eq_false c, Bool.false_and]
theorem wt_both (s t : Int) (f : List Int) (l : List S67) (p : List Int) (hn : l.length ≤ 1048576) (hf : f.length ≤ 1048576) (hp : p.length ≤ 1048576) (k : Nat) (hk : 2200001 ≤ k) : spec_WrongTurn.f k s t f l p = some (wtN s t f l p) ∧ impl_WrongTurn.f k s t f l p = some (wtN s t f l p) := by
  obtain ⟨k, rfl⟩ : ∃ j, k = j + 1 := ⟨k - 1, by omega⟩
  rw [spec_WrongTurn.f, impl_WrongTurn.f, specOkG s t f l hf hn _ (by omega), implOkG s t f l hf hn _ (by omega), Option.bind_some, Option.bind_some]
  unfold wtN
  by_cases h : okG s t f l = true
  · rw [if_pos h, if_pos h, if_pos h, specAccepts s t f l p hn hf hp _ (by omega), implRun h p hn hp _ (by omega), Option.bind_some, Option.bind_some, specRun s t f l p hn hp _ (by omega), Option.bind_some]
    have fl := from_len l (runG l t p).1
    have e1 := specWT_l0 s t (runG l t p).1 (runG l t p).2 f l hn l.length (k + 1) 0 [] (by omega) (by simp) (by omega)
    have e2 := implWT_l0 (runG l t p).2 (from_ l (runG l t p).1) (by omega) (from_ l (runG l t p).1).length k 0 [] (by omega) (by simp) (by omega)
    rw [List.drop_zero, List.nil_append] at e1 e2
    have j0t : impl_WrongTurn.j0 (k + 1) (runG l t p).1 (runG l t p).2 true s t f l = some (0, [], 3) := by rw [impl_WrongTurn.j0, if_pos rfl]
    have j0f : impl_WrongTurn.j0 (k + 1) (runG l t p).1 (runG l t p).2 false s t f l = some ((runG l t p).2, (from_ l (runG l t p).1).map S67.f1, 0) := by
      rw [impl_WrongTurn.j0, if_neg (by decide), arcsOf s t f l _ hn k (by omega), Option.bind_some]
      exact e2
    by_cases c : (runG l t p).2 = (p.length : Int)
    · simp only [if_pos c, decide_eq_true c, Bool.true_and]
      rw [implHas s t f l _ hf _ (by omega), Option.bind_some]
      cases hh : hasL f (runG l t p).1 with
      | true =>
        rw [if_pos rfl, if_pos rfl, j0t]
        exact ⟨rfl, rfl⟩
      | false =>
        rw [if_neg (by decide), if_neg (by decide), j0f]
        exact ⟨e1, rfl⟩
    · simp only [if_neg c, decide_eq_false c, Bool.false_and]
      rw [if_neg (by decide), if_neg (by decide), j0f]
      exact ⟨e1, rfl⟩
  · rw [if_neg h, if_neg h, if_neg h]
    exact ⟨rfl, rfl⟩
theorem wt_len (s t : Int) (f : List Int) (l : List S67) (p : List Int) : (wtN s t f l p).2.1.length ≤ l.length := by
  have := from_len l (runG l t p).1
  unfold wtN
  split
  · split
    · simp
    · simpa using this
  · simp
theorem FnExactWrongTurn : laws_FnExactWrongTurn.Pure := by
  intro s t f l p h0 h1 hf hl hp0
  obtain ⟨k, hk⟩ : ∃ k, 2300000 ≤ k := ⟨_, Nat.le_refl _⟩
  refine ⟨k + 5, ?_⟩
  rw [laws_FnExactWrongTurn.f]
  by_cases cp : (p.length : Int) > 1048576
  · rw [if_pos cp]
  · rw [if_neg cp, szG s t f l _ hf.1 hl.1 (by omega) (by omega), Option.bind_some]
    by_cases c : (1048576 : Int) - f.length - l.length < 0
    · simp [c]
    · have hn : l.length ≤ 1048576 := by omega
      have hm : f.length ≤ 1048576 := by omega
      have hp : p.length ≤ 1048576 := by omega
      have hn' : (l.map cvA).length ≤ 1048576 := by simpa using hn
      have T := toG s t f l hm hn
      have TP := toI p hp
      have S := fun j hj => (wt_both s t f (l.map cvA) p hn' hm hp j hj).1
      have I := fun j hj => (wt_both s t f (l.map cvA) p hn' hm hp j hj).2
      have EG := eqG s t f (l.map cvA) hm hn'
      have EP := eqI p (by omega)
      obtain ⟨mm, my, MG⟩ := markG s t f (l.map cvA) hm hn'
      have MP := markI2 p (1 + (f.length : Int) + 3 * ((l.map cvA).length : Int)) hp (by omega) (by omega)
      have wl := wt_len s t f (l.map cvA) p
      rw [if_neg c, if_neg c]
      generalize wtN s t f (l.map cvA) p = W at *
      obtain ⟨w0, w, w2⟩ := W
      simp only at wl
      generalize l.map cvA = m at *
      have E := eqI w (by omega)
      have M := markI w (by omega)
      have H := heldI w.length (by omega)
      have c1 : ¬ ((1 + (f.length : Int) + 3 * (m.length : Int) + (p.length : Int)) < 0) := by omega
      have c2 : ¬ ((1 + (w.length : Int)) < 0) := by omega
      rw [T _ (by omega), Option.bind_some, TP _ (by omega), Option.bind_some]
      dsimp only
      rw [S _ (by omega), Option.bind_some, Option.bind_some, Option.bind_some]
      dsimp only
      rw [I _ (by omega), Option.bind_some]
      dsimp only
      rw [if_pos rfl, E _ (by omega), Option.bind_some, if_pos rfl, bne_self_eq_false, laws_FnExactWrongTurn.j0, if_neg (by decide), T _ (by omega), Option.bind_some]
      dsimp only
      rw [EG _ (by omega), Option.bind_some, if_pos rfl, TP _ (by omega), Option.bind_some, EP _ (by omega), Option.bind_some, if_pos rfl, MG _ (by omega), Option.bind_some]
      dsimp only
      rw [MP _ (by omega), Option.bind_some]
      dsimp only
      rw [if_neg c1, if_pos rfl, E _ (by omega), Option.bind_some, if_pos rfl, bne_self_eq_false, laws_FnExactWrongTurn.j1, if_neg (by decide), M _ (by omega), Option.bind_some]
      dsimp only
      rw [H _ (by omega), Option.bind_some, if_neg c2, if_pos rfl, T _ (by omega), Option.bind_some, TP _ (by omega), Option.bind_some]
      dsimp only
      rw [I _ (by omega), Option.bind_some]
      dsimp only
      rw [if_pos rfl, E _ (by omega), Option.bind_some, if_pos rfl, bne_self_eq_false, laws_FnExactWrongTurn.j2, if_neg (by decide), H _ (by omega), Option.bind_some, if_neg c2, if_pos rfl]

end Go.Proofs.Ytijbhcalknfijaa.Pure
