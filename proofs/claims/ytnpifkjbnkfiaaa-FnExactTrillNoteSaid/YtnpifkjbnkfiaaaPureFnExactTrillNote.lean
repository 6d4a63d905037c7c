/- The law FnExactTrillNote over lists alone. No condition. -/
import Derived.Test.YtnpifkjbnkfiaaaMx0
import Derived.Test.YtnpifkjbnkfiaaaMx6
import Derived.Test.YtnpifkjbnkfiaaaMx19
import Derived.Test.YtnpifkjbnkfiaaaMx22
import Derived.Test.YtnpifkjbnkfiaaaMx27
import Derived.Test.YtnpifkjbnkfiaaaMx28
import Derived.Test.YtnpifkjbnkfiaaaMx29
import Derived.Test.YtnpifkjbnkfiaaaRepl
namespace Go.Proofs.Ytnpifkjbnkfiaaa.Pure
open Go.RowKit Go.Proofs.Ytnpifkjbnkfiaaa.M Go.Proofs.YtnpifkjbnkfiaaaW.PrintWords Go.Proofs.YtnpifkjbnkfiaaaW.PrintLast
def trl (p q l : Int) : Nat → Nat → List S52
  | 0, _ => []
  | d + 1, i => ⟨pick2 (Int.tmod (i : Int) 2) p q, l⟩ :: trl p q l d (i + 1)
theorem trl_len (p q l : Int) (d : Nat) : ∀ i, (trl p q l d i).length = d := by
  induction d with
  | zero => intro i; rfl
  | succ d ih => intro i; rw [trl, List.length_cons, ih]
theorem trl_ok (p q l : Int) (hp : -12 ≤ p ∧ p ≤ 23) (hq : -12 ≤ q ∧ q ≤ 23) (hl : 1 ≤ l ∧ l ≤ 64) (d : Nat) : ∀ i, (trl p q l d i).all noteOk = true := by
  induction d with
  | zero => intro i; rfl
  | succ d ih =>
    intro i
    rw [trl, List.all_cons, ih, Bool.and_true]
    unfold pick2
    simp only [noteOk, Bool.and_eq_true, inB_true]
    split <;> exact ⟨by assumption, hl⟩
theorem mod2 (i : Nat) : 0 ≤ Int.tmod (i : Int) 2 ∧ Int.tmod (i : Int) 2 < 2 := by
  rw [Int.tmod_eq_emod_of_nonneg (by omega)]
  omega
theorem trS (m : List S52) (i : Nat) (hi : i < m.length) (p l : Int) (hl : ¬ l = 0) (n : Nat) (hn : n ≤ 64) (hT : wrap64 (Int.tdiv m[i].f1 l) = (n : Int)) (d : Nat) : ∀ (k j : Nat) (acc : List S52), j + d = n → acc.length = j → d < k → spec_TrillNote.l0 k m (i : Int) p l acc (j : Int) = (spec_l10Replace.f m (i : Int) (acc ++ trl m[i].f0 p l d j)).bind fun bt => some (bt.1, bt.2) := by
  induction d with
  | zero =>
    intro k j acc hj ha hk
    obtain ⟨k, rfl⟩ := succ_of hk
    rw [spec_TrillNote.l0, if_pos (by omega), if_pos (by omega), if_neg hl, rdN_at hi, hT, if_neg (by omega), trl, List.append_nil]
  | succ d ih =>
    intro k j acc hj ha hk
    obtain ⟨k, rfl⟩ := succ_of hk
    rw [spec_TrillNote.l0, if_pos (by omega), if_pos (by omega), if_neg hl, rdN_at hi, hT, if_pos (by omega), w64 (n := (j : Int) + 1) (by omega) (by omega), show ((j : Int) + 1) = ((j + 1 : Nat) : Int) by omega]
    by_cases z : Int.tmod (j : Int) 2 = 0
    · rw [if_pos z, if_pos (by omega), ih k (j + 1) _ (by omega) (by simp; omega) (by omega), trl, pick2, if_pos z, List.append_assoc]
      rfl
    · rw [if_neg z, if_pos (by omega), ih k (j + 1) _ (by omega) (by simp; omega) (by omega), trl, pick2, if_neg z, List.append_assoc]
      rfl
theorem trI (m : List S52) (i : Nat) (hi : i < m.length) (hm : m.length ≤ 48) (p q l f : Int) (n : Nat) (hn : n ≤ 64) (d : Nat) : ∀ (k j : Nat) (acc : List S52), j + d = n → acc.length = j → d < k → impl_TrillNote.l0 k m (i : Int) q l acc (n : Int) (j : Int) p f = (impl_Note_56.f [m.take i, acc ++ trl p q l d j, m.drop (i + 1)]).bind fun t => (impl_checkedMelody.f t).bind fun bt => some (bt.1, bt.2) := by
  induction d with
  | zero =>
    intro k j acc hj ha hk
    obtain ⟨k, rfl⟩ := succ_of hk
    rw [impl_TrillNote.l0, if_neg (by omega), if_pos (by omega), if_pos (by omega), w64 (n := (i : Int) + 1) (by omega) (by omega), if_pos (by omega), if_pos (by omega), trl, List.append_nil, Int.toNat_natCast, show ((i : Int) + 1).toNat = i + 1 by omega]
  | succ d ih =>
    intro k j acc hj ha hk
    obtain ⟨k, rfl⟩ := succ_of hk
    have h2 := mod2 j
    rw [impl_TrillNote.l0, if_pos (by omega), if_pos h2.1, if_pos h2.2, if_pos (by omega), w64 (n := (j : Int) + 1) (by omega) (by omega), show ((j : Int) + 1) = ((j + 1 : Nat) : Int) by omega, ih k (j + 1) _ (by omega) (by simp; omega) (by omega), trl, List.append_assoc]
    rfl
theorem trillnote_both (m : List S52) (hn : m.length ≤ 1048576) (a p l : Int) : ∃ (w : List S52) (c : Int), w.length ≤ 1100000 ∧ ∀ k, 2200000 ≤ k → spec_TrillNote.f k m a p l = some (w, c) ∧ impl_TrillNote.f k m a p l = some (w, c) := by
  by_cases h : okN m = true
  · by_cases h1 : askB m a p l = true
    · have hb := h1
      simp only [askB, Bool.and_eq_true, inB_true] at hb
      obtain ⟨i, rfl⟩ := Int.eq_ofNat_of_zero_le hb.1.1.1
      have hl := okN_len h
      have hi : i < m.length := by omega
      have hx := okN_at h (List.getElem_mem hi)
      have hl0 : ¬ l = 0 := by omega
      by_cases c : l ≥ m[i].f1
      · refine ⟨[], 6, by simp, fun k hk => ?_⟩
        obtain ⟨k, rfl⟩ : ∃ j, k = j + 2 := ⟨k - 2, by omega⟩
        rw [spec_TrillNote.f, impl_TrillNote.f, specAsk m hn _ _ _ _ (by omega), implAsk m hn _ _ _ _ (by omega)]
        simp only [if_pos h, if_pos h1, Option.bind_some, rdN_at hi]
        rw [if_pos c, if_neg (by decide), if_pos trivial, if_pos (by omega), if_pos (by omega), if_pos c, spec_TrillNote.j0, if_neg (by decide), spec_TrillNote.j1, if_neg (by decide), impl_TrillNote.j0, if_pos rfl]
        exact ⟨rfl, rfl⟩
      · by_cases z : Int.tmod m[i].f1 l = 0
        · have t0 : 0 ≤ Int.tdiv m[i].f1 l := Int.tdiv_nonneg (by omega) (by omega)
          have t1 : Int.tdiv m[i].f1 l ≤ m[i].f1 := Int.tdiv_le_self l (by omega)
          obtain ⟨n, hT⟩ := Int.eq_ofNat_of_zero_le t0
          have hT' : wrap64 (Int.tdiv m[i].f1 l) = (n : Int) := by rw [w64 (by omega) (by omega)]; exact hT
          have hn64 : n ≤ 64 := by omega
          have hall := trl_ok m[i].f0 p l (by omega) (by omega) (by omega) n 0
          have htl := trl_len m[i].f0 p l n 0
          have hd := doneN_len (repl m i (trl m[i].f0 p l n 0))
          refine ⟨(doneN (repl m i (trl m[i].f0 p l n 0))).1, (doneN (repl m i (trl m[i].f0 p l n 0))).2, by omega, fun k hk => ?_⟩
          obtain ⟨k, rfl⟩ : ∃ j, k = j + 2 := ⟨k - 2, by omega⟩
          rw [spec_TrillNote.f, impl_TrillNote.f, specAsk m hn _ _ _ _ (by omega), implAsk m hn _ _ _ _ (by omega)]
          simp only [if_pos h, if_pos h1, Option.bind_some, rdN_at hi]
          rw [if_neg c, if_pos rfl, if_pos (by omega), if_pos (by omega), if_neg hl0, if_pos trivial, if_pos (by omega), if_pos (by omega), if_neg c, if_neg hl0, z, spec_TrillNote.j0, if_neg (by decide), spec_TrillNote.j1, if_pos rfl, impl_TrillNote.j0, if_neg (by decide), if_neg hl0, hT']
          have e1 := trS m i hi p l hl0 n hn64 hT' n k 0 [] (by omega) rfl (by omega)
          have e2 := trI m i hi hl m[i].f0 p l m[i].f1 n hn64 n (k + 1) 0 [] (by omega) rfl (by omega)
          rw [List.nil_append] at e1 e2
          rw [show spec_TrillNote.l0 k m (i : Int) p l [] 0 = _ from e1, show impl_TrillNote.l0 (k + 1) m (i : Int) p l [] (n : Int) 0 m[i].f0 m[i].f1 = _ from e2]
          rw [specRepl m i _ hi hl (by omega), implCat m i _ hi hl (by omega), Option.bind_some, Option.bind_some, implDone, Option.bind_some, done_ok (repl_ok i (okN_all h) hall)]
          exact ⟨rfl, rfl⟩
        · refine ⟨[], 6, by simp, fun k hk => ?_⟩
          obtain ⟨k, rfl⟩ : ∃ j, k = j + 2 := ⟨k - 2, by omega⟩
          rw [spec_TrillNote.f, impl_TrillNote.f, specAsk m hn _ _ _ _ (by omega), implAsk m hn _ _ _ _ (by omega)]
          simp only [if_pos h, if_pos h1, Option.bind_some, rdN_at hi]
          have zb : (Int.tmod m[i].f1 l != 0) = true := by simpa using z
          rw [if_neg c, if_pos rfl, if_pos (by omega), if_pos (by omega), if_neg hl0, if_pos trivial, if_pos (by omega), if_pos (by omega), if_neg c, if_neg hl0, zb, spec_TrillNote.j0, if_pos rfl, spec_TrillNote.j1, if_neg (by decide), impl_TrillNote.j0, if_pos rfl]
          exact ⟨rfl, rfl⟩
    · refine ⟨[], 2, by simp, fun k hk => ?_⟩
      obtain ⟨k, rfl⟩ : ∃ j, k = j + 2 := ⟨k - 2, by omega⟩
      rw [spec_TrillNote.f, impl_TrillNote.f, specAsk m hn _ _ _ _ (by omega), implAsk m hn _ _ _ _ (by omega)]
      simp only [if_pos h, if_neg h1, Option.bind_some]
      rw [if_neg (by decide), if_neg (by decide), spec_TrillNote.j0, if_neg (by decide), spec_TrillNote.j1, if_neg (by decide)]
      exact ⟨rfl, rfl⟩
  · refine ⟨[], 1, by simp, fun k hk => ?_⟩
    obtain ⟨k, rfl⟩ : ∃ j, k = j + 2 := ⟨k - 2, by omega⟩
    rw [spec_TrillNote.f, impl_TrillNote.f, specAsk m hn _ _ _ _ (by omega), implAsk m hn _ _ _ _ (by omega)]
    simp only [if_neg h, Option.bind_some]
    rw [if_neg (by decide), if_neg (by decide), spec_TrillNote.j0, if_neg (by decide), spec_TrillNote.j1, if_neg (by decide)]
    exact ⟨rfl, rfl⟩
theorem FnExactTrillNote : laws_FnExactTrillNote.Pure := by
  intro l0 a1 a2 a3 h0 h1 h2 h3
  obtain ⟨k, hk⟩ : ∃ k, 2300000 ≤ k := ⟨_, Nat.le_refl _⟩
  refine ⟨k + 5, ?_⟩
  rw [laws_FnExactTrillNote.f, szN l0 _ h0.1 (by omega) (by omega), Option.bind_some]
  by_cases c : (1048576 : Int) - l0.length < 0
  · simp [c]
  · have hn : l0.length ≤ 1048576 := by omega
    have hn' : (l0.map cvN).length ≤ 1048576 := by simpa using hn
    obtain ⟨w, cd, hw, hb⟩ := trillnote_both (l0.map cvN) hn' a1 a2 a3 
    have S := fun j hj => (hb j hj).1
    have I := fun j hj => (hb j hj).2
    have T := toN l0 hn
    have EN := eqN (l0.map cvN) (by omega)
    have MN := markN (l0.map cvN) (by omega)
    have E := eqN w (by omega)
    have M := markN w (by omega)
    have H := heldN w.length (by omega)
    have c1 : ¬ ((1 + 2 * ((l0.map cvN).length : Int)) < 0) := by omega
    have c2 : ¬ ((1 + 2 * (w.length : Int)) < 0) := by omega
    rw [if_neg c, if_neg c]
    generalize l0.map cvN = m at *
    rw [T (k + 5) (by omega)]
    simp only [Option.bind_some]
    rw [S (k + 5) (by omega), Option.bind_some, I (k + 5) (by omega), Option.bind_some]
    dsimp only
    rw [E (k + 5) (by omega), Option.bind_some, if_pos rfl, laws_FnExactTrillNote.j0, if_neg (by simp), T (k + 4) (by omega), Option.bind_some, EN (k + 4) (by omega), Option.bind_some, if_pos rfl, MN (k + 4) (by omega), Option.bind_some]
    dsimp only
    rw [if_neg c1, E (k + 4) (by omega), Option.bind_some, if_pos rfl, laws_FnExactTrillNote.j1, if_neg (by simp), M (k + 3) (by omega), Option.bind_some]
    dsimp only
    rw [H (k + 3) (by omega), Option.bind_some, if_neg c2, if_pos rfl, T (k + 3) (by omega), Option.bind_some, I (k + 3) (by omega), Option.bind_some]
    dsimp only
    rw [E (k + 3) (by omega), Option.bind_some, if_pos rfl, laws_FnExactTrillNote.j2, if_neg (by simp), H (k + 2) (by omega), Option.bind_some, if_neg c2, if_pos rfl]


end Go.Proofs.Ytnpifkjbnkfiaaa.Pure
