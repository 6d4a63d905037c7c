/- The law FnExactCutMelody over lists alone. No condition. -/
import Derived.Test.YtbhmalpncnkmaaaMx0
import Derived.Test.YtbhmalpncnkmaaaMx19
import Derived.Test.YtbhmalpncnkmaaaMx38
import Derived.Test.YtbhmalpncnkmaaaMx55
import Derived.Test.YtbhmalpncnkmaaaMx56
import Derived.Test.YtbhmalpncnkmaaaMx57
import Derived.Test.YtbhmalpncnkmaaaMel
import Derived.Test.YtbhmalpncnkmaaaSum
namespace Go.Proofs.Ytbhmalpncnkmaaa.Pure
open Go.RowKit Go.Proofs.Ytbhmalpncnkmaaa.M Go.Proofs.YtbhmalpncnkmaaaW.PrintWords Go.Proofs.YtbhmalpncnkmaaaW.PrintLast
def cutN (a b : Int) : List S72 → Int → List S72
  | [], _ => []
  | y :: l, t => (if mx t a < mn (t + y.f1) b then [⟨y.f0, mn (t + y.f1) b - mx t a⟩] else []) ++ cutN a b l (t + y.f1)
theorem specMax (a b : Int) : spec_l00Max.f a b = some (mx a b) := by
  unfold spec_l00Max.f mx
  split <;> split <;> first | rfl | (congr 1; omega)
theorem specMin (a b : Int) : spec_l00Min.f a b = some (mn a b) := by
  unfold spec_l00Min.f mn
  split <;> split <;> first | rfl | (congr 1; omega)
theorem mx_bd {a b lo hi : Int} (h1 : lo ≤ a ∧ a ≤ hi) (h2 : lo ≤ b ∧ b ≤ hi) : lo ≤ mx a b ∧ mx a b ≤ hi := by unfold mx; split <;> omega
theorem mn_bd {a b lo hi : Int} (h1 : lo ≤ a ∧ a ≤ hi) (h2 : lo ≤ b ∧ b ≤ hi) : lo ≤ mn a b ∧ mn a b ≤ hi := by unfold mn; split <;> omega
theorem cut_l0 (x : List S72) (hn : x.length ≤ 48) (hv : ∀ y ∈ x, 1 ≤ y.f1 ∧ y.f1 ≤ 64) (a b : Int) (ha : 0 ≤ a ∧ a ≤ 3072) (hb : 0 ≤ b ∧ b ≤ 3072) (d : Nat) : ∀ (k i : Nat) (acc : List S72) (t : Int), 0 ≤ t → t ≤ 64 * i → i + d = x.length → d < k → acc.length ≤ i →
    spec_l09Cut.l0 k x a b acc t (i : Int) = some (acc ++ cutN a b (x.drop i) t) ∧ impl_CutMelody.l0 k a b acc t x (x.length : Int) (i : Int) = some (acc ++ cutN a b (x.drop i) t, 0) := by
  induction d with
  | zero =>
    intro k i acc t h0 ht hi hk hl
    obtain ⟨k, rfl⟩ := succ_of hk
    rw [spec_l09Cut.l0, impl_CutMelody.l0, if_neg (by omega), if_neg (by omega), List.drop_eq_nil_of_le (by omega)]
    simp [cutN]
  | succ d ih =>
    intro k i acc t h0 ht hi hk hl
    obtain ⟨k, rfl⟩ := succ_of hk
    have hlt : i < x.length := by omega
    have hx := hv x[i] (List.getElem_mem hlt)
    have b1 := mx_bd (lo := 0) (hi := 4000) (a := t) (b := a) (by omega) (by omega)
    have b2 := mn_bd (lo := 0) (hi := 4000) (a := t + x[i].f1) (b := b) (by omega) (by omega)
    rw [spec_l09Cut.l0, impl_CutMelody.l0, rdN_at hlt, w64 (n := t + x[i].f1) (by omega) (by omega), w64 (n := (i : Int) + 1) (by omega) (by omega)]
    simp only [specMax, specMin, Option.bind_some]
    rw [w64 (n := mn (t + x[i].f1) b - mx t a) (by omega) (by omega)]
    rw [if_pos (show (i : Int) < (x.length : Int) by omega), if_pos (show (i : Int) < (x.length : Int) by omega), if_pos (show (0 : Int) ≤ (i : Int) by omega), if_pos (show (0 : Int) ≤ (i : Int) by omega), if_pos (show (i : Int) < (x.length : Int) by omega), List.drop_eq_getElem_cons hlt, cutN]
    rw [show ((i : Int) + 1) = ((i + 1 : Nat) : Int) by omega]
    by_cases c : mx t a < mn (t + x[i].f1) b
    · have := ih k (i + 1) (acc ++ [⟨x[i].f0, mn (t + x[i].f1) b - mx t a⟩]) (t + x[i].f1) (by omega) (by omega) (by omega) (by omega) (by simp; omega)
      simp only [if_pos c, if_pos (show mn (t + x[i].f1) b - mx t a > 0 by omega), if_pos (show acc.length < 8796093022208 by omega)]
      rw [this.1, this.2]
      simp
    · have := ih k (i + 1) acc (t + x[i].f1) (by omega) (by omega) (by omega) (by omega) (by omega)
      simp only [if_neg c, if_neg (show ¬ mn (t + x[i].f1) b - mx t a > 0 by omega)]
      rw [this.1, this.2]
      simp
theorem cutN_len (a b : Int) : ∀ (l : List S72) (t : Int), (cutN a b l t).length ≤ l.length
  | [], _ => by simp [cutN]
  | y :: l, t => by
    have := cutN_len a b l (t + y.f1)
    rw [cutN]
    split <;> simp <;> omega
theorem cutmelody_both (x : List S72) (hn : x.length ≤ 1048576) (a b : Int) : ∃ (w : List S72) (c : Int), w.length ≤ 1100000 ∧ ∀ k, 1100000 ≤ k → spec_CutMelody.f k x a b = some (w, c) ∧ impl_CutMelody.f k x a b = some (w, c) := by
  cases h : okN x with
  | false =>
    refine ⟨[], 1, by simp, fun k hk => ?_⟩
    rw [spec_CutMelody.f, impl_CutMelody.f, specOk x hn k (by omega), implOk x hn k (by omega), h]
    exact ⟨rfl, rfl⟩
  | true =>
    have hs := sumN_ok h
    by_cases h2 : inB a 0 (sumN x) = true ∧ inB b a (sumN x) = true
    · have ha := inB_true.1 h2.1
      have hb := inB_true.1 h2.2
      have hl := okN_len h
      have hc := cutN_len a b x 0
      refine ⟨cutN a b x 0, 0, by omega, fun k hk => ?_⟩
      have := cut_l0 x hl (fun y hy => (okN_at h hy).2.2) a b (by omega) (by omega) x.length k 0 [] 0 (by omega) (by omega) (by omega) (by omega) (by simp)
      rw [spec_CutMelody.f, impl_CutMelody.f, spec_l09Cut.f, specOk x hn k (by omega), implOk x hn k (by omega), h]
      simp only [Option.bind_some, if_true, specSum x h k (by omega), implSum x h k (by omega), specIn, implIn, h2.1, h2.2]
      rw [show (0 : Int) = ((0 : Nat) : Int) from rfl]
      constructor
      · rw [show spec_l09Cut.l0 k x a b [] ((0 : Nat) : Int) ((0 : Nat) : Int) = _ from this.1]
        simp
      · rw [show impl_CutMelody.l0 k a b [] ((0 : Nat) : Int) x (x.length : Int) ((0 : Nat) : Int) = _ from this.2]
        simp
    · refine ⟨[], 2, by simp, fun k hk => ?_⟩
      rw [spec_CutMelody.f, impl_CutMelody.f, specOk x hn k (by omega), implOk x hn k (by omega), h]
      simp only [Option.bind_some, if_true, specSum x h k (by omega), implSum x h k (by omega), specIn, implIn]
      revert h2
      cases inB a 0 (sumN x) <;> cases inB b a (sumN x) <;> simp
theorem FnExactCutMelody : laws_FnExactCutMelody.Pure := by
  intro l0 a1 a2 h0 h1 h2
  obtain ⟨k, hk⟩ : ∃ k, 1200000 ≤ k := ⟨_, Nat.le_refl _⟩
  refine ⟨k + 5, ?_⟩
  rw [laws_FnExactCutMelody.f, szN l0 _ h0.1 (by omega) (by omega), Option.bind_some]
  by_cases c : (1048576 : Int) - l0.length < 0
  · simp [c]
  · have hn : l0.length ≤ 1048576 := by omega
    have hn' : (l0.map cvN).length ≤ 1048576 := by simpa using hn
    obtain ⟨w, cd, hw, hb⟩ := cutmelody_both (l0.map cvN) hn' a1 a2 
    have S := fun j hj => (hb j hj).1
    have I := fun j hj => (hb j hj).2
    have T := toN l0 hn
    have EN := eqN (l0.map cvN) (by omega)
    have MN := markN (l0.map cvN) (by omega)
    have E := eqN w (by omega)
    have M := markN w (by omega)
    have H := heldN w.length (by omega)
    have c1 : ¬ ((1 + 2 * ((l0.map cvN).length : Int)) < 0) := by omega
    have c2 : ¬ ((1 + 2 * (w.length : Int)) < 0) := by omega
    rw [if_neg c, if_neg c]
    generalize l0.map cvN = m at *
    rw [T (k + 5) (by omega)]
    simp only [Option.bind_some]
    rw [S (k + 5) (by omega), Option.bind_some, I (k + 5) (by omega), Option.bind_some]
    dsimp only
    rw [E (k + 5) (by omega), Option.bind_some, if_pos rfl, laws_FnExactCutMelody.j0, if_neg (by simp), T (k + 4) (by omega), Option.bind_some, EN (k + 4) (by omega), Option.bind_some, if_pos rfl, MN (k + 4) (by omega), Option.bind_some]
    dsimp only
    rw [if_neg c1, E (k + 4) (by omega), Option.bind_some, if_pos rfl, laws_FnExactCutMelody.j1, if_neg (by simp), M (k + 3) (by omega), Option.bind_some]
    dsimp only
    rw [H (k + 3) (by omega), Option.bind_some, if_neg c2, if_pos rfl, T (k + 3) (by omega), Option.bind_some, I (k + 3) (by omega), Option.bind_some]
    dsimp only
    rw [E (k + 3) (by omega), Option.bind_some, if_pos rfl, laws_FnExactCutMelody.j2, if_neg (by simp), H (k + 2) (by omega), Option.bind_some, if_neg c2, if_pos rfl]


end Go.Proofs.Ytbhmalpncnkmaaa.Pure
