/- The law FnExactRangeOf over lists alone. No condition. -/
import Derived.Test.YtbhmalpncnkmaaaMx0
import Derived.Test.YtbhmalpncnkmaaaMx19
import Derived.Test.YtbhmalpncnkmaaaMx43
import Derived.Test.YtbhmalpncnkmaaaMx44
import Derived.Test.YtbhmalpncnkmaaaMx46
import Derived.Test.YtbhmalpncnkmaaaMx55
import Derived.Test.YtbhmalpncnkmaaaMx56
import Derived.Test.YtbhmalpncnkmaaaMx57
import Derived.Test.YtbhmalpncnkmaaaMx58
import Derived.Test.YtbhmalpncnkmaaaMel
namespace Go.Proofs.Ytbhmalpncnkmaaa.Pure
open Go.RowKit Go.Proofs.Ytbhmalpncnkmaaa.M Go.Proofs.YtbhmalpncnkmaaaW.PrintWords Go.Proofs.YtbhmalpncnkmaaaW.PrintLast
theorem specPitches_l0 (x : List S72) (hn : x.length ≤ 1048576) (d : Nat) : ∀ (k i : Nat) (a : List Int), a.length ≤ i → i + d = x.length → d < k → spec_l09Pitches.l0 k x a (i : Int) = some (a ++ (x.drop i).map (·.f0)) := by
  induction d with
  | zero =>
    intro k i a ha hi hk
    obtain ⟨k, rfl⟩ := succ_of hk
    rw [spec_l09Pitches.l0, if_neg (by omega), List.drop_eq_nil_of_le (by omega)]
    simp
  | succ d ih =>
    intro k i a ha hi hk
    obtain ⟨k, rfl⟩ := succ_of hk
    have hlt : i < x.length := by omega
    rw [spec_l09Pitches.l0, if_pos (by omega), if_pos (by omega), rdN_at hlt, List.drop_eq_getElem_cons hlt, w64 (by omega) (by omega), if_pos (by omega)]
    have := ih k (i + 1) (a ++ [x[i].f0]) (by simp; omega) (by omega) (by omega)
    rw [show ((i : Int) + 1) = ((i + 1 : Nat) : Int) by omega, this, List.map_cons, List.append_assoc]
    rfl
theorem specPitches (x : List S72) (hn : x.length ≤ 1048576) (k : Nat) (hk : 1048577 ≤ k) : spec_l09Pitches.f k x = some (x.map (·.f0)) := by
  rw [spec_l09Pitches.f]
  have := specPitches_l0 x hn x.length k 0 [] (by simp) (by omega) (by omega)
  simpa using this
theorem implPitches_l0 (x : List S72) (hn : x.length ≤ 1048576) (d : Nat) : ∀ (k i : Nat) (a : List Int), a.length ≤ i → i + d = x.length → d < k → impl_pitchesOf.l0 k a x (x.length : Int) (i : Int) = some (a ++ (x.drop i).map (·.f0)) := by
  induction d with
  | zero =>
    intro k i a ha hi hk
    obtain ⟨k, rfl⟩ := succ_of hk
    rw [impl_pitchesOf.l0, if_neg (by omega), List.drop_eq_nil_of_le (by omega)]
    simp
  | succ d ih =>
    intro k i a ha hi hk
    obtain ⟨k, rfl⟩ := succ_of hk
    have hlt : i < x.length := by omega
    rw [impl_pitchesOf.l0, if_pos (by omega), if_pos (by omega), if_pos (by omega), rdN_at hlt, List.drop_eq_getElem_cons hlt, w64 (by omega) (by omega), if_pos (by omega)]
    have := ih k (i + 1) (a ++ [x[i].f0]) (by simp; omega) (by omega) (by omega)
    rw [show ((i : Int) + 1) = ((i + 1 : Nat) : Int) by omega, this, List.map_cons, List.append_assoc]
    rfl
theorem implPitches (x : List S72) (hn : x.length ≤ 1048576) (k : Nat) (hk : 1048577 ≤ k) : impl_pitchesOf.f k x = some (x.map (·.f0)) := by
  rw [impl_pitchesOf.f]
  have := implPitches_l0 x hn x.length k 0 [] (by simp) (by omega) (by omega)
  simpa using this
theorem rgMax (a b : Int) : spec_l00Max.f a b = some (mx a b) := by
  unfold spec_l00Max.f mx
  split <;> split <;> first | rfl | (congr 1; omega)
theorem rgMin (a b : Int) : spec_l00Min.f a b = some (mn a b) := by
  unfold spec_l00Min.f mn
  split <;> split <;> first | rfl | (congr 1; omega)
theorem rg_l0 (x : List S72) (hn : x.length ≤ 1048576) (d : Nat) : ∀ (i : Nat) (a b : Int), i + d = x.length → ∃ u v : Int, ∀ k, d < k → spec_RangeOf.l0 k x a b (i : Int) = some (u, v, 0) ∧ slices_Min_int64_int64.l0 k (x.map (·.f0)) a (i : Int) = some u ∧ slices_Max_int64_int64.l0 k (x.map (·.f0)) b (i : Int) = some v := by
  induction d with
  | zero =>
    intro i a b hi
    refine ⟨a, b, fun k hk => ?_⟩
    obtain ⟨k, rfl⟩ := succ_of hk
    have : (x.map (·.f0)).length = x.length := List.length_map _
    rw [spec_RangeOf.l0, slices_Min_int64_int64.l0, slices_Max_int64_int64.l0, if_neg (by omega), if_neg (by omega), if_neg (by omega)]
    exact ⟨rfl, rfl, rfl⟩
  | succ d ih =>
    intro i a b hi
    have hlt : i < x.length := by omega
    have hl : (x.map (·.f0)).length = x.length := List.length_map _
    obtain ⟨u, v, h⟩ := ih (i + 1) (mn a x[i].f0) (mx b x[i].f0) (by omega)
    refine ⟨u, v, fun k hk => ?_⟩
    obtain ⟨k, rfl⟩ := succ_of hk
    have h := h k (by omega)
    have e : rd (x.map (·.f0)) (i : Int) = x[i].f0 := by rw [rd_at (by omega), List.getElem_map]
    rw [spec_RangeOf.l0, slices_Min_int64_int64.l0, slices_Max_int64_int64.l0, if_pos (by omega), if_pos (by omega), if_pos (by omega), if_pos (by omega), if_pos (by omega), if_pos (by omega), rdN_at hlt, e, rgMin, rgMax, Option.bind_some, Option.bind_some, w64 (by omega) (by omega), show ((i : Int) + 1) = ((i + 1 : Nat) : Int) by omega]
    exact h
theorem rangeof_both (x : List S72) (hn : x.length ≤ 1048576) : ∃ (u v c : Int), ∀ k, 1100000 ≤ k → spec_RangeOf.f k x = some (u, v, c) ∧ impl_RangeOf.f k x = some (u, v, c) := by
  cases h : okN x with
  | false =>
    refine ⟨0, 0, 1, fun k hk => ?_⟩
    rw [spec_RangeOf.f, impl_RangeOf.f, specOk x hn k (by omega), implOk x hn k (by omega), h]
    exact ⟨rfl, rfl⟩
  | true =>
    by_cases h0 : x.length = 0
    · refine ⟨0, 0, 6, fun k hk => ?_⟩
      rw [spec_RangeOf.f, impl_RangeOf.f, specOk x hn k (by omega), implOk x hn k (by omega), h]
      simp only [Option.bind_some, if_true]
      rw [if_pos (by omega), if_pos (by omega)]
      exact ⟨rfl, rfl⟩
    · have hlt : 0 < x.length := by omega
      have hl : (x.map (·.f0)).length = x.length := List.length_map _
      obtain ⟨u, v, hk'⟩ := rg_l0 x hn (x.length - 1) 1 x[0].f0 x[0].f0 (by omega)
      refine ⟨u, v, 0, fun k hk => ?_⟩
      obtain ⟨h1, h2, h3⟩ := hk' k (by omega)
      have e : rd (x.map (·.f0)) 0 = x[0].f0 := by
        have := rd_at (x := x.map (·.f0)) (j := 0) (by omega)
        rw [show ((0 : Nat) : Int) = 0 from rfl] at this
        rw [this, List.getElem_map]
      have e' : rd_T72 x 0 = x[0] := rdN_at (j := 0) hlt
      rw [show ((1 : Nat) : Int) = 1 from rfl] at h1 h2 h3
      rw [spec_RangeOf.f, impl_RangeOf.f, specOk x hn k (by omega), implOk x hn k (by omega), h]
      simp only [Option.bind_some, if_true]
      rw [if_neg (by omega), if_pos (by omega), if_neg (by omega), implPitches x hn k (by omega), Option.bind_some, slices_Min_int64_int64.f, slices_Max_int64_int64.f, if_neg (by omega), if_pos (by omega), if_neg (by omega), if_pos (by omega), e, e', h1, h2, h3]
      exact ⟨rfl, rfl⟩
theorem FnExactRangeOf : laws_FnExactRangeOf.Pure := by
  intro l0  h0 
  obtain ⟨k, hk⟩ : ∃ k, 1200000 ≤ k := ⟨_, Nat.le_refl _⟩
  refine ⟨k + 5, ?_⟩
  rw [laws_FnExactRangeOf.f, szN l0 _ h0.1 (by omega) (by omega), Option.bind_some]
  by_cases c : (1048576 : Int) - l0.length < 0
  · simp [c]
  · have hn : l0.length ≤ 1048576 := by omega
    have hn' : (l0.map cvN).length ≤ 1048576 := by simpa using hn
    obtain ⟨w, w2, cd, hb⟩ := rangeof_both (l0.map cvN) hn'  
    have S := fun j hj => (hb j hj).1
    have I := fun j hj => (hb j hj).2
    have T := toN l0 hn
    have EN := eqN (l0.map cvN) (by omega)
    rw [if_neg c, if_neg c]
    generalize l0.map cvN = m at *
    simp (disch := omega) only [T, S, I, EN, laws_FnExactRangeOf.j0, Option.bind_some, bne_self_eq_false, Bool.false_eq_true, if_false, if_true]


end Go.Proofs.Ytbhmalpncnkmaaa.Pure
