/- The law FnExactMovePhrase over lists alone. No condition. -/
import Derived.Test.YtnnblnbepnfbhaaM2x0
import Derived.Test.YtnnblnbepnfbhaaM2x3
import Derived.Test.YtnnblnbepnfbhaaM2x6
import Derived.Test.YtnnblnbepnfbhaaM2x14
import Derived.Test.YtnnblnbepnfbhaaM2x15
import Derived.Test.YtnnblnbepnfbhaaM2x16
import Derived.Test.YtnnblnbepnfbhaaOcc
import Derived.Test.YtnnblnbepnfbhaaPTo
namespace Go.Proofs.Ytnnblnbepnfbhaa.Pure
open Go.RowKit Go.Proofs.Ytnnblnbepnfbhaa.M2 Go.Proofs.YtnnblnbepnfbhaaW.PrintWords Go.Proofs.YtnnblnbepnfbhaaW.PrintLast
theorem specMv (x : List Int) (a : Int) (hx : x.length ≤ 64) (d : Nat) : ∀ (k i : Nat) (acc : List Int), acc.length ≤ i → i + d = x.length → d < k → spec_MovePhrase.l0 k x a acc (i : Int) = if ((x.drop i).map (fun p => wrap64 (p + a))).all (inB · (-12) 23) = true then some (acc ++ (x.drop i).map (fun p => wrap64 (p + a)), 0) else some ([], 2) := by
  induction d with
  | zero =>
    intro k i acc ha hi hk
    obtain ⟨k, rfl⟩ := succ_of hk
    rw [spec_MovePhrase.l0, if_neg (by omega), List.drop_eq_nil_of_le (by omega)]
    simp
  | succ d ih =>
    intro k i acc ha hi hk
    obtain ⟨k, rfl⟩ := succ_of hk
    have hlt : i < x.length := by omega
    rw [spec_MovePhrase.l0, if_pos (by omega), if_pos (by omega), rd_at hlt, spec_l03Pitch.f, specIn, Option.bind_some, Option.bind_some, List.drop_eq_getElem_cons hlt, List.map_cons, List.all_cons]
    cases inB (wrap64 (x[i] + a)) (-12) 23 with
    | false => simp
    | true =>
      rw [if_pos rfl, if_pos (by omega), w64 (n := (i : Int) + 1) (by omega) (by omega), show ((i : Int) + 1) = ((i + 1 : Nat) : Int) by omega, ih k (i + 1) _ (by simp; omega) (by omega) (by omega), Bool.true_and, List.append_assoc]
      rfl
theorem implMv (x : List Int) (a : Int) (hx : x.length ≤ 64) (d : Nat) : ∀ (k i : Nat), i + d = x.length → d < k → impl_MovePhrase.l0 k a ((x.take i).map (fun p => wrap64 (p + a)) ++ x.drop i) (x.length : Int) (i : Int) = (impl_phraseOk.f (x.map (fun p => wrap64 (p + a)))).bind fun t => (if t = true then (some (x.map (fun p => wrap64 (p + a)), 0)) else (some (([] : List Int), 2))) := by
  induction d with
  | zero =>
    intro k i hi hk
    obtain ⟨k, rfl⟩ := succ_of hk
    rw [impl_MovePhrase.l0, if_neg (by omega), List.drop_eq_nil_of_le (by omega), List.take_of_length_le (by omega), List.append_nil]
  | succ d ih =>
    intro k i hi hk
    obtain ⟨k, rfl⟩ := succ_of hk
    have hlt : i < x.length := by omega
    have hm : ((x.take i).map (fun p => wrap64 (p + a))).length = i := by rw [List.length_map, List.length_take]; omega
    have e := List.drop_eq_getElem_cons hlt
    have r : rd ((x.take i).map (fun p => wrap64 (p + a)) ++ x.drop i) (i : Int) = x[i] := by
      simp only [rd, Int.toNat_natCast, List.getD_eq_getElem?_getD]
      rw [List.getElem?_append_right (by omega), hm]
      simp [List.getElem?_eq_getElem hlt]
    have s : ((x.take i).map (fun p => wrap64 (p + a)) ++ x.drop i).set i (wrap64 (x[i] + a)) = (x.take (i + 1)).map (fun p => wrap64 (p + a)) ++ x.drop (i + 1) := by
      rw [List.set_append_right _ _ (by omega), hm, Nat.sub_self, e, List.set_cons_zero, List.take_succ_eq_append_getElem hlt, List.map_append, List.append_assoc]
      rfl
    rw [impl_MovePhrase.l0, if_pos (by omega), if_pos (by omega), if_pos (by rw [List.length_append, hm, List.length_drop]; omega), r, Int.toNat_natCast, s, w64 (n := (i : Int) + 1) (by omega) (by omega), show ((i : Int) + 1) = ((i + 1 : Nat) : Int) by omega]
    exact ih k (i + 1) (by omega) (by omega)
theorem movephrase_both (x : List Int) (hn : x.length ≤ 1048576) (a1 : Int) : ∃ (w : List Int) (c : Int), w.length ≤ 1100000 ∧ ∀ k, 1100000 ≤ k → spec_MovePhrase.f k x a1 = some (w, c) ∧ impl_MovePhrase.f k x a1 = some (w, c) := by
  have iIn : ∀ a lo hi, impl_within.f a lo hi = some (inB a lo hi) := specIn
  cases h : phr x with
  | false =>
    refine ⟨[], 1, by simp, fun k hk => ?_⟩
    rw [spec_MovePhrase.f, impl_MovePhrase.f, specPhr x hn k (by omega), implPhr, h]
    exact ⟨rfl, rfl⟩
  | true =>
    have hl : 2 ≤ x.length ∧ x.length ≤ 8 := by
      have h' := h
      rw [phr, Bool.and_eq_true, decide_eq_true_eq] at h'
      exact h'.2
    cases h2 : inB a1 (-36) 36 with
    | false =>
      refine ⟨[], 2, by simp, fun k hk => ?_⟩
      rw [spec_MovePhrase.f, impl_MovePhrase.f, specPhr x hn k (by omega), implPhr, h, specIn, iIn, h2]
      exact ⟨rfl, rfl⟩
    | true =>
      have hp : phr (x.map (fun p => wrap64 (p + a1))) = (x.map (fun p => wrap64 (p + a1))).all (inB · (-12) 23) := by
        rw [phr, List.length_map, decide_eq_true hl, Bool.and_true]
        rfl
      refine ⟨if (x.map (fun p => wrap64 (p + a1))).all (inB · (-12) 23) = true then x.map (fun p => wrap64 (p + a1)) else [], if (x.map (fun p => wrap64 (p + a1))).all (inB · (-12) 23) = true then 0 else 2, by split <;> simp; omega, fun k hk => ?_⟩
      have a := specMv x a1 (by omega) x.length k 0 [] (by simp) (by omega) (by omega)
      have b := implMv x a1 (by omega) x.length k 0 (by omega) (by omega)
      rw [show ((0 : Nat) : Int) = 0 from rfl] at a b
      simp only [List.take_zero, List.map_nil, List.nil_append, List.drop_zero] at a b
      rw [spec_MovePhrase.f, impl_MovePhrase.f, specPhr x hn k (by omega), implPhr, h, specIn, iIn, h2, slices_Clone_int64_int64.f, if_pos (show x.length < 17592186044416 by omega)]
      simp only [Option.bind_some, if_true]
      rw [a, b, implPhr, hp]
      cases (x.map (fun p => wrap64 (p + a1))).all (inB · (-12) 23) <;> exact ⟨rfl, rfl⟩
theorem FnExactMovePhrase : laws_FnExactMovePhrase.Pure := by
  intro l0 a1 h0 h1
  obtain ⟨k, hk⟩ : ∃ k, 1200000 ≤ k := ⟨_, Nat.le_refl _⟩
  refine ⟨k + 5, ?_⟩
  rw [laws_FnExactMovePhrase.f]
  by_cases c : (l0.length : Int) > 1048576
  · rw [if_pos c]
  · have hn : l0.length ≤ 1048576 := by omega
    obtain ⟨w, cd, hw, hb⟩ := movephrase_both l0 hn a1 
    have S := fun j hj => (hb j hj).1
    have I := fun j hj => (hb j hj).2
    have T := toI l0 hn
    have EN := eqI l0 (by omega)
    have MN := markI l0 (by omega)
    have E := eqI w (by omega)
    have M := markI w (by omega)
    have H := heldI w.length (by omega)
    have c1 : ¬ ((1 + (l0.length : Int)) < 0) := by omega
    have c2 : ¬ ((1 + (w.length : Int)) < 0) := by omega
    rw [if_neg c]
    rw [T (k + 5) (by omega)]
    simp only [Option.bind_some]
    rw [S (k + 5) (by omega), Option.bind_some, I (k + 5) (by omega), Option.bind_some]
    dsimp only
    rw [E (k + 5) (by omega), Option.bind_some, if_pos rfl, laws_FnExactMovePhrase.j0, if_neg (by simp), T (k + 4) (by omega), Option.bind_some, EN (k + 4) (by omega), Option.bind_some, if_pos rfl, MN (k + 4) (by omega), Option.bind_some]
    dsimp only
    rw [if_neg c1, E (k + 4) (by omega), Option.bind_some, if_pos rfl, laws_FnExactMovePhrase.j1, if_neg (by simp), M (k + 3) (by omega), Option.bind_some]
    dsimp only
    rw [H (k + 3) (by omega), Option.bind_some, if_neg c2, if_pos rfl, T (k + 3) (by omega), Option.bind_some, I (k + 3) (by omega), Option.bind_some]
    dsimp only
    rw [E (k + 3) (by omega), Option.bind_some, if_pos rfl, laws_FnExactMovePhrase.j2, if_neg (by simp), H (k + 2) (by omega), Option.bind_some, if_neg c2, if_pos rfl]


end Go.Proofs.Ytnnblnbepnfbhaa.Pure
