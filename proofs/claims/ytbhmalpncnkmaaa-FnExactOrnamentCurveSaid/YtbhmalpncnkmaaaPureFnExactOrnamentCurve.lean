/- The law FnExactOrnamentCurve over lists alone. No condition. -/
import Derived.Test.YtbhmalpncnkmaaaMx0
import Derived.Test.YtbhmalpncnkmaaaMx2
import Derived.Test.YtbhmalpncnkmaaaMx3
import Derived.Test.YtbhmalpncnkmaaaMx38
import Derived.Test.YtbhmalpncnkmaaaMx39
import Derived.Test.YtbhmalpncnkmaaaMx40
import Derived.Test.YtbhmalpncnkmaaaMx41
import Derived.Test.YtbhmalpncnkmaaaMx42
import Derived.Test.YtbhmalpncnkmaaaMx43
import Derived.Test.YtbhmalpncnkmaaaMel
import Derived.Test.YtbhmalpncnkmaaaDiv
namespace Go.Proofs.Ytbhmalpncnkmaaa.Pure
open Go.RowKit Go.Proofs.Ytbhmalpncnkmaaa.M Go.Proofs.YtbhmalpncnkmaaaW.PrintWords Go.Proofs.YtbhmalpncnkmaaaW.PrintLast
def ornAt (kd dp tm n u : Int) : Int :=
  if kd = 1 then dv (dp * (n - u)) (n + 1) else if kd = 2 then (if Int.tmod (Int.tdiv (u * 2 * tm) n) 2 = 1 then dp else 0)
  else if kd = 3 then (if u < tm then dp else 0) else dv (dp * mn u (n - 1 - u)) n
theorem mul_bd {a b A B : Int} (ha : -A ≤ a ∧ a ≤ A) (hb : 0 ≤ b ∧ b ≤ B) (hA : 0 ≤ A) : -(A * B) ≤ a * b ∧ a * b ≤ A * B := by
  have e1 : a * b ≤ A * b := Int.mul_le_mul_of_nonneg_right ha.2 hb.1
  have e2 : -A * b ≤ a * b := Int.mul_le_mul_of_nonneg_right ha.1 hb.1
  have e3 : A * b ≤ A * B := Int.mul_le_mul_of_nonneg_left hb.2 hA
  rw [Int.neg_mul] at e2
  omega
theorem specMin' (a b : Int) : spec_l00Min.f a b = some (mn a b) := by
  unfold spec_l00Min.f mn
  split <;> split <;> first | rfl | (congr 1; omega)
theorem specAt (kd dp tm n u : Int) (hk : 1 ≤ kd ∧ kd ≤ 4) (hd : -1200 ≤ dp ∧ dp ≤ 1200) (ht : 1 ≤ tm ∧ tm ≤ 16) (hn : 1 ≤ n ∧ n ≤ 64) (hu : 0 ≤ u ∧ u < n) : spec_l10At.f kd dp tm n u = some (ornAt kd dp tm n u) := by
  unfold spec_l10At.f ornAt
  have m1 := mul_bd (a := dp) (b := n - u) (A := 1200) (B := 64) hd (by omega) (by omega)
  have hm : 0 ≤ mn u (n - 1 - u) ∧ mn u (n - 1 - u) ≤ 64 := by unfold mn; split <;> omega
  have m2 := mul_bd (a := dp) (b := mn u (n - 1 - u)) (A := 1200) (B := 64) hd hm (by omega)
  have m3 := mul_bd (a := u * 2) (b := tm) (A := 128) (B := 16) (by omega) (by omega) (by omega)
  have m4 : 0 ≤ u * 2 * tm := Int.mul_nonneg (by omega) (by omega)
  by_cases c1 : kd = 1
  · rw [if_pos c1, if_pos c1, w64 (n := n - u) (by omega) (by omega), w64 (n := dp * (n - u)) (by omega) (by omega), w64 (n := n + 1) (by omega) (by omega), specDiv _ _ (by omega) (by omega) (by omega) (by omega)]
    rfl
  · rw [if_neg c1, if_neg c1]
    by_cases c2 : kd = 2
    · have h0 : 0 ≤ u * 2 * tm / n := Int.ediv_nonneg m4 (by omega)
      have h1 : u * 2 * tm / n ≤ u * 2 * tm := Int.ediv_le_self _ m4
      rw [if_pos c2, if_pos c2, if_neg (by omega), w64 (n := u * 2) (by omega) (by omega), w64 (n := u * 2 * tm) (by omega) (by omega), Int.tdiv_eq_ediv_of_nonneg m4, w64 (n := u * 2 * tm / n) (by omega) (by omega)]
      split <;> rfl
    · rw [if_neg c2, if_neg c2]
      by_cases c3 : kd = 3
      · rw [if_pos c3, if_pos c3]
        split <;> rfl
      · rw [if_neg c3, if_neg c3, if_pos (by omega), specMin', Option.bind_some, w64 (n := n - 1) (by omega) (by omega), w64 (n := n - 1 - u) (by omega) (by omega), w64 (n := dp * mn u (n - 1 - u)) (by omega) (by omega), specDiv _ _ (by omega) (by omega) (by omega) (by omega)]
        rfl
theorem orn_l0 (kd dp tm n : Int) (hk : 1 ≤ kd ∧ kd ≤ 4) (hd : -1200 ≤ dp ∧ dp ≤ 1200) (ht : 1 ≤ tm ∧ tm ≤ 16) (hn : 1 ≤ n ∧ n ≤ 64) (d : Nat) : ∀ (i : Nat) (acc : List Int) (x : List Int), (i : Int) + d = n → acc.length = i → (x.length : Int) = n → x = acc ++ List.replicate d 0 → ∃ w : List Int, w.length ≤ 64 ∧ ∀ k, d < k →
    spec_OrnamentCurve.l0 k n acc (i : Int) kd dp tm = some (w, 0) ∧ impl_Ornament_curve.l0 k n x n (i : Int) kd dp tm = some w := by
  induction d with
  | zero =>
    intro i acc x hi hl hx hxa
    refine ⟨acc, by omega, fun k hk' => ?_⟩
    obtain ⟨k, rfl⟩ := succ_of hk'
    rw [spec_OrnamentCurve.l0, impl_Ornament_curve.l0, if_neg (by omega), if_neg (by omega), hxa]
    simp
  | succ d ih =>
    intro i acc x hi hl hx hxa
    have hlt : i < x.length := by omega
    have hset : ∀ v, x.set i v = acc ++ [v] ++ List.replicate d 0 := by
      intro v
      rw [hxa, List.set_append_right _ _ (by omega), hl, Nat.sub_self, List.replicate_succ]
      simp
    have hset0 : x = acc ++ [0] ++ List.replicate d 0 := by
      rw [hxa, List.replicate_succ]
      simp
    obtain ⟨w, hw, hk'⟩ := ih (i + 1) (acc ++ [ornAt kd dp tm n i]) (acc ++ [ornAt kd dp tm n i] ++ List.replicate d 0) (by omega) (by simp; omega) (by simp; omega) rfl
    refine ⟨w, hw, fun k hkk => ?_⟩
    obtain ⟨k, rfl⟩ := succ_of hkk
    obtain ⟨s, m⟩ := hk' k (by omega)
    have m1 := mul_bd (a := dp) (b := n - i) (A := 1200) (B := 64) hd (by omega) (by omega)
    have hm : 0 ≤ mn (i : Int) (n - 1 - i) ∧ mn (i : Int) (n - 1 - i) ≤ 64 := by unfold mn; split <;> omega
    have m2 := mul_bd (a := dp) (b := mn (i : Int) (n - 1 - i)) (A := 1200) (B := 64) hd hm (by omega)
    have m3 := mul_bd (a := (i : Int) * 2) (b := tm) (A := 128) (B := 16) (by omega) (by omega) (by omega)
    have m4 : 0 ≤ (i : Int) * 2 * tm := Int.mul_nonneg (by omega) (by omega)
    constructor
    · rw [spec_OrnamentCurve.l0, if_pos (by omega), specAt _ _ _ _ _ hk hd ht hn (by omega), Option.bind_some, if_pos (by omega), w64 (by omega) (by omega)]
      exact s
    · rw [impl_Ornament_curve.l0, if_pos (by omega)]
      rw [w64 (n := (i : Int) + 1) (by omega) (by omega)]
      simp only [if_pos (show (0 : Int) ≤ (i : Int) by omega), if_pos (show (i : Int) < (x.length : Int) by omega), Int.toNat_natCast, hset]
      unfold ornAt at m
      by_cases c1 : kd = 1
      · rw [if_pos c1] at m
        rw [if_pos c1, w64 (n := n - i) (by omega) (by omega), w64 (n := dp * (n - i)) (by omega) (by omega), w64 (n := n + 1) (by omega) (by omega), implDiv _ _ (by omega) (by omega) (by omega) (by omega), Option.bind_some]
        exact m
      · rw [if_neg c1] at m
        rw [if_neg c1]
        by_cases c2 : kd = 2
        · have h0 : 0 ≤ (i : Int) * 2 * tm / n := Int.ediv_nonneg m4 (by omega)
          have h1 : (i : Int) * 2 * tm / n ≤ (i : Int) * 2 * tm := Int.ediv_le_self _ m4
          rw [if_pos c2] at m
          rw [if_pos c2, if_neg (by omega), w64 (n := (i : Int) * 2) (by omega) (by omega), w64 (n := (i : Int) * 2 * tm) (by omega) (by omega), Int.tdiv_eq_ediv_of_nonneg m4, w64 (n := (i : Int) * 2 * tm / n) (by omega) (by omega), Int.tmod_eq_emod_of_nonneg h0]
          rw [Int.tdiv_eq_ediv_of_nonneg m4, Int.tmod_eq_emod_of_nonneg h0] at m
          have r := Int.emod_two_eq ((i : Int) * 2 * tm / n)
          rcases r with r | r
          · rw [r] at m ⊢
            rw [if_neg (by omega)] at m
            rw [Int.mul_zero, w64 (by omega) (by omega)]
            exact m
          · rw [r] at m ⊢
            rw [if_pos rfl] at m
            rw [Int.mul_one, w64 (by omega) (by omega)]
            exact m
        · rw [if_neg c2] at m
          rw [if_neg c2]
          by_cases c3 : kd = 3
          · rw [if_pos c3] at m
            rw [if_pos c3]
            by_cases c4 : (i : Int) < tm
            · rw [if_pos c4] at m
              rw [if_pos c4]
              exact m
            · rw [if_neg c4] at m
              rw [if_neg c4]
              rw [← hset0] at m
              exact m
          · rw [if_neg c3] at m
            rw [if_neg c3, if_pos (by omega), w64 (n := n - 1) (by omega) (by omega), w64 (n := n - 1 - i) (by omega) (by omega), w64 (n := dp * mn i (n - 1 - i)) (by omega) (by omega), implDiv _ _ (by omega) (by omega) (by omega) (by omega), Option.bind_some]
            exact m
theorem ornamentcurve_both (kd dp tm n : Int) : ∃ (w : List Int) (c : Int), w.length ≤ 1100000 ∧ ∀ k, 1100000 ≤ k → spec_OrnamentCurve.f k kd dp tm n = some (w, c) ∧ impl_OrnamentCurve.f k kd dp tm n = some (w, c) := by
  have so : spec_l10Ok.f kd dp tm = some (inB kd 1 4 && (inB dp (-1200) 1200 && inB tm 1 16)) := by
    simp only [spec_l10Ok.f, specIn, Option.bind_some]
    cases inB kd 1 4 <;> cases inB dp (-1200) 1200 <;> simp
  have io : impl_ValidOrnament.f kd dp tm = some (inB kd 1 4 && (inB dp (-1200) 1200 && inB tm 1 16)) := by
    simp only [impl_ValidOrnament.f, implIn, Option.bind_some]
    cases inB kd 1 4 <;> cases inB dp (-1200) 1200 <;> simp
  cases h : (inB kd 1 4 && (inB dp (-1200) 1200 && inB tm 1 16)) with
  | false =>
    refine ⟨[], 1, by simp, fun k hk => ?_⟩
    rw [spec_OrnamentCurve.f, impl_OrnamentCurve.f, so, io, h]
    exact ⟨rfl, rfl⟩
  | true =>
    simp only [Bool.and_eq_true, inB_true] at h
    cases h3 : inB n 1 64 with
    | false =>
      refine ⟨[], 2, by simp, fun k hk => ?_⟩
      rw [spec_OrnamentCurve.f, impl_OrnamentCurve.f, so, io, specLen, implLen, h3]
      simp only [inB_true.2 h.1, inB_true.2 h.2.1, inB_true.2 h.2.2]
      exact ⟨rfl, rfl⟩
    | true =>
      have b3 := inB_true.1 h3
      obtain ⟨m, rfl⟩ := Int.eq_ofNat_of_zero_le (show 0 ≤ n by omega)
      obtain ⟨w, hw, hk⟩ := orn_l0 kd dp tm m h.1 h.2.1 h.2.2 b3 m 0 [] (List.replicate m 0) (by omega) rfl (by simp) (by simp)
      refine ⟨w, 0, by omega, fun k hk' => ?_⟩
      obtain ⟨s, i⟩ := hk k (by omega)
      rw [spec_OrnamentCurve.f, impl_OrnamentCurve.f, so, io, specLen, implLen, h3]
      simp only [inB_true.2 h.1, inB_true.2 h.2.1, inB_true.2 h.2.2, Bool.and_self, Option.bind_some, if_true, impl_Ornament_curve.f]
      rw [if_pos (by omega), if_pos (by omega), Int.toNat_natCast]
      constructor
      · exact s
      · rw [show impl_Ornament_curve.l0 k (m : Int) (List.replicate m 0) (m : Int) 0 kd dp tm = some w from i]
        rfl
theorem FnExactOrnamentCurve : laws_FnExactOrnamentCurve.Pure := by
  intro a0 a1 a2 a3 h0 h1 h2 h3
  obtain ⟨k, hk⟩ : ∃ k, 1200000 ≤ k := ⟨_, Nat.le_refl _⟩
  refine ⟨k + 5, ?_⟩
  obtain ⟨w, cd, hw, hb⟩ := ornamentcurve_both a0 a1 a2 a3 
  have S := fun j hj => (hb j hj).1
  have I := fun j hj => (hb j hj).2
  have E := eqI w (by omega)
  have M := markI w (by omega)
  have H := heldI w.length (by omega)
  have c2 : ¬ ((1 + (w.length : Int)) < 0) := by omega
  rw [laws_FnExactOrnamentCurve.f]
  simp only [laws_toOrnament.f, Option.bind_some]
  rw [S (k + 5) (by omega), Option.bind_some, I (k + 5) (by omega), Option.bind_some]
  dsimp only
  rw [E (k + 5) (by omega), Option.bind_some, if_pos rfl, laws_FnExactOrnamentCurve.j0, if_neg (by simp), M (k + 4) (by omega), Option.bind_some]
  dsimp only
  rw [H (k + 4) (by omega), Option.bind_some, if_neg c2, if_pos rfl]
  simp only [laws_toOrnament.f, Option.bind_some]
  rw [I (k + 4) (by omega), Option.bind_some]
  dsimp only
  rw [E (k + 4) (by omega), Option.bind_some, if_pos rfl, laws_FnExactOrnamentCurve.j1, if_neg (by simp), H (k + 3) (by omega), Option.bind_some, if_neg c2, if_pos rfl]


end Go.Proofs.Ytbhmalpncnkmaaa.Pure
