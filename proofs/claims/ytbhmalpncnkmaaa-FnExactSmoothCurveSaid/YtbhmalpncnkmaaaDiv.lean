/- The nearest quotient, in the reference and in the program. No condition. -/
import Derived.Test.YtbhmalpncnkmaaaMx0
import Derived.Test.YtbhmalpncnkmaaaMx11
import Derived.Test.YtbhmalpncnkmaaaMx13
import Derived.Test.YtbhmalpncnkmaaaMx14
import Derived.Test.YtbhmalpncnkmaaaMel
namespace Go.Proofs.Ytbhmalpncnkmaaa.Pure
open Go.RowKit Go.Proofs.Ytbhmalpncnkmaaa.M Go.Proofs.YtbhmalpncnkmaaaW.PrintWords Go.Proofs.YtbhmalpncnkmaaaW.PrintLast
theorem div_is {x c k : Int} (hc : 0 < c) (h1 : k * c ≤ x) (h2 : x < (k + 1) * c) : x / c = k :=
  Int.le_antisymm (Int.le_of_lt_add_one (Int.ediv_lt_of_lt_mul hc h2)) (Int.le_ediv_of_mul_le hc h1)
/-- The nearest quotient, halves away from 0. -/
def dv (a b : Int) : Int := if a < 0 then -((2 * (-a) + b) / (2 * b)) else (2 * a + b) / (2 * b)
theorem near_pos (n b : Int) (hb : 0 < b) : (2 * n + b) / (2 * b) = if n % b ≥ b - n % b then n / b + 1 else n / b := by
  have h := Int.mul_ediv_add_emod n b
  have h0 := Int.emod_nonneg n (show b ≠ 0 by omega)
  have h1 := Int.emod_lt_of_pos n hb
  have e1 : (n / b) * (2 * b) = 2 * (b * (n / b)) := by rw [Int.mul_comm b, Int.mul_left_comm, ← Int.mul_assoc]
  split
  · refine div_is (by omega) ?_ ?_
    · rw [Int.add_mul, e1]; omega
    · rw [Int.add_mul, Int.add_mul, e1]; omega
  · refine div_is (by omega) ?_ ?_
    · rw [e1]; omega
    · rw [Int.add_mul, e1]; omega
theorem tdiv_pos {a b : Int} (h : 0 ≤ a) : Int.tdiv a b = a / b := Int.tdiv_eq_ediv_of_nonneg h
theorem specDiv (a b : Int) (ha : -1125899906842624 ≤ a) (ha' : a ≤ 1125899906842624) (hb : 1 ≤ b) (hb' : b ≤ 1125899906842624) : spec_l01Div.f a b = some (dv a b) := by
  rw [spec_l01Div.f, if_neg (by omega)]
  unfold dv
  by_cases h : a < 0
  · rw [if_pos h, if_pos h, w64 (n := 2 * b) (by omega) (by omega), if_neg (by omega), w64 (n := 2 * a) (by omega) (by omega), w64 (n := b - 2 * a) (by omega) (by omega), tdiv_pos (by omega)]
    rw [show b - 2 * a = 2 * (-a) + b by omega]
    have h0 : 0 ≤ (2 * (-a) + b) / (2 * b) := Int.ediv_nonneg (by omega) (by omega)
    have h1 : (2 * (-a) + b) / (2 * b) ≤ 2 * (-a) + b := Int.ediv_le_self _ (by omega)
    rw [w64 (n := (2 * (-a) + b) / (2 * b)) (by omega) (by omega), w64 (by omega) (by omega)]
  · rw [if_neg h, if_neg h, w64 (n := 2 * b) (by omega) (by omega), if_neg (by omega), w64 (n := 2 * a) (by omega) (by omega), w64 (n := 2 * a + b) (by omega) (by omega), tdiv_pos (by omega)]
    have h0 : 0 ≤ (2 * a + b) / (2 * b) := Int.ediv_nonneg (by omega) (by omega)
    have h1 : (2 * a + b) / (2 * b) ≤ 2 * a + b := Int.ediv_le_self _ (by omega)
    rw [w64 (by omega) (by omega)]
theorem absF (a : Int) (ha : -1125899906842624 ≤ a) (ha' : a ≤ 1125899906842624) : impl_abs.f a = some (if a < 0 then -a else a) := by
  rw [impl_abs.f, w64 (by omega) (by omega)]
  congr 1
  unfold mx
  split <;> split <;> omega
theorem implDiv (a b : Int) (ha : -1125899906842624 ≤ a) (ha' : a ≤ 1125899906842624) (hb : 1 ≤ b) (hb' : b ≤ 1125899906842624) : impl_divRound.f a b = some (dv a b) := by
  rw [impl_divRound.f, if_neg (by omega)]
  unfold dv
  by_cases h : a < 0
  · have h0 := Int.emod_nonneg (-a) (show b ≠ 0 by omega)
    have h1 := Int.emod_lt_of_pos (-a) (show 0 < b by omega)
    have hd : 0 ≤ (-a) / b := Int.ediv_nonneg (by omega) (by omega)
    have hd' : (-a) / b ≤ -a := Int.ediv_le_self _ (by omega)
    have e1 : Int.tmod a b = -((-a) % b) := by rw [show a = -(-a) by omega, Int.neg_tmod, Int.tmod_eq_emod_of_nonneg (by omega)]; simp
    have e2 : Int.tdiv a b = -((-a) / b) := by rw [show a = -(-a) by omega, Int.neg_tdiv, tdiv_pos (by omega)]; simp
    rw [e1, absF _ (by omega) (by omega), Option.bind_some, absF b (by omega) (by omega), Option.bind_some, if_neg (show ¬ b < 0 by omega), e2, if_pos h, near_pos _ _ (by omega)]
    have e3 : (if -(-a % b) < 0 then - -(-a % b) else -(-a % b)) = (-a) % b := by split <;> omega
    rw [e3, w64 (n := b - -a % b) (by omega) (by omega), w64 (n := -(-a / b)) (by omega) (by omega)]
    have d1 : decide (a < 0) = true := decide_eq_true h
    have d2 : decide (b < 0) = false := decide_eq_false (by omega)
    rw [d1, d2]
    by_cases c : -a % b ≥ b - -a % b
    · rw [if_pos c, if_pos c, if_neg (by simp), w64 (by omega) (by omega)]
      congr 1
      omega
    · rw [if_neg c, if_neg c]
  · have h0 := Int.emod_nonneg a (show b ≠ 0 by omega)
    have h1 := Int.emod_lt_of_pos a (show 0 < b by omega)
    have hd : 0 ≤ a / b := Int.ediv_nonneg (by omega) (by omega)
    have hd' : a / b ≤ a := Int.ediv_le_self _ (by omega)
    have e1 : Int.tmod a b = a % b := Int.tmod_eq_emod_of_nonneg (by omega)
    rw [e1, absF _ (by omega) (by omega), Option.bind_some, absF b (by omega) (by omega), Option.bind_some, if_neg (show ¬ b < 0 by omega), if_neg (show ¬ a % b < 0 by omega), tdiv_pos (by omega), if_neg h, near_pos _ _ (by omega)]
    rw [w64 (n := b - a % b) (by omega) (by omega), w64 (n := a / b) (by omega) (by omega)]
    have d1 : decide (a < 0) = false := decide_eq_false h
    have d2 : decide (b < 0) = false := decide_eq_false (by omega)
    rw [d1, d2]
    by_cases c : a % b ≥ b - a % b
    · rw [if_pos c, if_pos c, if_pos (by simp), w64 (by omega) (by omega)]
    · rw [if_neg c, if_neg c]

end Go.Proofs.Ytbhmalpncnkmaaa.Pure
