/- What functions of the given program compute, as plain Lean functions, and that the code comes to just that; by a program of this session over the kit's print. No condition. -/
import Derived.Test.YtnnblnbepnfbhaaM3x0
namespace Go.Proofs.Ytnnblnbepnfbhaa.M3
open Go.RowKit Go.Proofs.YtnnblnbepnfbhaaW.PrintWords Go.Proofs.YtnnblnbepnfbhaaW.PrintLast Go.Proofs.YtnnblnbepnfbhaaW.PrintMore
attribute [local go_sem] max2_int min2_int max_two min_two max_three min_three max_four min_four   -- for this text's walks alone
set_option linter.unusedVariables false
set_option linter.unusedSimpArgs false

/-! ### spec_l08Fits: function 67 -/
def spec_l08Fits.j0 : Nat → Int → Bool → ByteArray → Int → Int → Int → Int → Int → Option (Bool)
 | 0, _, _, _, _, _, _, _, _ => none
 | k + 1, x7, x22, x1000, x1001, x1002, x1003, x1004, x1005 => if x22 = true then (some false) else (if x1001 < x1002 then (if x7 ≥ x1001 then (some (decide (x7 < x1002))) else (some false)) else (if x7 ≥ x1001 then (some true) else (some (decide (x7 < x1002)))))
def spec_l08Fits.f (k : Nat) (a0_0 : ByteArray) (a0_1 : Int) (a0_2 : Int) (a0_3 : Int) (a0_4 : Int) (a0_5 : Int) (a1 : Int) (a2 : Int) : Option (Bool) := if a0_3 ≥ 0 then (spec_l08Fits.j0 k (Int.tmod a1 1440) (a0_3 != a2) a0_0 a0_1 a0_2 a0_3 a0_4 a0_5) else (spec_l08Fits.j0 k (Int.tmod a1 1440) false a0_0 a0_1 a0_2 a0_3 a0_4 a0_5)
theorem spec_l08Fits.mono_l : ∀ k, (∀ y0 y1 y2 y3 y4 y5 y6 y7, LeO (spec_l08Fits.j0 k y0 y1 y2 y3 y4 y5 y6 y7) (spec_l08Fits.j0 (k + 1) y0 y1 y2 y3 y4 y5 y6 y7))
 | 0 => fun _ _ _ _ _ _ _ _ r h => by simp [spec_l08Fits.j0] at h
 | k + 1 => by
  have ih0 := spec_l08Fits.mono_l k
  ·intro y0 y1 y2 y3 y4 y5 y6 y7
   unfold spec_l08Fits.j0
   repeat' first
   | (with_reducible exact ih0 _ _ _ _ _ _ _ _)
   | (with_reducible exact LeO.refl _)
   | (with_reducible exact LeO.none _)
   | (with_reducible refine LeO.ite ?_ ?_)
   | (with_reducible refine LeO.bind ?_ (fun _ => ?_))
   | exact ih0 _ _ _ _ _ _ _ _
   | exact LeO.none _
   | refine LeO.ite ?_ ?_
   | refine LeO.bind ?_ (fun _ => ?_)
theorem spec_l08Fits.mono : ∀ a0 a1 a2 a3 a4 a5 a6 a7 k, LeO (spec_l08Fits.f k a0 a1 a2 a3 a4 a5 a6 a7) (spec_l08Fits.f (k + 1) a0 a1 a2 a3 a4 a5 a6 a7) := by
 intro a0 a1 a2 a3 a4 a5 a6 a7 k
 have ih0 := spec_l08Fits.mono_l k
 unfold spec_l08Fits.f
 repeat' first
   | (with_reducible exact ih0 _ _ _ _ _ _ _ _)
   | (with_reducible exact LeO.refl _)
   | (with_reducible exact LeO.none _)
   | (with_reducible refine LeO.ite ?_ ?_)
   | (with_reducible refine LeO.bind ?_ (fun _ => ?_))
   | exact ih0 _ _ _ _ _ _ _ _
   | exact LeO.none _
   | refine LeO.ite ?_ ?_
   | refine LeO.bind ?_ (fun _ => ?_)
set_option maxHeartbeats 8000000 in
set_option maxRecDepth 100000 in
theorem spec_l08Fits.calls (k : Nat) (adp0 : Addr) (a0_0 : ByteArray) (a0_1 : Int) (a0_2 : Int) (a0_3 : Int) (a0_4 : Int) (a0_5 : Int) (a1 : Int) (a2 : Int) (r : Bool) (w : World) (hp0 : Kd.C k26 w (some adp0) 1 [(⟨a0_0, a0_1, a0_2, a0_3, a0_4, a0_5⟩ : S26)]) (h : spec_l08Fits.f k a0_0 a0_1 a0_2 a0_3 a0_4 a0_5 a1 a2 = some r) :
  Calls Try.prog 67 #[.pointer (some adp0), .int .i64 a1, .int .i64 a2] w fun e w' => e = .returned (.bool r) ∧ Drawn0 w w' := by
 have HRp0 := Aside0.mk hp0
 clear hp0
 have H : (if a0_3 ≥ 0 then (spec_l08Fits.j0 k (Int.tmod a1 1440) (a0_3 != a2) a0_0 a0_1 a0_2 a0_3 a0_4 a0_5) else (spec_l08Fits.j0 k (Int.tmod a1 1440) false a0_0 a0_1 a0_2 a0_3 a0_4 a0_5)) = some r := h
 clear h
 have HC4 := Aside0.mk H
 clear H
 go_enter Try.func67, Try.ntmps67
 go_upto_region 2 with (fail)
 repeat (go_quiet (fail); go_upto_region 2 with (fail))
 go_cut [22] (fun v22 wc => ∃ (kq : Nat) (x22_3 : Bool), v22 = .bool x22_3 ∧ Aside0 (spec_l08Fits.j0 kq (Int.tmod a1 1440) x22_3 a0_0 a0_1 a0_2 a0_3 a0_4 a0_5 = some r) ∧ Aside0 (kq ≤ k) ∧ Drawn0 w wc)
 case first =>
  have H := HC4.out
  clear HC4
  by_cases c5 : a0_3 ≥ 0
  ·rw [if_pos c5] at H
   have c5b0 : decide (0 ≤ a0_3) = true := decide_eq_true c5
   clear c5
   (first | rw [c5b0] | (simp only [i64_w, i32_w]; rw [c5b0]) | skip)
   have H' := Aside0.mk H
   clear H
   have p206 : 0 ≤ (0 : Int) := (by omega)
   have q206 : 0 < ([(⟨a0_0, a0_1, a0_2, a0_3, a0_4, a0_5⟩ : S26)].length : Int) := (by simp)
   obtain ⟨ad206, e206, hx206_0, hx206_1, hx206_2, hx206_3, hx206_4, hx206_5⟩ := at_T26 HRp0.out 0 p206 q206
   replace hx206_0 : _ = (some (.string a0_0) : Option Value) := hx206_0
   replace hx206_1 : _ = (some (.int .i64 a0_1) : Option Value) := hx206_1
   replace hx206_2 : _ = (some (.int .i64 a0_2) : Option Value) := hx206_2
   replace hx206_3 : _ = (some (.int .i64 a0_3) : Option Value) := hx206_3
   replace hx206_4 : _ = (some (.int .i64 a0_4) : Option Value) := hx206_4
   replace hx206_5 : _ = (some (.int .i64 a0_5) : Option Value) := hx206_5
   obtain rfl : adp0 = ad206 := (by injection e206)
   have qi206 : (0 < [(⟨a0_0, a0_1, a0_2, a0_3, a0_4, a0_5⟩ : S26)].length) = True := eq_true (by simp)
   (try rw [show ((0 : Int)).toNat = 0 from rfl] at hx206_0)
   (try rw [show 0 * 6 = 0 from rfl] at hx206_0)
   (try rw [Addr.add_zero'] at hx206_0)
   (try rw [show ((0 : Int)).toNat = 0 from rfl] at hx206_1)
   (try rw [show 0 * 6 = 0 from rfl] at hx206_1)
   (try rw [Addr.add_zero'] at hx206_1)
   (try rw [show ((0 : Int)).toNat = 0 from rfl] at hx206_2)
   (try rw [show 0 * 6 = 0 from rfl] at hx206_2)
   (try rw [Addr.add_zero'] at hx206_2)
   (try rw [show ((0 : Int)).toNat = 0 from rfl] at hx206_3)
   (try rw [show 0 * 6 = 0 from rfl] at hx206_3)
   (try rw [Addr.add_zero'] at hx206_3)
   (try rw [show ((0 : Int)).toNat = 0 from rfl] at hx206_4)
   (try rw [show 0 * 6 = 0 from rfl] at hx206_4)
   (try rw [Addr.add_zero'] at hx206_4)
   (try rw [show ((0 : Int)).toNat = 0 from rfl] at hx206_5)
   (try rw [show 0 * 6 = 0 from rfl] at hx206_5)
   (try rw [Addr.add_zero'] at hx206_5)
   replace p206 := eq_true p206
   replace q206 := eq_true q206
   go_wp2
   repeat (go_quiet (fail); try go_wp2)
   go_meet
   case rel => exact ⟨_, ((a0_3 != a2)), (by first | rfl | (simp; done) | (simp [*]; done)), H', ⟨by first | omega | exact Nat.le_refl _⟩, by repeat (first | exact Drawn0.refl _ | apply Drawn0.step)⟩
  ·rw [if_neg c5] at H
   have c5b0 : decide (0 ≤ a0_3) = false := decide_eq_false c5
   clear c5
   (first | rw [c5b0] | (simp only [i64_w, i32_w]; rw [c5b0]) | skip)
   have H' := Aside0.mk H
   clear H
   have p206 : 0 ≤ (0 : Int) := (by omega)
   have q206 : 0 < ([(⟨a0_0, a0_1, a0_2, a0_3, a0_4, a0_5⟩ : S26)].length : Int) := (by simp)
   obtain ⟨ad206, e206, hx206_0, hx206_1, hx206_2, hx206_3, hx206_4, hx206_5⟩ := at_T26 HRp0.out 0 p206 q206
   replace hx206_0 : _ = (some (.string a0_0) : Option Value) := hx206_0
   replace hx206_1 : _ = (some (.int .i64 a0_1) : Option Value) := hx206_1
   replace hx206_2 : _ = (some (.int .i64 a0_2) : Option Value) := hx206_2
   replace hx206_3 : _ = (some (.int .i64 a0_3) : Option Value) := hx206_3
   replace hx206_4 : _ = (some (.int .i64 a0_4) : Option Value) := hx206_4
   replace hx206_5 : _ = (some (.int .i64 a0_5) : Option Value) := hx206_5
   obtain rfl : adp0 = ad206 := (by injection e206)
   have qi206 : (0 < [(⟨a0_0, a0_1, a0_2, a0_3, a0_4, a0_5⟩ : S26)].length) = True := eq_true (by simp)
   (try rw [show ((0 : Int)).toNat = 0 from rfl] at hx206_0)
   (try rw [show 0 * 6 = 0 from rfl] at hx206_0)
   (try rw [Addr.add_zero'] at hx206_0)
   (try rw [show ((0 : Int)).toNat = 0 from rfl] at hx206_1)
   (try rw [show 0 * 6 = 0 from rfl] at hx206_1)
   (try rw [Addr.add_zero'] at hx206_1)
   (try rw [show ((0 : Int)).toNat = 0 from rfl] at hx206_2)
   (try rw [show 0 * 6 = 0 from rfl] at hx206_2)
   (try rw [Addr.add_zero'] at hx206_2)
   (try rw [show ((0 : Int)).toNat = 0 from rfl] at hx206_3)
   (try rw [show 0 * 6 = 0 from rfl] at hx206_3)
   (try rw [Addr.add_zero'] at hx206_3)
   (try rw [show ((0 : Int)).toNat = 0 from rfl] at hx206_4)
   (try rw [show 0 * 6 = 0 from rfl] at hx206_4)
   (try rw [Addr.add_zero'] at hx206_4)
   (try rw [show ((0 : Int)).toNat = 0 from rfl] at hx206_5)
   (try rw [show 0 * 6 = 0 from rfl] at hx206_5)
   (try rw [Addr.add_zero'] at hx206_5)
   replace p206 := eq_true p206
   replace q206 := eq_true q206
   go_wp2
   repeat (go_quiet (fail); try go_wp2)
   go_meet
   case rel => exact ⟨_, (false), (by first | rfl | (simp; done) | (simp [*]; done)), H', ⟨by first | omega | exact Nat.le_refl _⟩, by repeat (first | exact Drawn0.refl _ | apply Drawn0.step)⟩
 case rest =>
  clear HC4
  try clear p2
  try clear q2
  try clear hx2
  try clear qi2
  try clear c5
  try clear c5b0
  try clear hx206_0
  try clear hx206_1
  try clear hx206_2
  try clear hx206_3
  try clear hx206_4
  try clear hx206_5
  try clear p206
  try clear q206
  obtain ⟨kq, x22_3, rfl, HA, HJ3, ⟨mc3, rfl⟩⟩ := hcut
  cases kq with
  | zero => exact absurd HA.out (by simp [spec_l08Fits.j0])
  | succ kj3 =>
   have H := HA.out
   clear HA
   simp only [spec_l08Fits.j0] at H
   by_cases c6 : x22_3 = true
   ·subst c6
    have H1 : (some false) = some r := by rw [if_pos rfl] at H; exact H
    clear H
    have H := H1
    clear H1
    obtain rfl := Option.some.inj H
    go_wp2
    repeat (go_quiet (fail); try go_wp2)
    go_ret
    exact ⟨by first | rfl | (simp; done) | (simp [*]; done), by repeat (first | exact Drawn0.refl _ | apply Drawn0.step)⟩
   ·replace c6 := Bool.eq_false_iff.mpr c6
    subst c6
    have H1 : (if a0_1 < a0_2 then (if (Int.tmod a1 1440) ≥ a0_1 then (some (decide ((Int.tmod a1 1440) < a0_2))) else (some false)) else (if (Int.tmod a1 1440) ≥ a0_1 then (some true) else (some (decide ((Int.tmod a1 1440) < a0_2))))) = some r := by rw [if_neg (show ¬ (false = true) by decide)] at H; exact H
    clear H
    have H := H1
    clear H1
    by_cases c7 : a0_1 < a0_2
    ·rw [if_pos c7] at H
     have c7b0 : decide (a0_1 < a0_2) = true := decide_eq_true c7
     clear c7
     by_cases c8 : (Int.tmod a1 1440) ≥ a0_1
     ·rw [if_pos c8] at H
      have c8b0 : decide (a0_1 ≤ (Int.tmod a1 1440)) = true := decide_eq_true c8
      clear c8
      obtain rfl := Option.some.inj H
      have p207 : 0 ≤ (0 : Int) := (by omega)
      have q207 : 0 < ([(⟨a0_0, a0_1, a0_2, a0_3, a0_4, a0_5⟩ : S26)].length : Int) := (by simp)
      obtain ⟨ad207, e207, hx207_0, hx207_1, hx207_2, hx207_3, hx207_4, hx207_5⟩ := at_T26 HRp0.out 0 p207 q207
      replace hx207_0 : _ = (some (.string a0_0) : Option Value) := hx207_0
      replace hx207_1 : _ = (some (.int .i64 a0_1) : Option Value) := hx207_1
      replace hx207_2 : _ = (some (.int .i64 a0_2) : Option Value) := hx207_2
      replace hx207_3 : _ = (some (.int .i64 a0_3) : Option Value) := hx207_3
      replace hx207_4 : _ = (some (.int .i64 a0_4) : Option Value) := hx207_4
      replace hx207_5 : _ = (some (.int .i64 a0_5) : Option Value) := hx207_5
      obtain rfl : adp0 = ad207 := (by injection e207)
      have qi207 : (0 < [(⟨a0_0, a0_1, a0_2, a0_3, a0_4, a0_5⟩ : S26)].length) = True := eq_true (by simp)
      (try rw [show ((0 : Int)).toNat = 0 from rfl] at hx207_0)
      (try rw [show 0 * 6 = 0 from rfl] at hx207_0)
      (try rw [Addr.add_zero'] at hx207_0)
      (try rw [show ((0 : Int)).toNat = 0 from rfl] at hx207_1)
      (try rw [show 0 * 6 = 0 from rfl] at hx207_1)
      (try rw [Addr.add_zero'] at hx207_1)
      (try rw [show ((0 : Int)).toNat = 0 from rfl] at hx207_2)
      (try rw [show 0 * 6 = 0 from rfl] at hx207_2)
      (try rw [Addr.add_zero'] at hx207_2)
      (try rw [show ((0 : Int)).toNat = 0 from rfl] at hx207_3)
      (try rw [show 0 * 6 = 0 from rfl] at hx207_3)
      (try rw [Addr.add_zero'] at hx207_3)
      (try rw [show ((0 : Int)).toNat = 0 from rfl] at hx207_4)
      (try rw [show 0 * 6 = 0 from rfl] at hx207_4)
      (try rw [Addr.add_zero'] at hx207_4)
      (try rw [show ((0 : Int)).toNat = 0 from rfl] at hx207_5)
      (try rw [show 0 * 6 = 0 from rfl] at hx207_5)
      (try rw [Addr.add_zero'] at hx207_5)
      replace p207 := eq_true p207
      replace q207 := eq_true q207
      go_wp2
      repeat (go_quiet (fail); try go_wp2)
      go_ret
      exact ⟨by first | rfl | (simp; done) | (simp [*]; done), by repeat (first | exact Drawn0.refl _ | apply Drawn0.step)⟩
     ·rw [if_neg c8] at H
      have c8b0 : decide (a0_1 ≤ (Int.tmod a1 1440)) = false := decide_eq_false c8
      clear c8
      obtain rfl := Option.some.inj H
      have p207 : 0 ≤ (0 : Int) := (by omega)
      have q207 : 0 < ([(⟨a0_0, a0_1, a0_2, a0_3, a0_4, a0_5⟩ : S26)].length : Int) := (by simp)
      obtain ⟨ad207, e207, hx207_0, hx207_1, hx207_2, hx207_3, hx207_4, hx207_5⟩ := at_T26 HRp0.out 0 p207 q207
      replace hx207_0 : _ = (some (.string a0_0) : Option Value) := hx207_0
      replace hx207_1 : _ = (some (.int .i64 a0_1) : Option Value) := hx207_1
      replace hx207_2 : _ = (some (.int .i64 a0_2) : Option Value) := hx207_2
      replace hx207_3 : _ = (some (.int .i64 a0_3) : Option Value) := hx207_3
      replace hx207_4 : _ = (some (.int .i64 a0_4) : Option Value) := hx207_4
      replace hx207_5 : _ = (some (.int .i64 a0_5) : Option Value) := hx207_5
      obtain rfl : adp0 = ad207 := (by injection e207)
      have qi207 : (0 < [(⟨a0_0, a0_1, a0_2, a0_3, a0_4, a0_5⟩ : S26)].length) = True := eq_true (by simp)
      (try rw [show ((0 : Int)).toNat = 0 from rfl] at hx207_0)
      (try rw [show 0 * 6 = 0 from rfl] at hx207_0)
      (try rw [Addr.add_zero'] at hx207_0)
      (try rw [show ((0 : Int)).toNat = 0 from rfl] at hx207_1)
      (try rw [show 0 * 6 = 0 from rfl] at hx207_1)
      (try rw [Addr.add_zero'] at hx207_1)
      (try rw [show ((0 : Int)).toNat = 0 from rfl] at hx207_2)
      (try rw [show 0 * 6 = 0 from rfl] at hx207_2)
      (try rw [Addr.add_zero'] at hx207_2)
      (try rw [show ((0 : Int)).toNat = 0 from rfl] at hx207_3)
      (try rw [show 0 * 6 = 0 from rfl] at hx207_3)
      (try rw [Addr.add_zero'] at hx207_3)
      (try rw [show ((0 : Int)).toNat = 0 from rfl] at hx207_4)
      (try rw [show 0 * 6 = 0 from rfl] at hx207_4)
      (try rw [Addr.add_zero'] at hx207_4)
      (try rw [show ((0 : Int)).toNat = 0 from rfl] at hx207_5)
      (try rw [show 0 * 6 = 0 from rfl] at hx207_5)
      (try rw [Addr.add_zero'] at hx207_5)
      replace p207 := eq_true p207
      replace q207 := eq_true q207
      go_wp2
      repeat (go_quiet (fail); try go_wp2)
      go_ret
      exact ⟨by first | rfl | (simp; done) | (simp [*]; done), by repeat (first | exact Drawn0.refl _ | apply Drawn0.step)⟩
    ·rw [if_neg c7] at H
     have c7b0 : decide (a0_1 < a0_2) = false := decide_eq_false c7
     clear c7
     by_cases c9 : (Int.tmod a1 1440) ≥ a0_1
     ·rw [if_pos c9] at H
      have c9b0 : decide (a0_1 ≤ (Int.tmod a1 1440)) = true := decide_eq_true c9
      clear c9
      obtain rfl := Option.some.inj H
      have p207 : 0 ≤ (0 : Int) := (by omega)
      have q207 : 0 < ([(⟨a0_0, a0_1, a0_2, a0_3, a0_4, a0_5⟩ : S26)].length : Int) := (by simp)
      obtain ⟨ad207, e207, hx207_0, hx207_1, hx207_2, hx207_3, hx207_4, hx207_5⟩ := at_T26 HRp0.out 0 p207 q207
      replace hx207_0 : _ = (some (.string a0_0) : Option Value) := hx207_0
      replace hx207_1 : _ = (some (.int .i64 a0_1) : Option Value) := hx207_1
      replace hx207_2 : _ = (some (.int .i64 a0_2) : Option Value) := hx207_2
      replace hx207_3 : _ = (some (.int .i64 a0_3) : Option Value) := hx207_3
      replace hx207_4 : _ = (some (.int .i64 a0_4) : Option Value) := hx207_4
      replace hx207_5 : _ = (some (.int .i64 a0_5) : Option Value) := hx207_5
      obtain rfl : adp0 = ad207 := (by injection e207)
      have qi207 : (0 < [(⟨a0_0, a0_1, a0_2, a0_3, a0_4, a0_5⟩ : S26)].length) = True := eq_true (by simp)
      (try rw [show ((0 : Int)).toNat = 0 from rfl] at hx207_0)
      (try rw [show 0 * 6 = 0 from rfl] at hx207_0)
      (try rw [Addr.add_zero'] at hx207_0)
      (try rw [show ((0 : Int)).toNat = 0 from rfl] at hx207_1)
      (try rw [show 0 * 6 = 0 from rfl] at hx207_1)
      (try rw [Addr.add_zero'] at hx207_1)
      (try rw [show ((0 : Int)).toNat = 0 from rfl] at hx207_2)
      (try rw [show 0 * 6 = 0 from rfl] at hx207_2)
      (try rw [Addr.add_zero'] at hx207_2)
      (try rw [show ((0 : Int)).toNat = 0 from rfl] at hx207_3)
      (try rw [show 0 * 6 = 0 from rfl] at hx207_3)
      (try rw [Addr.add_zero'] at hx207_3)
      (try rw [show ((0 : Int)).toNat = 0 from rfl] at hx207_4)
      (try rw [show 0 * 6 = 0 from rfl] at hx207_4)
      (try rw [Addr.add_zero'] at hx207_4)
      (try rw [show ((0 : Int)).toNat = 0 from rfl] at hx207_5)
      (try rw [show 0 * 6 = 0 from rfl] at hx207_5)
      (try rw [Addr.add_zero'] at hx207_5)
      replace p207 := eq_true p207
      replace q207 := eq_true q207
      go_wp2
      repeat (go_quiet (fail); try go_wp2)
      go_ret
      exact ⟨by first | rfl | (simp; done) | (simp [*]; done), by repeat (first | exact Drawn0.refl _ | apply Drawn0.step)⟩
     ·rw [if_neg c9] at H
      have c9b0 : decide (a0_1 ≤ (Int.tmod a1 1440)) = false := decide_eq_false c9
      clear c9
      obtain rfl := Option.some.inj H
      have p207 : 0 ≤ (0 : Int) := (by omega)
      have q207 : 0 < ([(⟨a0_0, a0_1, a0_2, a0_3, a0_4, a0_5⟩ : S26)].length : Int) := (by simp)
      obtain ⟨ad207, e207, hx207_0, hx207_1, hx207_2, hx207_3, hx207_4, hx207_5⟩ := at_T26 HRp0.out 0 p207 q207
      replace hx207_0 : _ = (some (.string a0_0) : Option Value) := hx207_0
      replace hx207_1 : _ = (some (.int .i64 a0_1) : Option Value) := hx207_1
      replace hx207_2 : _ = (some (.int .i64 a0_2) : Option Value) := hx207_2
      replace hx207_3 : _ = (some (.int .i64 a0_3) : Option Value) := hx207_3
      replace hx207_4 : _ = (some (.int .i64 a0_4) : Option Value) := hx207_4
      replace hx207_5 : _ = (some (.int .i64 a0_5) : Option Value) := hx207_5
      obtain rfl : adp0 = ad207 := (by injection e207)
      have qi207 : (0 < [(⟨a0_0, a0_1, a0_2, a0_3, a0_4, a0_5⟩ : S26)].length) = True := eq_true (by simp)
      (try rw [show ((0 : Int)).toNat = 0 from rfl] at hx207_0)
      (try rw [show 0 * 6 = 0 from rfl] at hx207_0)
      (try rw [Addr.add_zero'] at hx207_0)
      (try rw [show ((0 : Int)).toNat = 0 from rfl] at hx207_1)
      (try rw [show 0 * 6 = 0 from rfl] at hx207_1)
      (try rw [Addr.add_zero'] at hx207_1)
      (try rw [show ((0 : Int)).toNat = 0 from rfl] at hx207_2)
      (try rw [show 0 * 6 = 0 from rfl] at hx207_2)
      (try rw [Addr.add_zero'] at hx207_2)
      (try rw [show ((0 : Int)).toNat = 0 from rfl] at hx207_3)
      (try rw [show 0 * 6 = 0 from rfl] at hx207_3)
      (try rw [Addr.add_zero'] at hx207_3)
      (try rw [show ((0 : Int)).toNat = 0 from rfl] at hx207_4)
      (try rw [show 0 * 6 = 0 from rfl] at hx207_4)
      (try rw [Addr.add_zero'] at hx207_4)
      (try rw [show ((0 : Int)).toNat = 0 from rfl] at hx207_5)
      (try rw [show 0 * 6 = 0 from rfl] at hx207_5)
      (try rw [Addr.add_zero'] at hx207_5)
      replace p207 := eq_true p207
      replace q207 := eq_true q207
      go_wp2
      repeat (go_quiet (fail); try go_wp2)
      go_ret
      exact ⟨by first | rfl | (simp; done) | (simp [*]; done), by repeat (first | exact Drawn0.refl _ | apply Drawn0.step)⟩

end Go.Proofs.Ytnnblnbepnfbhaa.M3
-- shrunk
