/- What functions of the given program compute, as plain Lean functions, and that the code comes to just that; by a program of this session over the kit's print. No condition. -/
import Derived.Test.YtijbhcalknfijaaM2x0
namespace Go.Proofs.Ytijbhcalknfijaa.M2
open Go.RowKit Go.Proofs.YtijbhcalknfijaaW.PrintWords Go.Proofs.YtijbhcalknfijaaW.PrintLast Go.Proofs.YtijbhcalknfijaaW.PrintMore
attribute [local go_sem] max2_int min2_int max_two min_two max_three min_three max_four min_four   -- for this text's walks alone
set_option linter.unusedVariables false
set_option linter.unusedSimpArgs false

/-! ### spec_l07Step: function 79 -/
def spec_l07Step.l0 : Nat → Int → Int → Int → Int → Int → List Int → List (S67) → Option (Int)
 | 0, _, _, _, _, _, _, _ => none
 | k + 1, x1, x2, x7, x1000, x1001, x1002, x1003 => if x7 < (x1003.length : Int) then (if 0 ≤ x7 then (if ((rd_T67 x1003 x7).f0) = x1 then (if ((rd_T67 x1003 x7).f1) = x2 then (some ((rd_T67 x1003 x7).f2)) else (spec_l07Step.l0 k x1 x2 (wrap64 (x7 + 1)) x1000 x1001 x1002 x1003)) else (spec_l07Step.l0 k x1 x2 (wrap64 (x7 + 1)) x1000 x1001 x1002 x1003)) else (none)) else (some (-1))
def spec_l07Step.f (k : Nat) (a0_0 : Int) (a0_1 : Int) (l0_2 : List Int) (l0_3 : List (S67)) (a1 : Int) (a2 : Int) : Option (Int) := spec_l07Step.l0 k a1 a2 0 a0_0 a0_1 l0_2 l0_3
theorem spec_l07Step.mono_l : ∀ k, (∀ y0 y1 y2 y3 y4 y5 y6, LeO (spec_l07Step.l0 k y0 y1 y2 y3 y4 y5 y6) (spec_l07Step.l0 (k + 1) y0 y1 y2 y3 y4 y5 y6))
 | 0 => fun _ _ _ _ _ _ _ r h => by simp [spec_l07Step.l0] at h
 | k + 1 => by
  have ih0 := spec_l07Step.mono_l k
  ·intro y0 y1 y2 y3 y4 y5 y6
   unfold spec_l07Step.l0
   repeat' first
   | (with_reducible exact ih0 _ _ _ _ _ _ _)
   | (with_reducible exact LeO.refl _)
   | (with_reducible exact LeO.none _)
   | (with_reducible refine LeO.ite ?_ ?_)
   | (with_reducible refine LeO.bind ?_ (fun _ => ?_))
   | exact ih0 _ _ _ _ _ _ _
   | exact LeO.none _
   | refine LeO.ite ?_ ?_
   | refine LeO.bind ?_ (fun _ => ?_)
theorem spec_l07Step.mono : ∀ a0 a1 a2 a3 a4 a5 k, LeO (spec_l07Step.f k a0 a1 a2 a3 a4 a5) (spec_l07Step.f (k + 1) a0 a1 a2 a3 a4 a5) := by
 intro a0 a1 a2 a3 a4 a5 k
 have ih0 := spec_l07Step.mono_l k
 unfold spec_l07Step.f
 repeat' first
   | (with_reducible exact ih0 _ _ _ _ _ _ _)
   | (with_reducible exact LeO.refl _)
   | (with_reducible exact LeO.none _)
   | (with_reducible refine LeO.ite ?_ ?_)
   | (with_reducible refine LeO.bind ?_ (fun _ => ?_))
   | exact ih0 _ _ _ _ _ _ _
   | exact LeO.none _
   | refine LeO.ite ?_ ?_
   | refine LeO.bind ?_ (fun _ => ?_)
set_option maxHeartbeats 8000000 in
set_option maxRecDepth 100000 in
theorem spec_l07Step.calls (k : Nat) (adp0 : Addr) (a0_0 : Int) (a0_1 : Int) (l0_2 : List Int) (l0_3 : List (S67)) (a1 : Int) (a2 : Int) (r : Int) (w : World) (hp0 : Kd.C k30 w (some adp0) 1 [(⟨a0_0, a0_1, l0_2, l0_3⟩ : S30)]) (h : spec_l07Step.f k a0_0 a0_1 l0_2 l0_3 a1 a2 = some r) :
  Calls Try.prog 79 #[.pointer (some adp0), .int .i64 a1, .int .i64 a2] w fun e w' => e = .returned (.int .i64 r) ∧ Drawn0 w w' := by
 have HRp0 := Aside0.mk hp0
 clear hp0
 have H : (spec_l07Step.l0 k a1 a2 0 a0_0 a0_1 l0_2 l0_3) = some r := h
 clear h
 have H' := Aside0.mk H
 clear H
 go_enter Try.func79, Try.ntmps79
 go_wp2
 go_loopg [7] k (fun kq v7 w' => ∃ (x7_1 : Int), v7 = .int .i64 x7_1 ∧ Aside0 (spec_l07Step.l0 kq a1 a2 x7_1 a0_0 a0_1 l0_2 l0_3 = some r) ∧ Aside0 (kq ≤ k) ∧ Drawn0 w w')
 case atStart => exact ⟨(0), (by first | rfl | (simp; done) | (simp [*]; done)), H', ⟨Nat.le_refl _⟩, by repeat (first | exact Drawn0.refl _ | apply Drawn0.step)⟩
 case round =>
  clear H'
  try clear p2
  obtain ⟨x7_1, rfl, HA, HK1, ⟨m1, rfl⟩⟩ := hrel
  cases gk with
  | zero => exact absurd HA.out (by simp [spec_l07Step.l0])
  | succ k1 =>
   have H := HA.out
   clear HA
   simp only [spec_l07Step.l0] at H
   by_cases c4 : x7_1 < (l0_3.length : Int)
   ·rw [if_pos c4] at H
    have c4b0 : decide (x7_1 < (l0_3.length : Int)) = true := decide_eq_true c4
    clear c4
    by_cases c5 : 0 ≤ x7_1
    ·rw [if_pos c5] at H
     have c5b0 : decide (0 ≤ x7_1) = true := decide_eq_true c5
     clear c5
     by_cases c6 : ((rd_T67 l0_3 x7_1).f0) = a1
     ·rw [if_pos c6] at H
      have c6b0 : (((rd_T67 l0_3 x7_1).f0) == a1) = true := beq_iff_eq.mpr c6
      have c6b1 : (((rd_T67 l0_3 x7_1).f0) != a1) = false := bne_eq_false_iff_eq.mpr c6
      clear c6
      by_cases c7 : ((rd_T67 l0_3 x7_1).f1) = a2
      ·rw [if_pos c7] at H
       have c7b0 : (((rd_T67 l0_3 x7_1).f1) == a2) = true := beq_iff_eq.mpr c7
       have c7b1 : (((rd_T67 l0_3 x7_1).f1) != a2) = false := bne_eq_false_iff_eq.mpr c7
       clear c7
       obtain rfl := Option.some.inj H
       have p276 : 0 ≤ (0 : Int) := (by omega)
       have q276 : 0 < ([(⟨a0_0, a0_1, l0_2, l0_3⟩ : S30)].length : Int) := (by simp)
       obtain ⟨ad276, A276_2, c276_2, A276_3, c276_3, e276, hx276_0, hx276_1, hx276_2, hx276_3, hl276_2, hi276_2, hl276_3, hi276_3⟩ := at_T30 HRp0.out 0 p276 q276
       replace hx276_0 : _ = (some (.int .i64 a0_0) : Option Value) := hx276_0
       replace hx276_1 : _ = (some (.int .i64 a0_1) : Option Value) := hx276_1
       replace hx276_2 : _ = (some (.slice A276_2 l0_2.length c276_2) : Option Value) := hx276_2
       replace hi276_2 : Kd.C (Kd.int .i64) _ _ l0_2.length l0_2 := hi276_2
       replace hl276_2 : l0_2.length ≤ _ := hl276_2
       replace hx276_3 : _ = (some (.slice A276_3 l0_3.length c276_3) : Option Value) := hx276_3
       replace hi276_3 : Kd.C k67 _ _ l0_3.length l0_3 := hi276_3
       replace hl276_3 : l0_3.length ≤ _ := hl276_3
       obtain rfl : adp0 = ad276 := (by injection e276)
       have qi276 : (0 < [(⟨a0_0, a0_1, l0_2, l0_3⟩ : S30)].length) = True := eq_true (by simp)
       (try rw [show ((0 : Int)).toNat = 0 from rfl] at hx276_0)
       (try rw [show 0 * 4 = 0 from rfl] at hx276_0)
       (try rw [Addr.add_zero'] at hx276_0)
       (try rw [show ((0 : Int)).toNat = 0 from rfl] at hx276_1)
       (try rw [show 0 * 4 = 0 from rfl] at hx276_1)
       (try rw [Addr.add_zero'] at hx276_1)
       (try rw [show ((0 : Int)).toNat = 0 from rfl] at hx276_2)
       (try rw [show 0 * 4 = 0 from rfl] at hx276_2)
       (try rw [Addr.add_zero'] at hx276_2)
       (try rw [show ((0 : Int)).toNat = 0 from rfl] at hx276_3)
       (try rw [show 0 * 4 = 0 from rfl] at hx276_3)
       (try rw [Addr.add_zero'] at hx276_3)
       have HR276_2 := Aside0.mk hi276_2
       have HC276_2 := Aside0.mk hl276_2
       clear hi276_2 hl276_2
       have HR276_3 := Aside0.mk hi276_3
       have HC276_3 := Aside0.mk hl276_3
       clear hi276_3 hl276_3
       replace p276 := eq_true p276
       replace q276 := eq_true q276
       have p277 : 0 ≤ (x7_1 : Int) := of_decide_eq_true (by first | (with_reducible assumption) | assumption)
       have q277 : x7_1 < (l0_3.length : Int) := of_decide_eq_true (by first | (with_reducible assumption) | assumption)
       obtain ⟨ad277, e277, hx277_0, hx277_1, hx277_2⟩ := at_T67 HR276_3.out x7_1 p277 q277
       cases e277
       replace p277 := eq_true p277
       replace q277 := eq_true q277
       have p278 : 0 ≤ (x7_1 : Int) := of_decide_eq_true (by first | (with_reducible assumption) | assumption)
       have q278 : x7_1 < (l0_3.length : Int) := of_decide_eq_true (by first | (with_reducible assumption) | assumption)
       obtain ⟨ad278, e278, hx278_0, hx278_1, hx278_2⟩ := at_T67 HR276_3.out x7_1 p278 q278
       obtain rfl : ad277 = ad278 := (by injection e278)
       replace p278 := eq_true p278
       replace q278 := eq_true q278
       have p279 : 0 ≤ (x7_1 : Int) := of_decide_eq_true (by first | (with_reducible assumption) | assumption)
       have q279 : x7_1 < (l0_3.length : Int) := of_decide_eq_true (by first | (with_reducible assumption) | assumption)
       obtain ⟨ad279, e279, hx279_0, hx279_1, hx279_2⟩ := at_T67 HR276_3.out x7_1 p279 q279
       obtain rfl : ad277 = ad279 := (by injection e279)
       replace p279 := eq_true p279
       replace q279 := eq_true q279
       go_wp2
       go_ret
       exact ⟨by first | rfl | (simp; done) | (simp [*]; done), by repeat (first | exact Drawn0.refl _ | apply Drawn0.step)⟩
      ·rw [if_neg c7] at H
       have c7b0 : (((rd_T67 l0_3 x7_1).f1) == a2) = false := beq_eq_false_iff_ne.mpr c7
       have c7b1 : (((rd_T67 l0_3 x7_1).f1) != a2) = true := bne_iff_ne.mpr c7
       have H' := Aside0.mk H
       clear H
       have p276 : 0 ≤ (0 : Int) := (by omega)
       have q276 : 0 < ([(⟨a0_0, a0_1, l0_2, l0_3⟩ : S30)].length : Int) := (by simp)
       obtain ⟨ad276, A276_2, c276_2, A276_3, c276_3, e276, hx276_0, hx276_1, hx276_2, hx276_3, hl276_2, hi276_2, hl276_3, hi276_3⟩ := at_T30 HRp0.out 0 p276 q276
       replace hx276_0 : _ = (some (.int .i64 a0_0) : Option Value) := hx276_0
       replace hx276_1 : _ = (some (.int .i64 a0_1) : Option Value) := hx276_1
       replace hx276_2 : _ = (some (.slice A276_2 l0_2.length c276_2) : Option Value) := hx276_2
       replace hi276_2 : Kd.C (Kd.int .i64) _ _ l0_2.length l0_2 := hi276_2
       replace hl276_2 : l0_2.length ≤ _ := hl276_2
       replace hx276_3 : _ = (some (.slice A276_3 l0_3.length c276_3) : Option Value) := hx276_3
       replace hi276_3 : Kd.C k67 _ _ l0_3.length l0_3 := hi276_3
       replace hl276_3 : l0_3.length ≤ _ := hl276_3
       obtain rfl : adp0 = ad276 := (by injection e276)
       have qi276 : (0 < [(⟨a0_0, a0_1, l0_2, l0_3⟩ : S30)].length) = True := eq_true (by simp)
       (try rw [show ((0 : Int)).toNat = 0 from rfl] at hx276_0)
       (try rw [show 0 * 4 = 0 from rfl] at hx276_0)
       (try rw [Addr.add_zero'] at hx276_0)
       (try rw [show ((0 : Int)).toNat = 0 from rfl] at hx276_1)
       (try rw [show 0 * 4 = 0 from rfl] at hx276_1)
       (try rw [Addr.add_zero'] at hx276_1)
       (try rw [show ((0 : Int)).toNat = 0 from rfl] at hx276_2)
       (try rw [show 0 * 4 = 0 from rfl] at hx276_2)
       (try rw [Addr.add_zero'] at hx276_2)
       (try rw [show ((0 : Int)).toNat = 0 from rfl] at hx276_3)
       (try rw [show 0 * 4 = 0 from rfl] at hx276_3)
       (try rw [Addr.add_zero'] at hx276_3)
       have HR276_2 := Aside0.mk hi276_2
       have HC276_2 := Aside0.mk hl276_2
       clear hi276_2 hl276_2
       have HR276_3 := Aside0.mk hi276_3
       have HC276_3 := Aside0.mk hl276_3
       clear hi276_3 hl276_3
       replace p276 := eq_true p276
       replace q276 := eq_true q276
       have p277 : 0 ≤ (x7_1 : Int) := of_decide_eq_true (by first | (with_reducible assumption) | assumption)
       have q277 : x7_1 < (l0_3.length : Int) := of_decide_eq_true (by first | (with_reducible assumption) | assumption)
       obtain ⟨ad277, e277, hx277_0, hx277_1, hx277_2⟩ := at_T67 HR276_3.out x7_1 p277 q277
       cases e277
       replace p277 := eq_true p277
       replace q277 := eq_true q277
       have p278 : 0 ≤ (x7_1 : Int) := of_decide_eq_true (by first | (with_reducible assumption) | assumption)
       have q278 : x7_1 < (l0_3.length : Int) := of_decide_eq_true (by first | (with_reducible assumption) | assumption)
       obtain ⟨ad278, e278, hx278_0, hx278_1, hx278_2⟩ := at_T67 HR276_3.out x7_1 p278 q278
       obtain rfl : ad277 = ad278 := (by injection e278)
       replace p278 := eq_true p278
       replace q278 := eq_true q278
       go_wp2
       go_roundg k1
       case measure => have := HK1.out; omega
       case rel => exact ⟨(wrap64 (x7_1 + 1)), (by first | rfl | (simp; done) | (simp [*]; done)), H', ⟨by have := HK1.out; omega⟩, by repeat (first | exact Drawn0.refl _ | apply Drawn0.step)⟩
     ·rw [if_neg c6] at H
      have c6b0 : (((rd_T67 l0_3 x7_1).f0) == a1) = false := beq_eq_false_iff_ne.mpr c6
      have c6b1 : (((rd_T67 l0_3 x7_1).f0) != a1) = true := bne_iff_ne.mpr c6
      have H' := Aside0.mk H
      clear H
      have p276 : 0 ≤ (0 : Int) := (by omega)
      have q276 : 0 < ([(⟨a0_0, a0_1, l0_2, l0_3⟩ : S30)].length : Int) := (by simp)
      obtain ⟨ad276, A276_2, c276_2, A276_3, c276_3, e276, hx276_0, hx276_1, hx276_2, hx276_3, hl276_2, hi276_2, hl276_3, hi276_3⟩ := at_T30 HRp0.out 0 p276 q276
      replace hx276_0 : _ = (some (.int .i64 a0_0) : Option Value) := hx276_0
      replace hx276_1 : _ = (some (.int .i64 a0_1) : Option Value) := hx276_1
      replace hx276_2 : _ = (some (.slice A276_2 l0_2.length c276_2) : Option Value) := hx276_2
      replace hi276_2 : Kd.C (Kd.int .i64) _ _ l0_2.length l0_2 := hi276_2
      replace hl276_2 : l0_2.length ≤ _ := hl276_2
      replace hx276_3 : _ = (some (.slice A276_3 l0_3.length c276_3) : Option Value) := hx276_3
      replace hi276_3 : Kd.C k67 _ _ l0_3.length l0_3 := hi276_3
      replace hl276_3 : l0_3.length ≤ _ := hl276_3
      obtain rfl : adp0 = ad276 := (by injection e276)
      have qi276 : (0 < [(⟨a0_0, a0_1, l0_2, l0_3⟩ : S30)].length) = True := eq_true (by simp)
      (try rw [show ((0 : Int)).toNat = 0 from rfl] at hx276_0)
      (try rw [show 0 * 4 = 0 from rfl] at hx276_0)
      (try rw [Addr.add_zero'] at hx276_0)
      (try rw [show ((0 : Int)).toNat = 0 from rfl] at hx276_1)
      (try rw [show 0 * 4 = 0 from rfl] at hx276_1)
      (try rw [Addr.add_zero'] at hx276_1)
      (try rw [show ((0 : Int)).toNat = 0 from rfl] at hx276_2)
      (try rw [show 0 * 4 = 0 from rfl] at hx276_2)
      (try rw [Addr.add_zero'] at hx276_2)
      (try rw [show ((0 : Int)).toNat = 0 from rfl] at hx276_3)
      (try rw [show 0 * 4 = 0 from rfl] at hx276_3)
      (try rw [Addr.add_zero'] at hx276_3)
      have HR276_2 := Aside0.mk hi276_2
      have HC276_2 := Aside0.mk hl276_2
      clear hi276_2 hl276_2
      have HR276_3 := Aside0.mk hi276_3
      have HC276_3 := Aside0.mk hl276_3
      clear hi276_3 hl276_3
      replace p276 := eq_true p276
      replace q276 := eq_true q276
      have p277 : 0 ≤ (x7_1 : Int) := of_decide_eq_true (by first | (with_reducible assumption) | assumption)
      have q277 : x7_1 < (l0_3.length : Int) := of_decide_eq_true (by first | (with_reducible assumption) | assumption)
      obtain ⟨ad277, e277, hx277_0, hx277_1, hx277_2⟩ := at_T67 HR276_3.out x7_1 p277 q277
      cases e277
      replace p277 := eq_true p277
      replace q277 := eq_true q277
      go_wp2
      go_roundg k1
      case measure => have := HK1.out; omega
      case rel => exact ⟨(wrap64 (x7_1 + 1)), (by first | rfl | (simp; done) | (simp [*]; done)), H', ⟨by have := HK1.out; omega⟩, by repeat (first | exact Drawn0.refl _ | apply Drawn0.step)⟩
    ·rw [if_neg c5] at H
     exact absurd H (by simp)
   ·rw [if_neg c4] at H
    have c4b0 : decide (x7_1 < (l0_3.length : Int)) = false := decide_eq_false c4
    clear c4
    obtain rfl := Option.some.inj H
    have p276 : 0 ≤ (0 : Int) := (by omega)
    have q276 : 0 < ([(⟨a0_0, a0_1, l0_2, l0_3⟩ : S30)].length : Int) := (by simp)
    obtain ⟨ad276, A276_2, c276_2, A276_3, c276_3, e276, hx276_0, hx276_1, hx276_2, hx276_3, hl276_2, hi276_2, hl276_3, hi276_3⟩ := at_T30 HRp0.out 0 p276 q276
    replace hx276_0 : _ = (some (.int .i64 a0_0) : Option Value) := hx276_0
    replace hx276_1 : _ = (some (.int .i64 a0_1) : Option Value) := hx276_1
    replace hx276_2 : _ = (some (.slice A276_2 l0_2.length c276_2) : Option Value) := hx276_2
    replace hi276_2 : Kd.C (Kd.int .i64) _ _ l0_2.length l0_2 := hi276_2
    replace hl276_2 : l0_2.length ≤ _ := hl276_2
    replace hx276_3 : _ = (some (.slice A276_3 l0_3.length c276_3) : Option Value) := hx276_3
    replace hi276_3 : Kd.C k67 _ _ l0_3.length l0_3 := hi276_3
    replace hl276_3 : l0_3.length ≤ _ := hl276_3
    obtain rfl : adp0 = ad276 := (by injection e276)
    have qi276 : (0 < [(⟨a0_0, a0_1, l0_2, l0_3⟩ : S30)].length) = True := eq_true (by simp)
    (try rw [show ((0 : Int)).toNat = 0 from rfl] at hx276_0)
    (try rw [show 0 * 4 = 0 from rfl] at hx276_0)
    (try rw [Addr.add_zero'] at hx276_0)
    (try rw [show ((0 : Int)).toNat = 0 from rfl] at hx276_1)
    (try rw [show 0 * 4 = 0 from rfl] at hx276_1)
    (try rw [Addr.add_zero'] at hx276_1)
    (try rw [show ((0 : Int)).toNat = 0 from rfl] at hx276_2)
    (try rw [show 0 * 4 = 0 from rfl] at hx276_2)
    (try rw [Addr.add_zero'] at hx276_2)
    (try rw [show ((0 : Int)).toNat = 0 from rfl] at hx276_3)
    (try rw [show 0 * 4 = 0 from rfl] at hx276_3)
    (try rw [Addr.add_zero'] at hx276_3)
    have HR276_2 := Aside0.mk hi276_2
    have HC276_2 := Aside0.mk hl276_2
    clear hi276_2 hl276_2
    have HR276_3 := Aside0.mk hi276_3
    have HC276_3 := Aside0.mk hl276_3
    clear hi276_3 hl276_3
    replace p276 := eq_true p276
    replace q276 := eq_true q276
    go_wp2
    go_ret
    exact ⟨by first | rfl | (simp; done) | (simp [*]; done), by repeat (first | exact Drawn0.refl _ | apply Drawn0.step)⟩

end Go.Proofs.Ytijbhcalknfijaa.M2
-- shrunk
-- tight
