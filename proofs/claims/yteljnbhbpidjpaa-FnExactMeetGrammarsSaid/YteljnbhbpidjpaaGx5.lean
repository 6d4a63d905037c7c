/- What functions of the given program compute, as plain Lean functions, and that the code comes to just that; by a program of this session over the kit's print. No condition. -/
import Derived.Test.YteljnbhbpidjpaaGx0
import Derived.Test.YteljnbhbpidjpaaTight
namespace Go.Proofs.Yteljnbhbpidjpaa.G
open Go.RowKit Go.Proofs.YteljnbhbpidjpaaW.PrintWords Go.Proofs.YteljnbhbpidjpaaW.PrintLast Go.Proofs.YteljnbhbpidjpaaW.PrintMore
attribute [local go_sem] max2_int min2_int max_two min_two max_three min_three max_four min_four   -- for this text's walks alone
set_option linter.unusedVariables false
set_option linter.unusedSimpArgs false

/-! ### spec_l00Has: function 37 -/
def spec_l00Has.l0 : Nat → List Int → Int → Int → Option (Bool)
 | 0, _, _, _ => none
 | k + 1, x0, x1, x5 => if x5 < (x0.length : Int) then (if 0 ≤ x5 then (if (rd x0 x5) = x1 then (some true) else (spec_l00Has.l0 k x0 x1 (wrap64 (x5 + 1)))) else (none)) else (some false)
def spec_l00Has.f (k : Nat) (l0 : List Int) (a1 : Int) : Option (Bool) := spec_l00Has.l0 k l0 a1 0
theorem spec_l00Has.mono_l : ∀ k, (∀ y0 y1 y2, LeO (spec_l00Has.l0 k y0 y1 y2) (spec_l00Has.l0 (k + 1) y0 y1 y2))
 | 0 => fun _ _ _ r h => by simp [spec_l00Has.l0] at h
 | k + 1 => by
  have ih0 := spec_l00Has.mono_l k
  ·intro y0 y1 y2
   unfold spec_l00Has.l0
   repeat' first
   | (with_reducible exact ih0 _ _ _)
   | (with_reducible exact LeO.refl _)
   | (with_reducible exact LeO.none _)
   | (with_reducible refine LeO.ite ?_ ?_)
   | (with_reducible refine LeO.bind ?_ (fun _ => ?_))
   | exact ih0 _ _ _
   | exact LeO.none _
   | refine LeO.ite ?_ ?_
   | refine LeO.bind ?_ (fun _ => ?_)
theorem spec_l00Has.mono : ∀ a0 a1 k, LeO (spec_l00Has.f k a0 a1) (spec_l00Has.f (k + 1) a0 a1) := by
 intro a0 a1 k
 have ih0 := spec_l00Has.mono_l k
 unfold spec_l00Has.f
 repeat' first
   | (with_reducible exact ih0 _ _ _)
   | (with_reducible exact LeO.refl _)
   | (with_reducible exact LeO.none _)
   | (with_reducible refine LeO.ite ?_ ?_)
   | (with_reducible refine LeO.bind ?_ (fun _ => ?_))
   | exact ih0 _ _ _
   | exact LeO.none _
   | refine LeO.ite ?_ ?_
   | refine LeO.bind ?_ (fun _ => ?_)
set_option maxHeartbeats 8000000 in
set_option maxRecDepth 100000 in
theorem spec_l00Has.calls (k : Nat) (A0 : Option Addr) (c0 : Nat) (l0 : List Int) (a1 : Int) (r : Bool) (w : World) (hr0 : Kd.C (Kd.int .i64) w A0 l0.length l0) (hc0 : l0.length ≤ c0) (h : spec_l00Has.f k l0 a1 = some r) :
  Calls Try.prog 37 #[.slice A0 l0.length c0, .int .i64 a1] w fun e w' => e = .returned (.bool r) ∧ Drawn0 w w' := by
 have HR0 := Aside0.mk hr0
 have HC0 := Aside0.mk hc0
 clear hr0 hc0
 have H : (spec_l00Has.l0 k l0 a1 0) = some r := h
 clear h
 have H' := Aside0.mk H
 clear H
 go_enter Try.func37, Try.ntmps37
 go_wp2
 go_loopg [5] k (fun kq v5 w' => ∃ (x5_1 : Int), v5 = .int .i64 x5_1 ∧ Aside0 (spec_l00Has.l0 kq l0 a1 x5_1 = some r) ∧ Aside0 (kq ≤ k) ∧ Drawn0 w w')
 case atStart => exact ⟨(0), eT, H', ⟨Nat.le_refl _⟩, dR⟩
 case round =>
  clear H'
  try clear p2
  obtain ⟨x5_1, rfl, HA, HK1, ⟨m1, rfl⟩⟩ := hrel
  cases gk with
  | zero => exact absurd HA.out (by simp [spec_l00Has.l0])
  | succ k1 =>
   have H := HA.out
   clear HA
   simp only [spec_l00Has.l0] at H
   by_cases c3 : x5_1 < (l0.length : Int)
   ·rw [if_pos c3] at H
    have c3b0 : decide (x5_1 < (l0.length : Int)) = true := decide_eq_true c3
    clear c3
    by_cases c4 : 0 ≤ x5_1
    ·rw [if_pos c4] at H
     have c4b0 : decide (0 ≤ x5_1) = true := decide_eq_true c4
     clear c4
     by_cases c5 : (rd l0 x5_1) = a1
     ·rw [if_pos c5] at H
      have c5b0 : ((rd l0 x5_1) == a1) = true := beq_iff_eq.mpr c5
      have c5b1 : ((rd l0 x5_1) != a1) = false := bne_eq_false_iff_eq.mpr c5
      clear c5
      obtain rfl := Option.some.inj H
      have p123 : 0 ≤ (x5_1 : Int) := oT
      have q123 : x5_1 < (l0.length : Int) := oT
      obtain ⟨ad123, e123, hx123_0⟩ := Kd.at_int HR0.out x5_1 p123 q123
      cases e123
      replace p123 := eq_true p123
      replace q123 := eq_true q123
      go_wp2
      go_ret
      exact ⟨eT, dR⟩
     ·rw [if_neg c5] at H
      have c5b0 : ((rd l0 x5_1) == a1) = false := beq_eq_false_iff_ne.mpr c5
      have c5b1 : ((rd l0 x5_1) != a1) = true := bne_iff_ne.mpr c5
      have H' := Aside0.mk H
      clear H
      have p123 : 0 ≤ (x5_1 : Int) := oT
      have q123 : x5_1 < (l0.length : Int) := oT
      obtain ⟨ad123, e123, hx123_0⟩ := Kd.at_int HR0.out x5_1 p123 q123
      cases e123
      replace p123 := eq_true p123
      replace q123 := eq_true q123
      go_wp2
      go_roundg k1
      case measure => have := HK1.out; omega
      case rel => exact ⟨(wrap64 (x5_1 + 1)), eT, H', ⟨by have := HK1.out; omega⟩, dR⟩
    ·rw [if_neg c4] at H
     exact absurd H (by simp)
   ·rw [if_neg c3] at H
    have c3b0 : decide (x5_1 < (l0.length : Int)) = false := decide_eq_false c3
    clear c3
    obtain rfl := Option.some.inj H
    go_wp2
    go_ret
    exact ⟨eT, dR⟩


/-! ### spec_l07Step: function 38 -/
def spec_l07Step.l0 : Nat → Int → Int → Int → Int → Int → List Int → List (S68) → Option (Int)
 | 0, _, _, _, _, _, _, _ => none
 | k + 1, x1, x2, x7, x1000, x1001, x1002, x1003 => if x7 < (x1003.length : Int) then (if 0 ≤ x7 then (if ((rd_T68 x1003 x7).f0) = x1 then (if ((rd_T68 x1003 x7).f1) = x2 then (some ((rd_T68 x1003 x7).f2)) else (spec_l07Step.l0 k x1 x2 (wrap64 (x7 + 1)) x1000 x1001 x1002 x1003)) else (spec_l07Step.l0 k x1 x2 (wrap64 (x7 + 1)) x1000 x1001 x1002 x1003)) else (none)) else (some (-1))
def spec_l07Step.f (k : Nat) (a0_0 : Int) (a0_1 : Int) (l0_2 : List Int) (l0_3 : List (S68)) (a1 : Int) (a2 : Int) : Option (Int) := spec_l07Step.l0 k a1 a2 0 a0_0 a0_1 l0_2 l0_3
theorem spec_l07Step.mono_l : ∀ k, (∀ y0 y1 y2 y3 y4 y5 y6, LeO (spec_l07Step.l0 k y0 y1 y2 y3 y4 y5 y6) (spec_l07Step.l0 (k + 1) y0 y1 y2 y3 y4 y5 y6))
 | 0 => fun _ _ _ _ _ _ _ r h => by simp [spec_l07Step.l0] at h
 | k + 1 => by
  have ih0 := spec_l07Step.mono_l k
  ·intro y0 y1 y2 y3 y4 y5 y6
   unfold spec_l07Step.l0
   repeat' first
   | (with_reducible exact ih0 _ _ _ _ _ _ _)
   | (with_reducible exact LeO.refl _)
   | (with_reducible exact LeO.none _)
   | (with_reducible refine LeO.ite ?_ ?_)
   | (with_reducible refine LeO.bind ?_ (fun _ => ?_))
   | exact ih0 _ _ _ _ _ _ _
   | exact LeO.none _
   | refine LeO.ite ?_ ?_
   | refine LeO.bind ?_ (fun _ => ?_)
theorem spec_l07Step.mono : ∀ a0 a1 a2 a3 a4 a5 k, LeO (spec_l07Step.f k a0 a1 a2 a3 a4 a5) (spec_l07Step.f (k + 1) a0 a1 a2 a3 a4 a5) := by
 intro a0 a1 a2 a3 a4 a5 k
 have ih0 := spec_l07Step.mono_l k
 unfold spec_l07Step.f
 repeat' first
   | (with_reducible exact ih0 _ _ _ _ _ _ _)
   | (with_reducible exact LeO.refl _)
   | (with_reducible exact LeO.none _)
   | (with_reducible refine LeO.ite ?_ ?_)
   | (with_reducible refine LeO.bind ?_ (fun _ => ?_))
   | exact ih0 _ _ _ _ _ _ _
   | exact LeO.none _
   | refine LeO.ite ?_ ?_
   | refine LeO.bind ?_ (fun _ => ?_)
set_option maxHeartbeats 8000000 in
set_option maxRecDepth 100000 in
theorem spec_l07Step.calls (k : Nat) (adp0 : Addr) (a0_0 : Int) (a0_1 : Int) (l0_2 : List Int) (l0_3 : List (S68)) (a1 : Int) (a2 : Int) (r : Int) (w : World) (hp0 : Kd.C k39 w (some adp0) 1 [(⟨a0_0, a0_1, l0_2, l0_3⟩ : S39)]) (h : spec_l07Step.f k a0_0 a0_1 l0_2 l0_3 a1 a2 = some r) :
  Calls Try.prog 38 #[.pointer (some adp0), .int .i64 a1, .int .i64 a2] w fun e w' => e = .returned (.int .i64 r) ∧ Drawn0 w w' := by
 have HRp0 := Aside0.mk hp0
 clear hp0
 have H : (spec_l07Step.l0 k a1 a2 0 a0_0 a0_1 l0_2 l0_3) = some r := h
 clear h
 have H' := Aside0.mk H
 clear H
 go_enter Try.func38, Try.ntmps38
 go_wp2
 go_loopg [7] k (fun kq v7 w' => ∃ (x7_1 : Int), v7 = .int .i64 x7_1 ∧ Aside0 (spec_l07Step.l0 kq a1 a2 x7_1 a0_0 a0_1 l0_2 l0_3 = some r) ∧ Aside0 (kq ≤ k) ∧ Drawn0 w w')
 case atStart => exact ⟨(0), eT, H', ⟨Nat.le_refl _⟩, dR⟩
 case round =>
  clear H'
  try clear p2
  try clear c3
  obtain ⟨x7_1, rfl, HA, HK1, ⟨m1, rfl⟩⟩ := hrel
  cases gk with
  | zero => exact absurd HA.out (by simp [spec_l07Step.l0])
  | succ k1 =>
   have H := HA.out
   clear HA
   simp only [spec_l07Step.l0] at H
   by_cases c4 : x7_1 < (l0_3.length : Int)
   ·rw [if_pos c4] at H
    have c4b0 : decide (x7_1 < (l0_3.length : Int)) = true := decide_eq_true c4
    clear c4
    by_cases c5 : 0 ≤ x7_1
    ·rw [if_pos c5] at H
     have c5b0 : decide (0 ≤ x7_1) = true := decide_eq_true c5
     clear c5
     by_cases c6 : ((rd_T68 l0_3 x7_1).f0) = a1
     ·rw [if_pos c6] at H
      have c6b0 : (((rd_T68 l0_3 x7_1).f0) == a1) = true := beq_iff_eq.mpr c6
      have c6b1 : (((rd_T68 l0_3 x7_1).f0) != a1) = false := bne_eq_false_iff_eq.mpr c6
      clear c6
      by_cases c7 : ((rd_T68 l0_3 x7_1).f1) = a2
      ·rw [if_pos c7] at H
       have c7b0 : (((rd_T68 l0_3 x7_1).f1) == a2) = true := beq_iff_eq.mpr c7
       have c7b1 : (((rd_T68 l0_3 x7_1).f1) != a2) = false := bne_eq_false_iff_eq.mpr c7
       clear c7
       obtain rfl := Option.some.inj H
       have p124 : 0 ≤ (0 : Int) := (by omega)
       have q124 : 0 < ([(⟨a0_0, a0_1, l0_2, l0_3⟩ : S39)].length : Int) := (by simp)
       obtain ⟨ad124, A124_2, c124_2, A124_3, c124_3, e124, hx124_0, hx124_1, hx124_2, hx124_3, hl124_2, hi124_2, hl124_3, hi124_3⟩ := at_T39 HRp0.out 0 p124 q124
       replace hx124_0 : _ = (some (.int .i64 a0_0) : Option Value) := hx124_0
       replace hx124_1 : _ = (some (.int .i64 a0_1) : Option Value) := hx124_1
       replace hx124_2 : _ = (some (.slice A124_2 l0_2.length c124_2) : Option Value) := hx124_2
       replace hi124_2 : Kd.C (Kd.int .i64) _ _ l0_2.length l0_2 := hi124_2
       replace hl124_2 : l0_2.length ≤ _ := hl124_2
       replace hx124_3 : _ = (some (.slice A124_3 l0_3.length c124_3) : Option Value) := hx124_3
       replace hi124_3 : Kd.C k68 _ _ l0_3.length l0_3 := hi124_3
       replace hl124_3 : l0_3.length ≤ _ := hl124_3
       obtain rfl : adp0 = ad124 := (by injection e124)
       have qi124 : (0 < [(⟨a0_0, a0_1, l0_2, l0_3⟩ : S39)].length) = True := eq_true (by simp)
       (try rw [t00] at hx124_0)
       (try rw [Nat.zero_mul] at hx124_0)
       (try rw [Addr.add_zero'] at hx124_0)
       (try rw [t00] at hx124_1)
       (try rw [Nat.zero_mul] at hx124_1)
       (try rw [Addr.add_zero'] at hx124_1)
       (try rw [t00] at hx124_2)
       (try rw [Nat.zero_mul] at hx124_2)
       (try rw [Addr.add_zero'] at hx124_2)
       (try rw [t00] at hx124_3)
       (try rw [Nat.zero_mul] at hx124_3)
       (try rw [Addr.add_zero'] at hx124_3)
       have HR124_2 := Aside0.mk hi124_2
       have HC124_2 := Aside0.mk hl124_2
       clear hi124_2 hl124_2
       have HR124_3 := Aside0.mk hi124_3
       have HC124_3 := Aside0.mk hl124_3
       clear hi124_3 hl124_3
       replace p124 := eq_true p124
       replace q124 := eq_true q124
       have p125 : 0 ≤ (x7_1 : Int) := oT
       have q125 : x7_1 < (l0_3.length : Int) := oT
       obtain ⟨ad125, e125, hx125_0, hx125_1, hx125_2⟩ := at_T68 HR124_3.out x7_1 p125 q125
       cases e125
       replace p125 := eq_true p125
       replace q125 := eq_true q125
       have p126 : 0 ≤ (x7_1 : Int) := oT
       have q126 : x7_1 < (l0_3.length : Int) := oT
       obtain ⟨ad126, e126, hx126_0, hx126_1, hx126_2⟩ := at_T68 HR124_3.out x7_1 p126 q126
       obtain rfl : ad125 = ad126 := (by injection e126)
       replace p126 := eq_true p126
       replace q126 := eq_true q126
       have p127 : 0 ≤ (x7_1 : Int) := oT
       have q127 : x7_1 < (l0_3.length : Int) := oT
       obtain ⟨ad127, e127, hx127_0, hx127_1, hx127_2⟩ := at_T68 HR124_3.out x7_1 p127 q127
       obtain rfl : ad125 = ad127 := (by injection e127)
       replace p127 := eq_true p127
       replace q127 := eq_true q127
       go_wp2
       go_ret
       exact ⟨eT, dR⟩
      ·rw [if_neg c7] at H
       have c7b0 : (((rd_T68 l0_3 x7_1).f1) == a2) = false := beq_eq_false_iff_ne.mpr c7
       have c7b1 : (((rd_T68 l0_3 x7_1).f1) != a2) = true := bne_iff_ne.mpr c7
       have H' := Aside0.mk H
       clear H
       have p124 : 0 ≤ (0 : Int) := (by omega)
       have q124 : 0 < ([(⟨a0_0, a0_1, l0_2, l0_3⟩ : S39)].length : Int) := (by simp)
       obtain ⟨ad124, A124_2, c124_2, A124_3, c124_3, e124, hx124_0, hx124_1, hx124_2, hx124_3, hl124_2, hi124_2, hl124_3, hi124_3⟩ := at_T39 HRp0.out 0 p124 q124
       replace hx124_0 : _ = (some (.int .i64 a0_0) : Option Value) := hx124_0
       replace hx124_1 : _ = (some (.int .i64 a0_1) : Option Value) := hx124_1
       replace hx124_2 : _ = (some (.slice A124_2 l0_2.length c124_2) : Option Value) := hx124_2
       replace hi124_2 : Kd.C (Kd.int .i64) _ _ l0_2.length l0_2 := hi124_2
       replace hl124_2 : l0_2.length ≤ _ := hl124_2
       replace hx124_3 : _ = (some (.slice A124_3 l0_3.length c124_3) : Option Value) := hx124_3
       replace hi124_3 : Kd.C k68 _ _ l0_3.length l0_3 := hi124_3
       replace hl124_3 : l0_3.length ≤ _ := hl124_3
       obtain rfl : adp0 = ad124 := (by injection e124)
       have qi124 : (0 < [(⟨a0_0, a0_1, l0_2, l0_3⟩ : S39)].length) = True := eq_true (by simp)
       (try rw [t00] at hx124_0)
       (try rw [Nat.zero_mul] at hx124_0)
       (try rw [Addr.add_zero'] at hx124_0)
       (try rw [t00] at hx124_1)
       (try rw [Nat.zero_mul] at hx124_1)
       (try rw [Addr.add_zero'] at hx124_1)
       (try rw [t00] at hx124_2)
       (try rw [Nat.zero_mul] at hx124_2)
       (try rw [Addr.add_zero'] at hx124_2)
       (try rw [t00] at hx124_3)
       (try rw [Nat.zero_mul] at hx124_3)
       (try rw [Addr.add_zero'] at hx124_3)
       have HR124_2 := Aside0.mk hi124_2
       have HC124_2 := Aside0.mk hl124_2
       clear hi124_2 hl124_2
       have HR124_3 := Aside0.mk hi124_3
       have HC124_3 := Aside0.mk hl124_3
       clear hi124_3 hl124_3
       replace p124 := eq_true p124
       replace q124 := eq_true q124
       have p125 : 0 ≤ (x7_1 : Int) := oT
       have q125 : x7_1 < (l0_3.length : Int) := oT
       obtain ⟨ad125, e125, hx125_0, hx125_1, hx125_2⟩ := at_T68 HR124_3.out x7_1 p125 q125
       cases e125
       replace p125 := eq_true p125
       replace q125 := eq_true q125
       have p126 : 0 ≤ (x7_1 : Int) := oT
       have q126 : x7_1 < (l0_3.length : Int) := oT
       obtain ⟨ad126, e126, hx126_0, hx126_1, hx126_2⟩ := at_T68 HR124_3.out x7_1 p126 q126
       obtain rfl : ad125 = ad126 := (by injection e126)
       replace p126 := eq_true p126
       replace q126 := eq_true q126
       go_wp2
       go_roundg k1
       case measure => have := HK1.out; omega
       case rel => exact ⟨(wrap64 (x7_1 + 1)), eT, H', ⟨by have := HK1.out; omega⟩, dR⟩
     ·rw [if_neg c6] at H
      have c6b0 : (((rd_T68 l0_3 x7_1).f0) == a1) = false := beq_eq_false_iff_ne.mpr c6
      have c6b1 : (((rd_T68 l0_3 x7_1).f0) != a1) = true := bne_iff_ne.mpr c6
      have H' := Aside0.mk H
      clear H
      have p124 : 0 ≤ (0 : Int) := (by omega)
      have q124 : 0 < ([(⟨a0_0, a0_1, l0_2, l0_3⟩ : S39)].length : Int) := (by simp)
      obtain ⟨ad124, A124_2, c124_2, A124_3, c124_3, e124, hx124_0, hx124_1, hx124_2, hx124_3, hl124_2, hi124_2, hl124_3, hi124_3⟩ := at_T39 HRp0.out 0 p124 q124
      replace hx124_0 : _ = (some (.int .i64 a0_0) : Option Value) := hx124_0
      replace hx124_1 : _ = (some (.int .i64 a0_1) : Option Value) := hx124_1
      replace hx124_2 : _ = (some (.slice A124_2 l0_2.length c124_2) : Option Value) := hx124_2
      replace hi124_2 : Kd.C (Kd.int .i64) _ _ l0_2.length l0_2 := hi124_2
      replace hl124_2 : l0_2.length ≤ _ := hl124_2
      replace hx124_3 : _ = (some (.slice A124_3 l0_3.length c124_3) : Option Value) := hx124_3
      replace hi124_3 : Kd.C k68 _ _ l0_3.length l0_3 := hi124_3
      replace hl124_3 : l0_3.length ≤ _ := hl124_3
      obtain rfl : adp0 = ad124 := (by injection e124)
      have qi124 : (0 < [(⟨a0_0, a0_1, l0_2, l0_3⟩ : S39)].length) = True := eq_true (by simp)
      (try rw [t00] at hx124_0)
      (try rw [Nat.zero_mul] at hx124_0)
      (try rw [Addr.add_zero'] at hx124_0)
      (try rw [t00] at hx124_1)
      (try rw [Nat.zero_mul] at hx124_1)
      (try rw [Addr.add_zero'] at hx124_1)
      (try rw [t00] at hx124_2)
      (try rw [Nat.zero_mul] at hx124_2)
      (try rw [Addr.add_zero'] at hx124_2)
      (try rw [t00] at hx124_3)
      (try rw [Nat.zero_mul] at hx124_3)
      (try rw [Addr.add_zero'] at hx124_3)
      have HR124_2 := Aside0.mk hi124_2
      have HC124_2 := Aside0.mk hl124_2
      clear hi124_2 hl124_2
      have HR124_3 := Aside0.mk hi124_3
      have HC124_3 := Aside0.mk hl124_3
      clear hi124_3 hl124_3
      replace p124 := eq_true p124
      replace q124 := eq_true q124
      have p125 : 0 ≤ (x7_1 : Int) := oT
      have q125 : x7_1 < (l0_3.length : Int) := oT
      obtain ⟨ad125, e125, hx125_0, hx125_1, hx125_2⟩ := at_T68 HR124_3.out x7_1 p125 q125
      cases e125
      replace p125 := eq_true p125
      replace q125 := eq_true q125
      go_wp2
      go_roundg k1
      case measure => have := HK1.out; omega
      case rel => exact ⟨(wrap64 (x7_1 + 1)), eT, H', ⟨by have := HK1.out; omega⟩, dR⟩
    ·rw [if_neg c5] at H
     exact absurd H (by simp)
   ·rw [if_neg c4] at H
    have c4b0 : decide (x7_1 < (l0_3.length : Int)) = false := decide_eq_false c4
    clear c4
    obtain rfl := Option.some.inj H
    have p124 : 0 ≤ (0 : Int) := (by omega)
    have q124 : 0 < ([(⟨a0_0, a0_1, l0_2, l0_3⟩ : S39)].length : Int) := (by simp)
    obtain ⟨ad124, A124_2, c124_2, A124_3, c124_3, e124, hx124_0, hx124_1, hx124_2, hx124_3, hl124_2, hi124_2, hl124_3, hi124_3⟩ := at_T39 HRp0.out 0 p124 q124
    replace hx124_0 : _ = (some (.int .i64 a0_0) : Option Value) := hx124_0
    replace hx124_1 : _ = (some (.int .i64 a0_1) : Option Value) := hx124_1
    replace hx124_2 : _ = (some (.slice A124_2 l0_2.length c124_2) : Option Value) := hx124_2
    replace hi124_2 : Kd.C (Kd.int .i64) _ _ l0_2.length l0_2 := hi124_2
    replace hl124_2 : l0_2.length ≤ _ := hl124_2
    replace hx124_3 : _ = (some (.slice A124_3 l0_3.length c124_3) : Option Value) := hx124_3
    replace hi124_3 : Kd.C k68 _ _ l0_3.length l0_3 := hi124_3
    replace hl124_3 : l0_3.length ≤ _ := hl124_3
    obtain rfl : adp0 = ad124 := (by injection e124)
    have qi124 : (0 < [(⟨a0_0, a0_1, l0_2, l0_3⟩ : S39)].length) = True := eq_true (by simp)
    (try rw [t00] at hx124_0)
    (try rw [Nat.zero_mul] at hx124_0)
    (try rw [Addr.add_zero'] at hx124_0)
    (try rw [t00] at hx124_1)
    (try rw [Nat.zero_mul] at hx124_1)
    (try rw [Addr.add_zero'] at hx124_1)
    (try rw [t00] at hx124_2)
    (try rw [Nat.zero_mul] at hx124_2)
    (try rw [Addr.add_zero'] at hx124_2)
    (try rw [t00] at hx124_3)
    (try rw [Nat.zero_mul] at hx124_3)
    (try rw [Addr.add_zero'] at hx124_3)
    have HR124_2 := Aside0.mk hi124_2
    have HC124_2 := Aside0.mk hl124_2
    clear hi124_2 hl124_2
    have HR124_3 := Aside0.mk hi124_3
    have HC124_3 := Aside0.mk hl124_3
    clear hi124_3 hl124_3
    replace p124 := eq_true p124
    replace q124 := eq_true q124
    go_wp2
    go_ret
    exact ⟨eT, dR⟩


/-! ### spec_l07Pair: function 39 -/
def spec_l07Pair.l0 : Nat → List (List Int) → Int → Int → Int → Option (Int)
 | 0, _, _, _, _ => none
 | k + 1, x0, x1, x2, x7 => if x7 < (x0.length : Int) then (if 0 ≤ x7 then (if 0 < ((rd_L3 x0 x7).length : Int) then (if (rd (rd_L3 x0 x7) 0) = x1 then (if 1 < ((rd_L3 x0 x7).length : Int) then (if (rd (rd_L3 x0 x7) 1) = x2 then (some x7) else (spec_l07Pair.l0 k x0 x1 x2 (wrap64 (x7 + 1)))) else (none)) else (spec_l07Pair.l0 k x0 x1 x2 (wrap64 (x7 + 1)))) else (none)) else (none)) else (some (-1))
def spec_l07Pair.f (k : Nat) (l0 : List (List Int)) (a1 : Int) (a2 : Int) : Option (Int) := spec_l07Pair.l0 k l0 a1 a2 0
theorem spec_l07Pair.mono_l : ∀ k, (∀ y0 y1 y2 y3, LeO (spec_l07Pair.l0 k y0 y1 y2 y3) (spec_l07Pair.l0 (k + 1) y0 y1 y2 y3))
 | 0 => fun _ _ _ _ r h => by simp [spec_l07Pair.l0] at h
 | k + 1 => by
  have ih0 := spec_l07Pair.mono_l k
  ·intro y0 y1 y2 y3
   unfold spec_l07Pair.l0
   repeat' first
   | (with_reducible exact ih0 _ _ _ _)
   | (with_reducible exact LeO.refl _)
   | (with_reducible exact LeO.none _)
   | (with_reducible refine LeO.ite ?_ ?_)
   | (with_reducible refine LeO.bind ?_ (fun _ => ?_))
   | exact ih0 _ _ _ _
   | exact LeO.none _
   | refine LeO.ite ?_ ?_
   | refine LeO.bind ?_ (fun _ => ?_)
theorem spec_l07Pair.mono : ∀ a0 a1 a2 k, LeO (spec_l07Pair.f k a0 a1 a2) (spec_l07Pair.f (k + 1) a0 a1 a2) := by
 intro a0 a1 a2 k
 have ih0 := spec_l07Pair.mono_l k
 unfold spec_l07Pair.f
 repeat' first
   | (with_reducible exact ih0 _ _ _ _)
   | (with_reducible exact LeO.refl _)
   | (with_reducible exact LeO.none _)
   | (with_reducible refine LeO.ite ?_ ?_)
   | (with_reducible refine LeO.bind ?_ (fun _ => ?_))
   | exact ih0 _ _ _ _
   | exact LeO.none _
   | refine LeO.ite ?_ ?_
   | refine LeO.bind ?_ (fun _ => ?_)
set_option maxHeartbeats 8000000 in
set_option maxRecDepth 100000 in
theorem spec_l07Pair.calls (k : Nat) (A0 : Option Addr) (c0 : Nat) (l0 : List (List Int)) (a1 : Int) (a2 : Int) (r : Int) (w : World) (hr0 : Kd.C (Kd.slice 2 (Kd.int .i64)) w A0 l0.length l0) (hc0 : l0.length ≤ c0) (h : spec_l07Pair.f k l0 a1 a2 = some r) :
  Calls Try.prog 39 #[.slice A0 l0.length c0, .int .i64 a1, .int .i64 a2] w fun e w' => e = .returned (.int .i64 r) ∧ Drawn0 w w' := by
 have HR0 := Aside0.mk hr0
 have HC0 := Aside0.mk hc0
 clear hr0 hc0
 have H : (spec_l07Pair.l0 k l0 a1 a2 0) = some r := h
 clear h
 have H' := Aside0.mk H
 clear H
 go_enter Try.func39, Try.ntmps39
 go_wp2
 go_loopg [7] k (fun kq v7 w' => ∃ (x7_1 : Int), v7 = .int .i64 x7_1 ∧ Aside0 (spec_l07Pair.l0 kq l0 a1 a2 x7_1 = some r) ∧ Aside0 (kq ≤ k) ∧ Drawn0 w w')
 case atStart => exact ⟨(0), eT, H', ⟨Nat.le_refl _⟩, dR⟩
 case round =>
  clear H'
  try clear p2
  try clear c3
  obtain ⟨x7_1, rfl, HA, HK1, ⟨m1, rfl⟩⟩ := hrel
  cases gk with
  | zero => exact absurd HA.out (by simp [spec_l07Pair.l0])
  | succ k1 =>
   have H := HA.out
   clear HA
   simp only [spec_l07Pair.l0] at H
   by_cases c4 : x7_1 < (l0.length : Int)
   ·rw [if_pos c4] at H
    have c4b0 : decide (x7_1 < (l0.length : Int)) = true := decide_eq_true c4
    clear c4
    by_cases c5 : 0 ≤ x7_1
    ·rw [if_pos c5] at H
     have c5b0 : decide (0 ≤ x7_1) = true := decide_eq_true c5
     clear c5
     by_cases c6 : 0 < ((rd_L3 l0 x7_1).length : Int)
     ·rw [if_pos c6] at H
      have c6b0 : decide (0 < ((rd_L3 l0 x7_1).length : Int)) = true := decide_eq_true c6
      have c6b1 : decide (0 < (rd_L3 l0 x7_1).length) = true := decide_eq_true (by omega)
      clear c6
      by_cases c7 : (rd (rd_L3 l0 x7_1) 0) = a1
      ·rw [if_pos c7] at H
       have c7b0 : ((rd (rd_L3 l0 x7_1) 0) == a1) = true := beq_iff_eq.mpr c7
       have c7b1 : ((rd (rd_L3 l0 x7_1) 0) != a1) = false := bne_eq_false_iff_eq.mpr c7
       clear c7
       by_cases c8 : 1 < ((rd_L3 l0 x7_1).length : Int)
       ·rw [if_pos c8] at H
        have c8b0 : decide (1 < ((rd_L3 l0 x7_1).length : Int)) = true := decide_eq_true c8
        have c8b1 : decide (1 < (rd_L3 l0 x7_1).length) = true := decide_eq_true (by omega)
        clear c8
        by_cases c9 : (rd (rd_L3 l0 x7_1) 1) = a2
        ·rw [if_pos c9] at H
         have c9b0 : ((rd (rd_L3 l0 x7_1) 1) == a2) = true := beq_iff_eq.mpr c9
         have c9b1 : ((rd (rd_L3 l0 x7_1) 1) != a2) = false := bne_eq_false_iff_eq.mpr c9
         clear c9
         obtain rfl := Option.some.inj H
         have p128 : 0 ≤ (x7_1 : Int) := oT
         have q128 : x7_1 < (l0.length : Int) := oT
         obtain ⟨ad128, A128_0, c128_0, e128, hx128_0, hl128_0, hi128_0⟩ := at_L3 HR0.out x7_1 p128 q128
         cases e128
         have HR128_0 := Aside0.mk hi128_0
         have HC128_0 := Aside0.mk hl128_0
         clear hi128_0 hl128_0
         replace p128 := eq_true p128
         replace q128 := eq_true q128
         have p129 : 0 ≤ (0 : Int) := (by omega)
         have q129 : 0 < ((rd_L3 l0 x7_1).length : Int) := oT
         obtain ⟨ad129, e129, hx129_0⟩ := Kd.at_int HR128_0.out 0 p129 q129
         cases e129
         have qi129 : (0 < (rd_L3 l0 x7_1).length) = True := eq_true (by omega)
         (try rw [t00] at hx129_0)
         (try rw [Addr.add_zero'] at hx129_0)
         replace p129 := eq_true p129
         replace q129 := eq_true q129
         have p130 : 0 ≤ (x7_1 : Int) := oT
         have q130 : x7_1 < (l0.length : Int) := oT
         obtain ⟨ad130, A130_0, c130_0, e130, hx130_0, hl130_0, hi130_0⟩ := at_L3 HR0.out x7_1 p130 q130
         obtain rfl : ad128 = ad130 := (by injection e130)
         have HR130_0 := Aside0.mk hi130_0
         have HC130_0 := Aside0.mk hl130_0
         clear hi130_0 hl130_0
         replace p130 := eq_true p130
         replace q130 := eq_true q130
         have ea_ := Option.some.inj (hx128_0.symm.trans hx130_0)
         injection ea_ with ea_ en_ ec_
         subst ea_
         subst ec_
         clear en_
         have p131 : 0 ≤ (1 : Int) := (by omega)
         have q131 : 1 < ((rd_L3 l0 x7_1).length : Int) := oT
         obtain ⟨ad131, e131, hx131_0⟩ := Kd.at_int HR130_0.out 1 p131 q131
         cases e131
         (try simp only [show (1 : Int).toNat = 1 from rfl, Nat.reduceMul, Nat.reduceEqDiff, Go.Addr.add, ↓reduceIte] at hx131_0)
         have qi131 : (1 < (rd_L3 l0 x7_1).length) = True := eq_true (by omega)
         (try rw [show ((1 : Int)).toNat = 1 from rfl] at hx131_0)
         replace p131 := eq_true p131
         replace q131 := eq_true q131
         go_wp2
         go_ret
         exact ⟨eT, dR⟩
        ·rw [if_neg c9] at H
         have c9b0 : ((rd (rd_L3 l0 x7_1) 1) == a2) = false := beq_eq_false_iff_ne.mpr c9
         have c9b1 : ((rd (rd_L3 l0 x7_1) 1) != a2) = true := bne_iff_ne.mpr c9
         have H' := Aside0.mk H
         clear H
         have p128 : 0 ≤ (x7_1 : Int) := oT
         have q128 : x7_1 < (l0.length : Int) := oT
         obtain ⟨ad128, A128_0, c128_0, e128, hx128_0, hl128_0, hi128_0⟩ := at_L3 HR0.out x7_1 p128 q128
         cases e128
         have HR128_0 := Aside0.mk hi128_0
         have HC128_0 := Aside0.mk hl128_0
         clear hi128_0 hl128_0
         replace p128 := eq_true p128
         replace q128 := eq_true q128
         have p129 : 0 ≤ (0 : Int) := (by omega)
         have q129 : 0 < ((rd_L3 l0 x7_1).length : Int) := oT
         obtain ⟨ad129, e129, hx129_0⟩ := Kd.at_int HR128_0.out 0 p129 q129
         cases e129
         have qi129 : (0 < (rd_L3 l0 x7_1).length) = True := eq_true (by omega)
         (try rw [t00] at hx129_0)
         (try rw [Addr.add_zero'] at hx129_0)
         replace p129 := eq_true p129
         replace q129 := eq_true q129
         have p130 : 0 ≤ (x7_1 : Int) := oT
         have q130 : x7_1 < (l0.length : Int) := oT
         obtain ⟨ad130, A130_0, c130_0, e130, hx130_0, hl130_0, hi130_0⟩ := at_L3 HR0.out x7_1 p130 q130
         obtain rfl : ad128 = ad130 := (by injection e130)
         have HR130_0 := Aside0.mk hi130_0
         have HC130_0 := Aside0.mk hl130_0
         clear hi130_0 hl130_0
         replace p130 := eq_true p130
         replace q130 := eq_true q130
         have ea_ := Option.some.inj (hx128_0.symm.trans hx130_0)
         injection ea_ with ea_ en_ ec_
         subst ea_
         subst ec_
         clear en_
         have p131 : 0 ≤ (1 : Int) := (by omega)
         have q131 : 1 < ((rd_L3 l0 x7_1).length : Int) := oT
         obtain ⟨ad129, e131, hx131_0⟩ := Kd.at_int HR130_0.out 1 p131 q131
         cases e131
         (try simp only [show (1 : Int).toNat = 1 from rfl, Nat.reduceMul, Nat.reduceEqDiff, Go.Addr.add, ↓reduceIte] at hx131_0)
         have qi131 : (1 < (rd_L3 l0 x7_1).length) = True := eq_true (by omega)
         (try rw [show ((1 : Int)).toNat = 1 from rfl] at hx131_0)
         replace p131 := eq_true p131
         replace q131 := eq_true q131
         go_wp2
         go_roundg k1
         case measure => have := HK1.out; omega
         case rel => exact ⟨(wrap64 (x7_1 + 1)), eT, H', ⟨by have := HK1.out; omega⟩, dR⟩
       ·rw [if_neg c8] at H
        exact absurd H (by simp)
      ·rw [if_neg c7] at H
       have c7b0 : ((rd (rd_L3 l0 x7_1) 0) == a1) = false := beq_eq_false_iff_ne.mpr c7
       have c7b1 : ((rd (rd_L3 l0 x7_1) 0) != a1) = true := bne_iff_ne.mpr c7
       have H' := Aside0.mk H
       clear H
       have p128 : 0 ≤ (x7_1 : Int) := oT
       have q128 : x7_1 < (l0.length : Int) := oT
       obtain ⟨ad128, A128_0, c128_0, e128, hx128_0, hl128_0, hi128_0⟩ := at_L3 HR0.out x7_1 p128 q128
       cases e128
       have HR128_0 := Aside0.mk hi128_0
       have HC128_0 := Aside0.mk hl128_0
       clear hi128_0 hl128_0
       replace p128 := eq_true p128
       replace q128 := eq_true q128
       have p129 : 0 ≤ (0 : Int) := (by omega)
       have q129 : 0 < ((rd_L3 l0 x7_1).length : Int) := oT
       obtain ⟨ad129, e129, hx129_0⟩ := Kd.at_int HR128_0.out 0 p129 q129
       cases e129
       have qi129 : (0 < (rd_L3 l0 x7_1).length) = True := eq_true (by omega)
       (try rw [t00] at hx129_0)
       (try rw [Addr.add_zero'] at hx129_0)
       replace p129 := eq_true p129
       replace q129 := eq_true q129
       go_wp2
       go_roundg k1
       case measure => have := HK1.out; omega
       case rel => exact ⟨(wrap64 (x7_1 + 1)), eT, H', ⟨by have := HK1.out; omega⟩, dR⟩
     ·rw [if_neg c6] at H
      exact absurd H (by simp)
    ·rw [if_neg c5] at H
     exact absurd H (by simp)
   ·rw [if_neg c4] at H
    have c4b0 : decide (x7_1 < (l0.length : Int)) = false := decide_eq_false c4
    clear c4
    obtain rfl := Option.some.inj H
    go_wp2
    go_ret
    exact ⟨eT, dR⟩

end Go.Proofs.Yteljnbhbpidjpaa.G
-- shrunk
-- tight
-- tight3
