/- What functions of the given program compute, as plain Lean functions, and that the code comes to just that; by a program of this session over the kit's print. No condition. -/
import Derived.Test.YtijbhcalknfijaaM6x0
namespace Go.Proofs.Ytijbhcalknfijaa.M6
open Go.RowKit Go.Proofs.YtijbhcalknfijaaW.PrintWords Go.Proofs.YtijbhcalknfijaaW.PrintLast Go.Proofs.YtijbhcalknfijaaW.PrintMore
open Go.Proofs.YtijbhcalknfijaaW.PrintWords renaming gate_callee → gC
open Go.Proofs.YtijbhcalknfijaaW.PrintWords.Kd renaming C_alloc → cA, C_drewN → cN, C_drew → cD
attribute [local go_sem] max2_int min2_int max_two min_two max_three min_three max_four min_four   -- for this text's walks alone
set_option linter.unusedVariables false
set_option linter.unusedSimpArgs false

/-! ### spec_l00Has: function 80 -/
def spec_l00Has.l0 : Nat → List Int → Int → Int → Option (Bool)
 | 0, _, _, _ => none
 | k + 1, x0, x1, x5 => if x5 < (x0.length : Int) then (if 0 ≤ x5 then (if (rd x0 x5) = x1 then (some true) else (spec_l00Has.l0 k x0 x1 (wrap64 (x5 + 1)))) else (none)) else (some false)
def spec_l00Has.f (k : Nat) (l0 : List Int) (a1 : Int) : Option (Bool) := spec_l00Has.l0 k l0 a1 0
theorem spec_l00Has.mono_l : ∀ k, (∀ y0 y1 y2, LeO (spec_l00Has.l0 k y0 y1 y2) (spec_l00Has.l0 (k + 1) y0 y1 y2))
 | 0 => fun _ _ _ r h => by simp [spec_l00Has.l0] at h
 | k + 1 => by
  have ih0 := spec_l00Has.mono_l k
  ·intro y0 y1 y2
   unfold spec_l00Has.l0
   repeat' first
   | (with_reducible exact ih0 _ _ _)
   | (with_reducible exact LeO.refl _)
   | (with_reducible exact LeO.none _)
   | (with_reducible refine LeO.ite ?_ ?_)
   | (with_reducible refine LeO.bind ?_ (fun _ => ?_))
   | exact ih0 _ _ _
   | exact LeO.none _
   | refine LeO.ite ?_ ?_
   | refine LeO.bind ?_ (fun _ => ?_)
theorem spec_l00Has.mono : ∀ a0 a1 k, LeO (spec_l00Has.f k a0 a1) (spec_l00Has.f (k + 1) a0 a1) := by
 intro a0 a1 k
 have ih0 := spec_l00Has.mono_l k
 unfold spec_l00Has.f
 repeat' first
   | (with_reducible exact ih0 _ _ _)
   | (with_reducible exact LeO.refl _)
   | (with_reducible exact LeO.none _)
   | (with_reducible refine LeO.ite ?_ ?_)
   | (with_reducible refine LeO.bind ?_ (fun _ => ?_))
   | exact ih0 _ _ _
   | exact LeO.none _
   | refine LeO.ite ?_ ?_
   | refine LeO.bind ?_ (fun _ => ?_)
set_option maxHeartbeats 8000000 in
set_option maxRecDepth 100000 in
theorem spec_l00Has.calls (k : Nat) (A0 : Option Addr) (c0 : Nat) (l0 : List Int) (a1 : Int) (r : Bool) (w : World) (hr0 : Kd.C (Kd.int .i64) w A0 l0.length l0) (hc0 : l0.length ≤ c0) (h : spec_l00Has.f k l0 a1 = some r) :
  Calls Try.prog 80 #[.slice A0 l0.length c0, .int .i64 a1] w fun e w' => e = .returned (.bool r) ∧ Drawn0 w w' := by
 have HR0 := Aside0.mk hr0
 have HC0 := Aside0.mk hc0
 clear hr0 hc0
 have H : (spec_l00Has.l0 k l0 a1 0) = some r := h
 clear h
 have H' := Aside0.mk H
 clear H
 go_enter Try.func80, Try.ntmps80
 go_wp2
 go_loopg [5] k (fun kq v5 w' => ∃ (x5_1 : Int), v5 = .int .i64 x5_1 ∧ Aside0 (spec_l00Has.l0 kq l0 a1 x5_1 = some r) ∧ Aside0 (kq ≤ k) ∧ Drawn0 w w')
 case atStart => exact ⟨(0), (by first | rfl | (simp; done) | (simp [*]; done)), H', ⟨Nat.le_refl _⟩, by repeat (first | exact Drawn0.refl _ | apply Drawn0.step)⟩
 case round =>
  clear H'
  try clear p2
  obtain ⟨x5_1, rfl, HA, HK1, ⟨m1, rfl⟩⟩ := hrel
  cases gk with
  | zero => exact absurd HA.out (by simp [spec_l00Has.l0])
  | succ k1 =>
   have H := HA.out
   clear HA
   simp only [spec_l00Has.l0] at H
   by_cases c3 : x5_1 < (l0.length : Int)
   ·rw [if_pos c3] at H
    have c3b0 : decide (x5_1 < (l0.length : Int)) = true := decide_eq_true c3
    clear c3
    by_cases c4 : 0 ≤ x5_1
    ·rw [if_pos c4] at H
     have c4b0 : decide (0 ≤ x5_1) = true := decide_eq_true c4
     clear c4
     by_cases c5 : (rd l0 x5_1) = a1
     ·rw [if_pos c5] at H
      have c5b0 : ((rd l0 x5_1) == a1) = true := beq_iff_eq.mpr c5
      have c5b1 : ((rd l0 x5_1) != a1) = false := bne_eq_false_iff_eq.mpr c5
      clear c5
      obtain rfl := Option.some.inj H
      have p123 : 0 ≤ (x5_1 : Int) := of_decide_eq_true (by first | (with_reducible assumption) | assumption)
      have q123 : x5_1 < (l0.length : Int) := of_decide_eq_true (by first | (with_reducible assumption) | assumption)
      obtain ⟨ad123, e123, hx123_0⟩ := Kd.at_int HR0.out x5_1 p123 q123
      cases e123
      replace p123 := eq_true p123
      replace q123 := eq_true q123
      go_wp2
      go_ret
      exact ⟨by first | rfl | (simp; done) | (simp [*]; done), by repeat (first | exact Drawn0.refl _ | apply Drawn0.step)⟩
     ·rw [if_neg c5] at H
      have c5b0 : ((rd l0 x5_1) == a1) = false := beq_eq_false_iff_ne.mpr c5
      have c5b1 : ((rd l0 x5_1) != a1) = true := bne_iff_ne.mpr c5
      have H' := Aside0.mk H
      clear H
      have p123 : 0 ≤ (x5_1 : Int) := of_decide_eq_true (by first | (with_reducible assumption) | assumption)
      have q123 : x5_1 < (l0.length : Int) := of_decide_eq_true (by first | (with_reducible assumption) | assumption)
      obtain ⟨ad123, e123, hx123_0⟩ := Kd.at_int HR0.out x5_1 p123 q123
      cases e123
      replace p123 := eq_true p123
      replace q123 := eq_true q123
      go_wp2
      go_roundg k1
      case measure => have := HK1.out; omega
      case rel => exact ⟨(wrap64 (x5_1 + 1)), (by first | rfl | (simp; done) | (simp [*]; done)), H', ⟨by have := HK1.out; omega⟩, by repeat (first | exact Drawn0.refl _ | apply Drawn0.step)⟩
    ·rw [if_neg c4] at H
     exact absurd H (by simp)
   ·rw [if_neg c3] at H
    have c3b0 : decide (x5_1 < (l0.length : Int)) = false := decide_eq_false c3
    clear c3
    obtain rfl := Option.some.inj H
    go_wp2
    go_ret
    exact ⟨by first | rfl | (simp; done) | (simp [*]; done), by repeat (first | exact Drawn0.refl _ | apply Drawn0.step)⟩

/-! ### spec_l05Tone: function 111 -/
def spec_l05Tone.f (k : Nat) (a0_0 : ByteArray) (l0_1 : List Int) (l0_2 : List Int) (a0_3 : Int) (a0_4 : Int) (l0_5 : List (List Int)) (a1 : Int) : Option (Bool) := (spec_l00Has.f k l0_1 a1).bind fun t125 => (if t125 = true then (some true) else ((spec_l00Has.f k l0_2 a1).bind fun t126 => (some t126)))
theorem spec_l05Tone.mono : ∀ a0 a1 a2 a3 a4 a5 a6 k, LeO (spec_l05Tone.f k a0 a1 a2 a3 a4 a5 a6) (spec_l05Tone.f (k + 1) a0 a1 a2 a3 a4 a5 a6) := by
 intro a0 a1 a2 a3 a4 a5 a6 k
 unfold spec_l05Tone.f
 repeat' first
   | (with_reducible exact spec_l00Has.mono _ _ _)
   | (with_reducible exact LeO.refl _)
   | (with_reducible exact LeO.none _)
   | (with_reducible refine LeO.ite ?_ ?_)
   | (with_reducible refine LeO.bind ?_ (fun _ => ?_))
   | exact spec_l00Has.mono _ _ _
   | exact LeO.none _
   | refine LeO.ite ?_ ?_
   | refine LeO.bind ?_ (fun _ => ?_)
set_option maxHeartbeats 8000000 in
set_option maxRecDepth 100000 in
theorem spec_l05Tone.calls (k : Nat) (adp0 : Addr) (a0_0 : ByteArray) (l0_1 : List Int) (l0_2 : List Int) (a0_3 : Int) (a0_4 : Int) (l0_5 : List (List Int)) (a1 : Int) (r : Bool) (w : World) (hp0 : Kd.C k58 w (some adp0) 1 [(⟨a0_0, l0_1, l0_2, a0_3, a0_4, l0_5⟩ : S58)]) (h : spec_l05Tone.f k a0_0 l0_1 l0_2 a0_3 a0_4 l0_5 a1 = some r) :
  Calls Try.prog 111 #[.pointer (some adp0), .int .i64 a1] w fun e w' => e = .returned (.bool r) ∧ Drawn0 w w' := by
 have HRp0 := Aside0.mk hp0
 clear hp0
 have H : ((spec_l00Has.f k l0_1 a1).bind fun t125 => (if t125 = true then (some true) else ((spec_l00Has.f k l0_2 a1).bind fun t126 => (some t126)))) = some r := h
 clear h
 replace H := Option.bind_eq_some_iff.mp H
 obtain ⟨t125, A30, H⟩ := H
 replace H : (if t125 = true then (some true) else ((spec_l00Has.f k l0_2 a1).bind fun t126 => (some t126))) = some r := H
 have A3 := Aside0.mk A30
 clear A30
 by_cases c4 : t125 = true
 ·subst c4
  have H1 : (some true) = some r := by rw [if_pos rfl] at H; exact H
  clear H
  have H := H1
  clear H1
  obtain rfl := Option.some.inj H
  have p124 : 0 ≤ (0 : Int) := (by omega)
  have q124 : 0 < ([(⟨a0_0, l0_1, l0_2, a0_3, a0_4, l0_5⟩ : S58)].length : Int) := (by simp)
  obtain ⟨ad124, A124_1, c124_1, A124_2, c124_2, A124_5, c124_5, e124, hx124_0, hx124_1, hx124_2, hx124_3, hx124_4, hx124_5, hl124_1, hi124_1, hl124_2, hi124_2, hl124_5, hi124_5⟩ := at_T58 HRp0.out 0 p124 q124
  replace hx124_0 : _ = (some (.string a0_0) : Option Value) := hx124_0
  replace hx124_1 : _ = (some (.slice A124_1 l0_1.length c124_1) : Option Value) := hx124_1
  replace hi124_1 : Kd.C (Kd.int .i64) _ _ l0_1.length l0_1 := hi124_1
  replace hl124_1 : l0_1.length ≤ _ := hl124_1
  replace hx124_2 : _ = (some (.slice A124_2 l0_2.length c124_2) : Option Value) := hx124_2
  replace hi124_2 : Kd.C (Kd.int .i64) _ _ l0_2.length l0_2 := hi124_2
  replace hl124_2 : l0_2.length ≤ _ := hl124_2
  replace hx124_3 : _ = (some (.int .i64 a0_3) : Option Value) := hx124_3
  replace hx124_4 : _ = (some (.int .i64 a0_4) : Option Value) := hx124_4
  replace hx124_5 : _ = (some (.slice A124_5 l0_5.length c124_5) : Option Value) := hx124_5
  replace hi124_5 : Kd.C (Kd.slice 2 (Kd.int .i64)) _ _ l0_5.length l0_5 := hi124_5
  replace hl124_5 : l0_5.length ≤ _ := hl124_5
  obtain rfl : adp0 = ad124 := (by injection e124)
  have qi124 : (0 < [(⟨a0_0, l0_1, l0_2, a0_3, a0_4, l0_5⟩ : S58)].length) = True := eq_true (by simp)
  (try rw [show ((0 : Int)).toNat = 0 from rfl] at hx124_0)
  (try rw [show 0 * 6 = 0 from rfl] at hx124_0)
  (try rw [Addr.add_zero'] at hx124_0)
  (try rw [show ((0 : Int)).toNat = 0 from rfl] at hx124_1)
  (try rw [show 0 * 6 = 0 from rfl] at hx124_1)
  (try rw [Addr.add_zero'] at hx124_1)
  (try rw [show ((0 : Int)).toNat = 0 from rfl] at hx124_2)
  (try rw [show 0 * 6 = 0 from rfl] at hx124_2)
  (try rw [Addr.add_zero'] at hx124_2)
  (try rw [show ((0 : Int)).toNat = 0 from rfl] at hx124_3)
  (try rw [show 0 * 6 = 0 from rfl] at hx124_3)
  (try rw [Addr.add_zero'] at hx124_3)
  (try rw [show ((0 : Int)).toNat = 0 from rfl] at hx124_4)
  (try rw [show 0 * 6 = 0 from rfl] at hx124_4)
  (try rw [Addr.add_zero'] at hx124_4)
  (try rw [show ((0 : Int)).toNat = 0 from rfl] at hx124_5)
  (try rw [show 0 * 6 = 0 from rfl] at hx124_5)
  (try rw [Addr.add_zero'] at hx124_5)
  have HR124_1 := Aside0.mk hi124_1
  have HC124_1 := Aside0.mk hl124_1
  clear hi124_1 hl124_1
  have HR124_2 := Aside0.mk hi124_2
  have HC124_2 := Aside0.mk hl124_2
  clear hi124_2 hl124_2
  have HR124_5 := Aside0.mk hi124_5
  have HC124_5 := Aside0.mk hl124_5
  clear hi124_5 hl124_5
  replace p124 := eq_true p124
  replace q124 := eq_true q124
  go_enter Try.func111, Try.ntmps111
  go_wp2_with (first | ((with_reducible refine gC (f := 80) rfl ?_); refine goesL_ (some 10) rfl rfl Try.func80 (by kernel_rfl) rfl #[.slice A124_1 l0_1.length c124_1, .int .i64 a1] rfl (by (try simp only [List.map_toArray, List.map_cons, List.map_nil]); first | done | rfl | (simp only [List.length_drop, List.length_take]; rfl)) ?_; (with_reducible refine (spec_l00Has.calls k _ _ l0_1 a1 true _ ?side1 ?side2 A3.out).mono ?_); (case side1 => repeat (first | exact HR124_1.out | (with_reducible refine cA ?_ _) | (with_reducible refine cN ?_ _) | (with_reducible refine cD ?_))); (case side2 => exact HC124_1.out); rintro e w' ⟨rfl, ⟨nd, rfl⟩⟩; refine ⟨_, rfl, ?_⟩))
  go_ret
  exact ⟨by first | rfl | (simp; done) | (simp [*]; done), by repeat (first | exact Drawn0.refl _ | apply Drawn0.step)⟩
 ·replace c4 := Bool.eq_false_iff.mpr c4
  subst c4
  have H1 : ((spec_l00Has.f k l0_2 a1).bind fun t126 => (some t126)) = some r := by rw [if_neg (show ¬ (false = true) by decide)] at H; exact H
  clear H
  have H := H1
  clear H1
  replace H := Option.bind_eq_some_iff.mp H
  obtain ⟨t126, A50, H⟩ := H
  replace H : (some t126) = some r := H
  have A5 := Aside0.mk A50
  clear A50
  obtain rfl := Option.some.inj H
  have p124 : 0 ≤ (0 : Int) := (by omega)
  have q124 : 0 < ([(⟨a0_0, l0_1, l0_2, a0_3, a0_4, l0_5⟩ : S58)].length : Int) := (by simp)
  obtain ⟨ad124, A124_1, c124_1, A124_2, c124_2, A124_5, c124_5, e124, hx124_0, hx124_1, hx124_2, hx124_3, hx124_4, hx124_5, hl124_1, hi124_1, hl124_2, hi124_2, hl124_5, hi124_5⟩ := at_T58 HRp0.out 0 p124 q124
  replace hx124_0 : _ = (some (.string a0_0) : Option Value) := hx124_0
  replace hx124_1 : _ = (some (.slice A124_1 l0_1.length c124_1) : Option Value) := hx124_1
  replace hi124_1 : Kd.C (Kd.int .i64) _ _ l0_1.length l0_1 := hi124_1
  replace hl124_1 : l0_1.length ≤ _ := hl124_1
  replace hx124_2 : _ = (some (.slice A124_2 l0_2.length c124_2) : Option Value) := hx124_2
  replace hi124_2 : Kd.C (Kd.int .i64) _ _ l0_2.length l0_2 := hi124_2
  replace hl124_2 : l0_2.length ≤ _ := hl124_2
  replace hx124_3 : _ = (some (.int .i64 a0_3) : Option Value) := hx124_3
  replace hx124_4 : _ = (some (.int .i64 a0_4) : Option Value) := hx124_4
  replace hx124_5 : _ = (some (.slice A124_5 l0_5.length c124_5) : Option Value) := hx124_5
  replace hi124_5 : Kd.C (Kd.slice 2 (Kd.int .i64)) _ _ l0_5.length l0_5 := hi124_5
  replace hl124_5 : l0_5.length ≤ _ := hl124_5
  obtain rfl : adp0 = ad124 := (by injection e124)
  have qi124 : (0 < [(⟨a0_0, l0_1, l0_2, a0_3, a0_4, l0_5⟩ : S58)].length) = True := eq_true (by simp)
  (try rw [show ((0 : Int)).toNat = 0 from rfl] at hx124_0)
  (try rw [show 0 * 6 = 0 from rfl] at hx124_0)
  (try rw [Addr.add_zero'] at hx124_0)
  (try rw [show ((0 : Int)).toNat = 0 from rfl] at hx124_1)
  (try rw [show 0 * 6 = 0 from rfl] at hx124_1)
  (try rw [Addr.add_zero'] at hx124_1)
  (try rw [show ((0 : Int)).toNat = 0 from rfl] at hx124_2)
  (try rw [show 0 * 6 = 0 from rfl] at hx124_2)
  (try rw [Addr.add_zero'] at hx124_2)
  (try rw [show ((0 : Int)).toNat = 0 from rfl] at hx124_3)
  (try rw [show 0 * 6 = 0 from rfl] at hx124_3)
  (try rw [Addr.add_zero'] at hx124_3)
  (try rw [show ((0 : Int)).toNat = 0 from rfl] at hx124_4)
  (try rw [show 0 * 6 = 0 from rfl] at hx124_4)
  (try rw [Addr.add_zero'] at hx124_4)
  (try rw [show ((0 : Int)).toNat = 0 from rfl] at hx124_5)
  (try rw [show 0 * 6 = 0 from rfl] at hx124_5)
  (try rw [Addr.add_zero'] at hx124_5)
  have HR124_1 := Aside0.mk hi124_1
  have HC124_1 := Aside0.mk hl124_1
  clear hi124_1 hl124_1
  have HR124_2 := Aside0.mk hi124_2
  have HC124_2 := Aside0.mk hl124_2
  clear hi124_2 hl124_2
  have HR124_5 := Aside0.mk hi124_5
  have HC124_5 := Aside0.mk hl124_5
  clear hi124_5 hl124_5
  replace p124 := eq_true p124
  replace q124 := eq_true q124
  go_enter Try.func111, Try.ntmps111
  go_wp2_with (first | ((with_reducible refine gC (f := 80) rfl ?_); refine goesL_ (some 10) rfl rfl Try.func80 (by kernel_rfl) rfl #[.slice A124_1 l0_1.length c124_1, .int .i64 a1] rfl (by (try simp only [List.map_toArray, List.map_cons, List.map_nil]); first | done | rfl | (simp only [List.length_drop, List.length_take]; rfl)) ?_; (with_reducible refine (spec_l00Has.calls k _ _ l0_1 a1 false _ ?side1 ?side2 A3.out).mono ?_); (case side1 => repeat (first | exact HR124_1.out | (with_reducible refine cA ?_ _) | (with_reducible refine cN ?_ _) | (with_reducible refine cD ?_))); (case side2 => exact HC124_1.out); rintro e w' ⟨rfl, ⟨nd, rfl⟩⟩; refine ⟨_, rfl, ?_⟩) | (go_at_call 80; (with_reducible refine (spec_l00Has.calls k _ _ l0_2 a1 t126 _ ?side1 ?side2 A5.out).mono ?_); (case side1 => repeat (first | exact HR124_2.out | (with_reducible refine cA ?_ _) | (with_reducible refine cN ?_ _) | (with_reducible refine cD ?_))); (case side2 => exact HC124_2.out); rintro e w' ⟨rfl, ⟨nd, rfl⟩⟩))
  go_ret
  exact ⟨by first | rfl | (simp; done) | (simp [*]; done), by repeat (first | exact Drawn0.refl _ | apply Drawn0.step)⟩

end Go.Proofs.Ytijbhcalknfijaa.M6
-- shrunk
-- tight
