/- What functions of the given program compute, as plain Lean functions, and that the code comes to just that; by a program of this session over the kit's print. No condition. -/
import Derived.Test.YtbebcnnibjkclaaDoorRx0
namespace Go.Proofs.YtbebcnnibjkclaaDoor.R
open Go.RowKit Go.Proofs.YtbebcnnibjkclaaDoorW.PrintWords Go.Proofs.YtbebcnnibjkclaaDoorW.PrintLast Go.Proofs.YtbebcnnibjkclaaDoorW.PrintMore
open Go.Proofs.YtbebcnnibjkclaaDoorW.PrintWords renaming gate_callee → gC
open Go.Proofs.YtbebcnnibjkclaaDoorW.PrintWords.Kd renaming C_alloc → cA, C_drewN → cN, C_drew → cD
attribute [local go_sem] max2_int min2_int max_two min_two max_three min_three max_four min_four   -- for this text's walks alone
set_option linter.unusedVariables false
set_option linter.unusedSimpArgs false

/-! ### spec_l00Has: function 48 -/
def spec_l00Has.l0 : Nat → List Int → Int → Int → Option (Bool)
 | 0, _, _, _ => none
 | k + 1, x0, x1, x5 => if x5 < (x0.length : Int) then (if 0 ≤ x5 then (if (rd x0 x5) = x1 then (some true) else (spec_l00Has.l0 k x0 x1 (wrap64 (x5 + 1)))) else (none)) else (some false)
def spec_l00Has.f (k : Nat) (l0 : List Int) (a1 : Int) : Option (Bool) := spec_l00Has.l0 k l0 a1 0
theorem spec_l00Has.mono_l : ∀ k, (∀ y0 y1 y2, LeO (spec_l00Has.l0 k y0 y1 y2) (spec_l00Has.l0 (k + 1) y0 y1 y2))
 | 0 => fun _ _ _ r h => by simp [spec_l00Has.l0] at h
 | k + 1 => by
  have ih0 := spec_l00Has.mono_l k
  ·intro y0 y1 y2
   unfold spec_l00Has.l0
   repeat' first
   | (with_reducible exact ih0 _ _ _)
   | (with_reducible exact LeO.refl _)
   | (with_reducible exact LeO.none _)
   | (with_reducible refine LeO.ite ?_ ?_)
   | (with_reducible refine LeO.bind ?_ (fun _ => ?_))
   | exact ih0 _ _ _
   | exact LeO.none _
   | refine LeO.ite ?_ ?_
   | refine LeO.bind ?_ (fun _ => ?_)
theorem spec_l00Has.mono : ∀ a0 a1 k, LeO (spec_l00Has.f k a0 a1) (spec_l00Has.f (k + 1) a0 a1) := by
 intro a0 a1 k
 have ih0 := spec_l00Has.mono_l k
 unfold spec_l00Has.f
 repeat' first
   | (with_reducible exact ih0 _ _ _)
   | (with_reducible exact LeO.refl _)
   | (with_reducible exact LeO.none _)
   | (with_reducible refine LeO.ite ?_ ?_)
   | (with_reducible refine LeO.bind ?_ (fun _ => ?_))
   | exact ih0 _ _ _
   | exact LeO.none _
   | refine LeO.ite ?_ ?_
   | refine LeO.bind ?_ (fun _ => ?_)
set_option maxHeartbeats 8000000 in
set_option maxRecDepth 100000 in
theorem spec_l00Has.calls (k : Nat) (A0 : Option Addr) (c0 : Nat) (l0 : List Int) (a1 : Int) (r : Bool) (w : World) (hr0 : Kd.C (Kd.int .i64) w A0 l0.length l0) (hc0 : l0.length ≤ c0) (h : spec_l00Has.f k l0 a1 = some r) :
  Calls Tryd.prog 48 #[.slice A0 l0.length c0, .int .i64 a1] w fun e w' => e = .returned (.bool r) ∧ Drawn0 w w' := by
 have HR0 := Aside0.mk hr0
 have HC0 := Aside0.mk hc0
 clear hr0 hc0
 have H : (spec_l00Has.l0 k l0 a1 0) = some r := h
 clear h
 have H' := Aside0.mk H
 clear H
 go_enter Tryd.func48, Tryd.ntmps48
 go_wp2
 go_loopg [5] k (fun kq v5 w' => ∃ (x5_1 : Int), v5 = .int .i64 x5_1 ∧ Aside0 (spec_l00Has.l0 kq l0 a1 x5_1 = some r) ∧ Aside0 (kq ≤ k) ∧ Drawn0 w w')
 case atStart => exact ⟨(0), (by first | rfl | (simp; done) | (simp [*]; done)), H', ⟨Nat.le_refl _⟩, by repeat (first | exact Drawn0.refl _ | apply Drawn0.step)⟩
 case round =>
  clear H'
  try clear p2
  obtain ⟨x5_1, rfl, HA, HK1, ⟨m1, rfl⟩⟩ := hrel
  cases gk with
  | zero => exact absurd HA.out (by simp [spec_l00Has.l0])
  | succ k1 =>
   have H := HA.out
   clear HA
   simp only [spec_l00Has.l0] at H
   by_cases c3 : x5_1 < (l0.length : Int)
   ·rw [if_pos c3] at H
    have c3b0 : decide (x5_1 < (l0.length : Int)) = true := decide_eq_true c3
    clear c3
    by_cases c4 : 0 ≤ x5_1
    ·rw [if_pos c4] at H
     have c4b0 : decide (0 ≤ x5_1) = true := decide_eq_true c4
     clear c4
     by_cases c5 : (rd l0 x5_1) = a1
     ·rw [if_pos c5] at H
      have c5b0 : ((rd l0 x5_1) == a1) = true := beq_iff_eq.mpr c5
      have c5b1 : ((rd l0 x5_1) != a1) = false := bne_eq_false_iff_eq.mpr c5
      clear c5
      obtain rfl := Option.some.inj H
      have p135 : 0 ≤ (x5_1 : Int) := of_decide_eq_true (by first | (with_reducible assumption) | assumption)
      have q135 : x5_1 < (l0.length : Int) := of_decide_eq_true (by first | (with_reducible assumption) | assumption)
      obtain ⟨ad135, e135, hx135_0⟩ := Kd.at_int HR0.out x5_1 p135 q135
      cases e135
      replace p135 := eq_true p135
      replace q135 := eq_true q135
      go_wp2
      go_ret
      exact ⟨by first | rfl | (simp; done) | (simp [*]; done), by repeat (first | exact Drawn0.refl _ | apply Drawn0.step)⟩
     ·rw [if_neg c5] at H
      have c5b0 : ((rd l0 x5_1) == a1) = false := beq_eq_false_iff_ne.mpr c5
      have c5b1 : ((rd l0 x5_1) != a1) = true := bne_iff_ne.mpr c5
      have H' := Aside0.mk H
      clear H
      have p135 : 0 ≤ (x5_1 : Int) := of_decide_eq_true (by first | (with_reducible assumption) | assumption)
      have q135 : x5_1 < (l0.length : Int) := of_decide_eq_true (by first | (with_reducible assumption) | assumption)
      obtain ⟨ad135, e135, hx135_0⟩ := Kd.at_int HR0.out x5_1 p135 q135
      cases e135
      replace p135 := eq_true p135
      replace q135 := eq_true q135
      go_wp2
      go_roundg k1
      case measure => have := HK1.out; omega
      case rel => exact ⟨(wrap64 (x5_1 + 1)), (by first | rfl | (simp; done) | (simp [*]; done)), H', ⟨by have := HK1.out; omega⟩, by repeat (first | exact Drawn0.refl _ | apply Drawn0.step)⟩
    ·rw [if_neg c4] at H
     exact absurd H (by simp)
   ·rw [if_neg c3] at H
    have c3b0 : decide (x5_1 < (l0.length : Int)) = false := decide_eq_false c3
    clear c3
    obtain rfl := Option.some.inj H
    go_wp2
    go_ret
    exact ⟨by first | rfl | (simp; done) | (simp [*]; done), by repeat (first | exact Drawn0.refl _ | apply Drawn0.step)⟩

/-! ### spec_l05Tone: function 34 -/
def spec_l05Tone.f (k : Nat) (a0_0 : ByteArray) (l0_1 : List Int) (l0_2 : List Int) (a0_3 : Int) (a0_4 : Int) (l0_5 : List (List Int)) (a1 : Int) : Option (Bool) := (spec_l00Has.f k l0_1 a1).bind fun t137 => (if t137 = true then (some true) else ((spec_l00Has.f k l0_2 a1).bind fun t138 => (some t138)))
theorem spec_l05Tone.mono : ∀ a0 a1 a2 a3 a4 a5 a6 k, LeO (spec_l05Tone.f k a0 a1 a2 a3 a4 a5 a6) (spec_l05Tone.f (k + 1) a0 a1 a2 a3 a4 a5 a6) := by
 intro a0 a1 a2 a3 a4 a5 a6 k
 unfold spec_l05Tone.f
 repeat' first
   | (with_reducible exact spec_l00Has.mono _ _ _)
   | (with_reducible exact LeO.refl _)
   | (with_reducible exact LeO.none _)
   | (with_reducible refine LeO.ite ?_ ?_)
   | (with_reducible refine LeO.bind ?_ (fun _ => ?_))
   | exact spec_l00Has.mono _ _ _
   | exact LeO.none _
   | refine LeO.ite ?_ ?_
   | refine LeO.bind ?_ (fun _ => ?_)
set_option maxHeartbeats 8000000 in
set_option maxRecDepth 100000 in
theorem spec_l05Tone.calls (k : Nat) (adp0 : Addr) (a0_0 : ByteArray) (l0_1 : List Int) (l0_2 : List Int) (a0_3 : Int) (a0_4 : Int) (l0_5 : List (List Int)) (a1 : Int) (r : Bool) (w : World) (hp0 : Kd.C k25 w (some adp0) 1 [(⟨a0_0, l0_1, l0_2, a0_3, a0_4, l0_5⟩ : S25)]) (h : spec_l05Tone.f k a0_0 l0_1 l0_2 a0_3 a0_4 l0_5 a1 = some r) :
  Calls Tryd.prog 34 #[.pointer (some adp0), .int .i64 a1] w fun e w' => e = .returned (.bool r) ∧ Drawn0 w w' := by
 have HRp0 := Aside0.mk hp0
 clear hp0
 have H : ((spec_l00Has.f k l0_1 a1).bind fun t137 => (if t137 = true then (some true) else ((spec_l00Has.f k l0_2 a1).bind fun t138 => (some t138)))) = some r := h
 clear h
 replace H := Option.bind_eq_some_iff.mp H
 obtain ⟨t137, A30, H⟩ := H
 replace H : (if t137 = true then (some true) else ((spec_l00Has.f k l0_2 a1).bind fun t138 => (some t138))) = some r := H
 have A3 := Aside0.mk A30
 clear A30
 by_cases c4 : t137 = true
 ·subst c4
  have H1 : (some true) = some r := by rw [if_pos rfl] at H; exact H
  clear H
  have H := H1
  clear H1
  obtain rfl := Option.some.inj H
  have p136 : 0 ≤ (0 : Int) := (by omega)
  have q136 : 0 < ([(⟨a0_0, l0_1, l0_2, a0_3, a0_4, l0_5⟩ : S25)].length : Int) := (by simp)
  obtain ⟨ad136, A136_1, c136_1, A136_2, c136_2, A136_5, c136_5, e136, hx136_0, hx136_1, hx136_2, hx136_3, hx136_4, hx136_5, hl136_1, hi136_1, hl136_2, hi136_2, hl136_5, hi136_5⟩ := at_T25 HRp0.out 0 p136 q136
  replace hx136_0 : _ = (some (.string a0_0) : Option Value) := hx136_0
  replace hx136_1 : _ = (some (.slice A136_1 l0_1.length c136_1) : Option Value) := hx136_1
  replace hi136_1 : Kd.C (Kd.int .i64) _ _ l0_1.length l0_1 := hi136_1
  replace hl136_1 : l0_1.length ≤ _ := hl136_1
  replace hx136_2 : _ = (some (.slice A136_2 l0_2.length c136_2) : Option Value) := hx136_2
  replace hi136_2 : Kd.C (Kd.int .i64) _ _ l0_2.length l0_2 := hi136_2
  replace hl136_2 : l0_2.length ≤ _ := hl136_2
  replace hx136_3 : _ = (some (.int .i64 a0_3) : Option Value) := hx136_3
  replace hx136_4 : _ = (some (.int .i64 a0_4) : Option Value) := hx136_4
  replace hx136_5 : _ = (some (.slice A136_5 l0_5.length c136_5) : Option Value) := hx136_5
  replace hi136_5 : Kd.C (Kd.slice 2 (Kd.int .i64)) _ _ l0_5.length l0_5 := hi136_5
  replace hl136_5 : l0_5.length ≤ _ := hl136_5
  obtain rfl : adp0 = ad136 := (by injection e136)
  have qi136 : (0 < [(⟨a0_0, l0_1, l0_2, a0_3, a0_4, l0_5⟩ : S25)].length) = True := eq_true (by simp)
  (try rw [show ((0 : Int)).toNat = 0 from rfl] at hx136_0)
  (try rw [show 0 * 6 = 0 from rfl] at hx136_0)
  (try rw [Addr.add_zero'] at hx136_0)
  (try rw [show ((0 : Int)).toNat = 0 from rfl] at hx136_1)
  (try rw [show 0 * 6 = 0 from rfl] at hx136_1)
  (try rw [Addr.add_zero'] at hx136_1)
  (try rw [show ((0 : Int)).toNat = 0 from rfl] at hx136_2)
  (try rw [show 0 * 6 = 0 from rfl] at hx136_2)
  (try rw [Addr.add_zero'] at hx136_2)
  (try rw [show ((0 : Int)).toNat = 0 from rfl] at hx136_3)
  (try rw [show 0 * 6 = 0 from rfl] at hx136_3)
  (try rw [Addr.add_zero'] at hx136_3)
  (try rw [show ((0 : Int)).toNat = 0 from rfl] at hx136_4)
  (try rw [show 0 * 6 = 0 from rfl] at hx136_4)
  (try rw [Addr.add_zero'] at hx136_4)
  (try rw [show ((0 : Int)).toNat = 0 from rfl] at hx136_5)
  (try rw [show 0 * 6 = 0 from rfl] at hx136_5)
  (try rw [Addr.add_zero'] at hx136_5)
  have HR136_1 := Aside0.mk hi136_1
  have HC136_1 := Aside0.mk hl136_1
  clear hi136_1 hl136_1
  have HR136_2 := Aside0.mk hi136_2
  have HC136_2 := Aside0.mk hl136_2
  clear hi136_2 hl136_2
  have HR136_5 := Aside0.mk hi136_5
  have HC136_5 := Aside0.mk hl136_5
  clear hi136_5 hl136_5
  replace p136 := eq_true p136
  replace q136 := eq_true q136
  go_enter Tryd.func34, Tryd.ntmps34
  go_wp2_with (first | ((with_reducible refine gC (f := 48) rfl ?_); refine goesL_ (some 10) rfl rfl Tryd.func48 (by kernel_rfl) rfl #[.slice A136_1 l0_1.length c136_1, .int .i64 a1] rfl (by (try simp only [List.map_toArray, List.map_cons, List.map_nil]); first | done | rfl | (simp only [List.length_drop, List.length_take]; rfl)) ?_; (with_reducible refine (spec_l00Has.calls k _ _ l0_1 a1 true _ ?side1 ?side2 A3.out).mono ?_); (case side1 => repeat (first | exact HR136_1.out | (with_reducible refine cA ?_ _) | (with_reducible refine cN ?_ _) | (with_reducible refine cD ?_))); (case side2 => exact HC136_1.out); rintro e w' ⟨rfl, ⟨nd, rfl⟩⟩; refine ⟨_, rfl, ?_⟩))
  go_ret
  exact ⟨by first | rfl | (simp; done) | (simp [*]; done), by repeat (first | exact Drawn0.refl _ | apply Drawn0.step)⟩
 ·replace c4 := Bool.eq_false_iff.mpr c4
  subst c4
  have H1 : ((spec_l00Has.f k l0_2 a1).bind fun t138 => (some t138)) = some r := by rw [if_neg (show ¬ (false = true) by decide)] at H; exact H
  clear H
  have H := H1
  clear H1
  replace H := Option.bind_eq_some_iff.mp H
  obtain ⟨t138, A50, H⟩ := H
  replace H : (some t138) = some r := H
  have A5 := Aside0.mk A50
  clear A50
  obtain rfl := Option.some.inj H
  have p136 : 0 ≤ (0 : Int) := (by omega)
  have q136 : 0 < ([(⟨a0_0, l0_1, l0_2, a0_3, a0_4, l0_5⟩ : S25)].length : Int) := (by simp)
  obtain ⟨ad136, A136_1, c136_1, A136_2, c136_2, A136_5, c136_5, e136, hx136_0, hx136_1, hx136_2, hx136_3, hx136_4, hx136_5, hl136_1, hi136_1, hl136_2, hi136_2, hl136_5, hi136_5⟩ := at_T25 HRp0.out 0 p136 q136
  replace hx136_0 : _ = (some (.string a0_0) : Option Value) := hx136_0
  replace hx136_1 : _ = (some (.slice A136_1 l0_1.length c136_1) : Option Value) := hx136_1
  replace hi136_1 : Kd.C (Kd.int .i64) _ _ l0_1.length l0_1 := hi136_1
  replace hl136_1 : l0_1.length ≤ _ := hl136_1
  replace hx136_2 : _ = (some (.slice A136_2 l0_2.length c136_2) : Option Value) := hx136_2
  replace hi136_2 : Kd.C (Kd.int .i64) _ _ l0_2.length l0_2 := hi136_2
  replace hl136_2 : l0_2.length ≤ _ := hl136_2
  replace hx136_3 : _ = (some (.int .i64 a0_3) : Option Value) := hx136_3
  replace hx136_4 : _ = (some (.int .i64 a0_4) : Option Value) := hx136_4
  replace hx136_5 : _ = (some (.slice A136_5 l0_5.length c136_5) : Option Value) := hx136_5
  replace hi136_5 : Kd.C (Kd.slice 2 (Kd.int .i64)) _ _ l0_5.length l0_5 := hi136_5
  replace hl136_5 : l0_5.length ≤ _ := hl136_5
  obtain rfl : adp0 = ad136 := (by injection e136)
  have qi136 : (0 < [(⟨a0_0, l0_1, l0_2, a0_3, a0_4, l0_5⟩ : S25)].length) = True := eq_true (by simp)
  (try rw [show ((0 : Int)).toNat = 0 from rfl] at hx136_0)
  (try rw [show 0 * 6 = 0 from rfl] at hx136_0)
  (try rw [Addr.add_zero'] at hx136_0)
  (try rw [show ((0 : Int)).toNat = 0 from rfl] at hx136_1)
  (try rw [show 0 * 6 = 0 from rfl] at hx136_1)
  (try rw [Addr.add_zero'] at hx136_1)
  (try rw [show ((0 : Int)).toNat = 0 from rfl] at hx136_2)
  (try rw [show 0 * 6 = 0 from rfl] at hx136_2)
  (try rw [Addr.add_zero'] at hx136_2)
  (try rw [show ((0 : Int)).toNat = 0 from rfl] at hx136_3)
  (try rw [show 0 * 6 = 0 from rfl] at hx136_3)
  (try rw [Addr.add_zero'] at hx136_3)
  (try rw [show ((0 : Int)).toNat = 0 from rfl] at hx136_4)
  (try rw [show 0 * 6 = 0 from rfl] at hx136_4)
  (try rw [Addr.add_zero'] at hx136_4)
  (try rw [show ((0 : Int)).toNat = 0 from rfl] at hx136_5)
  (try rw [show 0 * 6 = 0 from rfl] at hx136_5)
  (try rw [Addr.add_zero'] at hx136_5)
  have HR136_1 := Aside0.mk hi136_1
  have HC136_1 := Aside0.mk hl136_1
  clear hi136_1 hl136_1
  have HR136_2 := Aside0.mk hi136_2
  have HC136_2 := Aside0.mk hl136_2
  clear hi136_2 hl136_2
  have HR136_5 := Aside0.mk hi136_5
  have HC136_5 := Aside0.mk hl136_5
  clear hi136_5 hl136_5
  replace p136 := eq_true p136
  replace q136 := eq_true q136
  go_enter Tryd.func34, Tryd.ntmps34
  go_wp2_with (first | ((with_reducible refine gC (f := 48) rfl ?_); refine goesL_ (some 10) rfl rfl Tryd.func48 (by kernel_rfl) rfl #[.slice A136_1 l0_1.length c136_1, .int .i64 a1] rfl (by (try simp only [List.map_toArray, List.map_cons, List.map_nil]); first | done | rfl | (simp only [List.length_drop, List.length_take]; rfl)) ?_; (with_reducible refine (spec_l00Has.calls k _ _ l0_1 a1 false _ ?side1 ?side2 A3.out).mono ?_); (case side1 => repeat (first | exact HR136_1.out | (with_reducible refine cA ?_ _) | (with_reducible refine cN ?_ _) | (with_reducible refine cD ?_))); (case side2 => exact HC136_1.out); rintro e w' ⟨rfl, ⟨nd, rfl⟩⟩; refine ⟨_, rfl, ?_⟩) | (go_at_call 48; (with_reducible refine (spec_l00Has.calls k _ _ l0_2 a1 t138 _ ?side1 ?side2 A5.out).mono ?_); (case side1 => repeat (first | exact HR136_2.out | (with_reducible refine cA ?_ _) | (with_reducible refine cN ?_ _) | (with_reducible refine cD ?_))); (case side2 => exact HC136_2.out); rintro e w' ⟨rfl, ⟨nd, rfl⟩⟩))
  go_ret
  exact ⟨by first | rfl | (simp; done) | (simp [*]; done), by repeat (first | exact Drawn0.refl _ | apply Drawn0.step)⟩

end Go.Proofs.YtbebcnnibjkclaaDoor.R
-- shrunk
-- tight
