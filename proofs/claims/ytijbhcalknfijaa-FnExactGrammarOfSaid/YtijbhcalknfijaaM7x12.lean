/- What functions of the given program compute, as plain Lean functions, and that the code comes to just that; by a program of this session over the kit's print. No condition. -/
import Derived.Test.YtijbhcalknfijaaM7x0
import Derived.Test.YtijbhcalknfijaaTight
import Derived.Test.YtijbhcalknfijaaM7x7
namespace Go.Proofs.Ytijbhcalknfijaa.M7
open Go.RowKit Go.Proofs.YtijbhcalknfijaaW.PrintWords Go.Proofs.YtijbhcalknfijaaW.PrintLast Go.Proofs.YtijbhcalknfijaaW.PrintMore
open Go.Proofs.YtijbhcalknfijaaW.PrintWords renaming gate_callee → gC
open Go.Proofs.YtijbhcalknfijaaW.PrintLast renaming i64_w → iW, i32_w → jW
open Go.Proofs.YtijbhcalknfijaaW.PrintWords.Kd renaming C_alloc → cA, C_drewN → cN, C_drew → cD
open List renaming setIfInBounds_toArray → sI, set_cons_zero → sZ, set_cons_succ → sS
attribute [local go_sem] max2_int min2_int max_two min_two max_three min_three max_four min_four   -- for this text's walks alone
set_option linter.unusedVariables false
set_option linter.unusedSimpArgs false

/-! ### spec_l01Small: function 128 -/
def spec_l01Small.f (a0 : Int) : Option (Bool) := if a0 ≥ 97 then (some (decide (a0 ≤ 122))) else (some false)
set_option maxHeartbeats 8000000 in
set_option maxRecDepth 100000 in
theorem spec_l01Small.calls (a0 : Int) (r : Bool) (w : World) (h : spec_l01Small.f a0 = some r) :
  Calls Try.prog 128 #[.int .u8 a0] w fun e w' => e = .returned (.bool r) ∧ Drawn0 w w' := by
 have H : (if a0 ≥ 97 then (some (decide (a0 ≤ 122))) else (some false)) = some r := h
 clear h
 by_cases c2 : a0 ≥ 97
 ·rw [if_pos c2] at H
  have c2b0 : decide (97 ≤ a0) = true := decide_eq_true c2
  clear c2
  obtain rfl := Option.some.inj H
  go_enter Try.func128, Try.ntmps128
  go_wp2
  go_ret
  exact ⟨eT, dR⟩
 ·rw [if_neg c2] at H
  have c2b0 : decide (97 ≤ a0) = false := decide_eq_false c2
  clear c2
  obtain rfl := Option.some.inj H
  go_enter Try.func128, Try.ntmps128
  go_wp2
  go_ret
  exact ⟨eT, dR⟩

/-! ### spec_l01Digit: function 129 -/
def spec_l01Digit.f (a0 : Int) : Option (Bool) := if a0 ≥ 48 then (some (decide (a0 ≤ 57))) else (some false)
set_option maxHeartbeats 8000000 in
set_option maxRecDepth 100000 in
theorem spec_l01Digit.calls (a0 : Int) (r : Bool) (w : World) (h : spec_l01Digit.f a0 = some r) :
  Calls Try.prog 129 #[.int .u8 a0] w fun e w' => e = .returned (.bool r) ∧ Drawn0 w w' := by
 have H : (if a0 ≥ 48 then (some (decide (a0 ≤ 57))) else (some false)) = some r := h
 clear h
 by_cases c2 : a0 ≥ 48
 ·rw [if_pos c2] at H
  have c2b0 : decide (48 ≤ a0) = true := decide_eq_true c2
  clear c2
  obtain rfl := Option.some.inj H
  go_enter Try.func129, Try.ntmps129
  go_wp2
  go_ret
  exact ⟨eT, dR⟩
 ·rw [if_neg c2] at H
  have c2b0 : decide (48 ≤ a0) = false := decide_eq_false c2
  clear c2
  obtain rfl := Option.some.inj H
  go_enter Try.func129, Try.ntmps129
  go_wp2
  go_ret
  exact ⟨eT, dR⟩


/-! ### spec_l01Name: function 109 -/
mutual
def spec_l01Name.j0 : Nat → ByteArray → Bool → Option (Bool)
 | 0, _, _ => none
 | k + 1, x0, x16 => if x16 = true then (some false) else (spec_l01Name.l0 k x0 0)
def spec_l01Name.l0 : Nat → ByteArray → Int → Option (Bool)
 | 0, _, _ => none
 | k + 1, x0, x3 => if x3 < (x0.size : Int) then (if 0 ≤ x3 then ((spec_l01Small.f (bt x0 x3)).bind fun t187 => (if t187 = true then (spec_l01Name.l0 k x0 (wrap64 (x3 + 1))) else ((spec_l01Digit.f (bt x0 x3)).bind fun t188 => (if t188 = true then (spec_l01Name.l0 k x0 (wrap64 (x3 + 1))) else (some false))))) else (none)) else (some true)
end
def spec_l01Name.f (k : Nat) (a0 : ByteArray) : Option (Bool) := if a0.toList = ([] : List UInt8) then (spec_l01Name.j0 k a0 true) else (if (a0.size : Int) > 10 then (spec_l01Name.j0 k a0 true) else (if 0 < (a0.size : Int) then ((spec_l01Small.f (bt a0 0)).bind fun t186 => (spec_l01Name.j0 k a0 (!t186))) else (none)))
theorem spec_l01Name.mono_l : ∀ k, (∀ y0 y1, LeO (spec_l01Name.j0 k y0 y1) (spec_l01Name.j0 (k + 1) y0 y1)) ∧ (∀ y0 y1, LeO (spec_l01Name.l0 k y0 y1) (spec_l01Name.l0 (k + 1) y0 y1))
 | 0 => ⟨fun _ _ r h => by simp [spec_l01Name.j0] at h, fun _ _ r h => by simp [spec_l01Name.l0] at h⟩
 | k + 1 => by
  obtain ⟨ih0, ih1⟩ := spec_l01Name.mono_l k
  refine ⟨?_, ?_⟩
  ·intro y0 y1
   unfold spec_l01Name.j0
   repeat' first
   | (with_reducible exact ih0 _ _)
   | (with_reducible exact ih1 _ _)
   | (with_reducible exact LeO.refl _)
   | (with_reducible exact LeO.none _)
   | (with_reducible refine LeO.ite ?_ ?_)
   | (with_reducible refine LeO.bind ?_ (fun _ => ?_))
   | exact ih0 _ _
   | exact ih1 _ _
   | exact LeO.none _
   | refine LeO.ite ?_ ?_
   | refine LeO.bind ?_ (fun _ => ?_)
  ·intro y0 y1
   unfold spec_l01Name.l0
   repeat' first
   | (with_reducible exact ih0 _ _)
   | (with_reducible exact ih1 _ _)
   | (with_reducible exact LeO.refl _)
   | (with_reducible exact LeO.none _)
   | (with_reducible refine LeO.ite ?_ ?_)
   | (with_reducible refine LeO.bind ?_ (fun _ => ?_))
   | exact ih0 _ _
   | exact ih1 _ _
   | exact LeO.none _
   | refine LeO.ite ?_ ?_
   | refine LeO.bind ?_ (fun _ => ?_)
theorem spec_l01Name.mono : ∀ a0 k, LeO (spec_l01Name.f k a0) (spec_l01Name.f (k + 1) a0) := by
 intro a0 k
 obtain ⟨ih0, ih1⟩ := spec_l01Name.mono_l k
 unfold spec_l01Name.f
 repeat' first
   | (with_reducible exact ih0 _ _)
   | (with_reducible exact ih1 _ _)
   | (with_reducible exact LeO.refl _)
   | (with_reducible exact LeO.none _)
   | (with_reducible refine LeO.ite ?_ ?_)
   | (with_reducible refine LeO.bind ?_ (fun _ => ?_))
   | exact ih0 _ _
   | exact ih1 _ _
   | exact LeO.none _
   | refine LeO.ite ?_ ?_
   | refine LeO.bind ?_ (fun _ => ?_)
set_option maxHeartbeats 8000000 in
set_option maxRecDepth 100000 in
theorem spec_l01Name.calls (k : Nat) (a0 : ByteArray) (r : Bool) (w : World) (h : spec_l01Name.f k a0 = some r) :
  Calls Try.prog 109 #[.string a0] w fun e w' => e = .returned (.bool r) ∧ Drawn0 w w' := by
 have H : (if a0.toList = ([] : List UInt8) then (spec_l01Name.j0 k a0 true) else (if (a0.size : Int) > 10 then (spec_l01Name.j0 k a0 true) else (if 0 < (a0.size : Int) then ((spec_l01Small.f (bt a0 0)).bind fun t186 => (spec_l01Name.j0 k a0 (!t186))) else (none)))) = some r := h
 clear h
 have HC2 := Aside0.mk H
 clear H
 go_enter Try.func109, Try.ntmps109
 go_upto_region 1 with (fail)
 go_cut [16] (fun v16 wc => ∃ (kq : Nat) (x16_1 : Bool), v16 = .bool x16_1 ∧ Aside0 (spec_l01Name.j0 kq a0 x16_1 = some r) ∧ Aside0 (kq ≤ k) ∧ Drawn0 w wc)
 case first =>
  have H := HC2.out
  clear HC2
  by_cases c3 : a0.toList = ([] : List UInt8)
  ·rw [if_pos c3] at H
   have c3b0 : (a0.toList == ([] : List UInt8)) = true := beq_iff_eq.mpr c3
   have c3b1 : (a0.toList != ([] : List UInt8)) = false := bne_eq_false_iff_eq.mpr c3
   clear c3
   (first | rw [c3b0] | (simp only [iW, jW]; rw [c3b0]) | skip)
   have H' := Aside0.mk H
   clear H
   go_wp2
   go_meet
   case rel => exact ⟨_, (true), eT, H', ⟨by first | omega | exact Nat.le_refl _⟩, dR⟩
  ·rw [if_neg c3] at H
   have c3b0 : (a0.toList == ([] : List UInt8)) = false := beq_eq_false_iff_ne.mpr c3
   have c3b1 : (a0.toList != ([] : List UInt8)) = true := bne_iff_ne.mpr c3
   (first | rw [c3b0] | (simp only [iW, jW]; rw [c3b0]) | skip)
   by_cases c4 : (a0.size : Int) > 10
   ·rw [if_pos c4] at H
    have c4b0 : decide (10 < (a0.size : Int)) = true := decide_eq_true c4
    have c4b1 : decide (10 < a0.size) = true := decide_eq_true (by omega)
    clear c4
    have H' := Aside0.mk H
    clear H
    go_wp2
    go_meet
    case rel => exact ⟨_, (true), eT, H', ⟨by first | omega | exact Nat.le_refl _⟩, dR⟩
   ·rw [if_neg c4] at H
    have c4b0 : decide (10 < (a0.size : Int)) = false := decide_eq_false c4
    have c4b1 : decide (10 < a0.size) = false := decide_eq_false (by omega)
    clear c4
    by_cases c5 : 0 < (a0.size : Int)
    ·rw [if_pos c5] at H
     have c5b0 : decide (0 < (a0.size : Int)) = true := decide_eq_true c5
     have c5b1 : decide (0 < a0.size) = true := decide_eq_true (by omega)
     clear c5
     replace H := Option.bind_eq_some_iff.mp H
     obtain ⟨t186, A70, H⟩ := H
     replace H : (spec_l01Name.j0 k a0 (!t186)) = some r := H
     have A7 := Aside0.mk A70
     clear A70
     have H' := Aside0.mk H
     clear H
     have p6 : 0 ≤ (0 : Int) := (by omega)
     have q6 : 0 < a0.size := (by have : (0 : Int) < (a0.size : Int) := oT; omega)
     have hx6 : ∀ h : 0 < a0.size, ((a0[0]'h).toNat : Int) = bt a0 0 := bt_at a0 0
     clear p6
     have qi6 : (0 < (a0.size : Int)) = True := eq_true (oT)
     replace q6 := eq_true q6
     go_wp2_with (first | (go_at_call 128; (with_reducible refine (spec_l01Small.calls (bt a0 0) t186 _ A7.out).mono ?_); rintro e w' ⟨rfl, ⟨nd, rfl⟩⟩))
     go_meet
     case rel => exact ⟨_, (!t186), eT, H', ⟨by first | omega | exact Nat.le_refl _⟩, dR⟩
    ·rw [if_neg c5] at H
     exact absurd H (by simp)
 case rest =>
  clear HC2
  try clear c1
  try clear p2
  try clear c3
  try clear c3b0
  try clear c3b1
  try clear c4
  try clear c4b0
  try clear c4b1
  try clear c5
  try clear c5b0
  try clear c5b1
  try clear p6
  try clear q6
  try clear hx6
  try clear qi6
  try clear p6
  try clear q6
  obtain ⟨kq, x16_1, rfl, HA, HJ1, ⟨mc1, rfl⟩⟩ := hcut
  cases kq with
  | zero => exact absurd HA.out (by simp [spec_l01Name.j0])
  | succ kj1 =>
   have H := HA.out
   clear HA
   simp only [spec_l01Name.j0] at H
   by_cases c8 : x16_1 = true
   ·subst c8
    have H1 : (some false) = some r := by rw [if_pos rfl] at H; exact H
    clear H
    have H := H1
    clear H1
    obtain rfl := Option.some.inj H
    go_wp2
    go_ret
    exact ⟨eT, dR⟩
   ·replace c8 := Bool.eq_false_iff.mpr c8
    subst c8
    have H1 : (spec_l01Name.l0 kj1 a0 0) = some r := by rw [if_neg (show ¬ (false = true) by decide)] at H; exact H
    clear H
    have H := H1
    clear H1
    have H' := Aside0.mk H
    clear H
    go_wp2
    go_loopg [3] kj1 (fun kq v3 w' => ∃ (x3_2 : Int), v3 = .int .i64 x3_2 ∧ Aside0 (spec_l01Name.l0 kq a0 x3_2 = some r) ∧ Aside0 (kq ≤ kj1) ∧ Drawn0 w w')
    case atStart => exact ⟨(0), eT, H', ⟨Nat.le_refl _⟩, dR⟩
    case round =>
     clear H'
     try clear c1
     try clear p2
     try clear c3
     try clear c3b0
     try clear c3b1
     try clear c4
     try clear c4b0
     try clear c4b1
     try clear c5
     try clear c5b0
     try clear c5b1
     try clear p6
     try clear q6
     try clear hx6
     try clear qi6
     try clear c8
     try clear p2
     try clear p6
     try clear q6
     obtain ⟨x3_2, rfl, HA, HK2, ⟨m2, rfl⟩⟩ := hrel
     cases gk with
     | zero => exact absurd HA.out (by simp [spec_l01Name.l0])
     | succ k2 =>
      have H := HA.out
      clear HA
      simp only [spec_l01Name.l0] at H
      by_cases c9 : x3_2 < (a0.size : Int)
      ·rw [if_pos c9] at H
       have c9b0 : decide (x3_2 < (a0.size : Int)) = true := decide_eq_true c9
       clear c9
       by_cases c10 : 0 ≤ x3_2
       ·rw [if_pos c10] at H
        have c10b0 : decide (0 ≤ x3_2) = true := decide_eq_true c10
        clear c10
        replace H := Option.bind_eq_some_iff.mp H
        obtain ⟨t187, A120, H⟩ := H
        replace H : (if t187 = true then (spec_l01Name.l0 k2 a0 (wrap64 (x3_2 + 1))) else ((spec_l01Digit.f (bt a0 x3_2)).bind fun t188 => (if t188 = true then (spec_l01Name.l0 k2 a0 (wrap64 (x3_2 + 1))) else (some false)))) = some r := H
        have A12 := Aside0.mk A120
        clear A120
        by_cases c13 : t187 = true
        ·subst c13
         have H1 : (spec_l01Name.l0 k2 a0 (wrap64 (x3_2 + 1))) = some r := by rw [if_pos rfl] at H; exact H
         clear H
         have H := H1
         clear H1
         have H' := Aside0.mk H
         clear H
         have p11 : 0 ≤ (x3_2 : Int) := oT
         have q11 : x3_2 < (a0.size : Int) := oT
         have hx11 := bt_at a0 x3_2
         replace p11 := eq_true p11
         replace q11 := eq_true q11
         go_wp2_with (first | ((with_reducible refine gC (f := 128) rfl ?_); refine goesL_ (some 26) rfl rfl Try.func128 (by kernel_rfl) rfl #[.int .u8 (bt a0 x3_2)] rfl lQ ?_; (with_reducible refine (spec_l01Small.calls (bt a0 x3_2) true _ A12.out).mono ?_); rintro e w' ⟨rfl, ⟨nd, rfl⟩⟩; refine ⟨_, rfl, ?_⟩))
         go_roundg k2
         case measure => have := HJ1.out; have := HK2.out; omega
         case rel => exact ⟨(wrap64 (x3_2 + 1)), eT, H', ⟨by have := HJ1.out; have := HK2.out; omega⟩, dR⟩
        ·replace c13 := Bool.eq_false_iff.mpr c13
         subst c13
         have H1 : ((spec_l01Digit.f (bt a0 x3_2)).bind fun t188 => (if t188 = true then (spec_l01Name.l0 k2 a0 (wrap64 (x3_2 + 1))) else (some false))) = some r := by rw [if_neg (show ¬ (false = true) by decide)] at H; exact H
         clear H
         have H := H1
         clear H1
         replace H := Option.bind_eq_some_iff.mp H
         obtain ⟨t188, A150, H⟩ := H
         replace H : (if t188 = true then (spec_l01Name.l0 k2 a0 (wrap64 (x3_2 + 1))) else (some false)) = some r := H
         have A15 := Aside0.mk A150
         clear A150
         by_cases c16 : t188 = true
         ·subst c16
          have H1 : (spec_l01Name.l0 k2 a0 (wrap64 (x3_2 + 1))) = some r := by rw [if_pos rfl] at H; exact H
          clear H
          have H := H1
          clear H1
          have H' := Aside0.mk H
          clear H
          have p11 : 0 ≤ (x3_2 : Int) := oT
          have q11 : x3_2 < (a0.size : Int) := oT
          have hx11 := bt_at a0 x3_2
          replace p11 := eq_true p11
          replace q11 := eq_true q11
          go_wp2_with (first | ((with_reducible refine gC (f := 128) rfl ?_); refine goesL_ (some 26) rfl rfl Try.func128 (by kernel_rfl) rfl #[.int .u8 (bt a0 x3_2)] rfl lQ ?_; (with_reducible refine (spec_l01Small.calls (bt a0 x3_2) false _ A12.out).mono ?_); rintro e w' ⟨rfl, ⟨nd, rfl⟩⟩; refine ⟨_, rfl, ?_⟩; have p14 : 0 ≤ (x3_2 : Int) := oT; have q14 : x3_2 < (a0.size : Int) := oT; have hx14 := bt_at a0 x3_2; replace p14 := eq_true p14; replace q14 := eq_true q14) | (go_at_call 129; (with_reducible refine (spec_l01Digit.calls (bt a0 x3_2) true _ A15.out).mono ?_); rintro e w' ⟨rfl, ⟨nd, rfl⟩⟩))
          go_roundg k2
          case measure => have := HJ1.out; have := HK2.out; omega
          case rel => exact ⟨(wrap64 (x3_2 + 1)), eT, H', ⟨by have := HJ1.out; have := HK2.out; omega⟩, dR⟩
         ·replace c16 := Bool.eq_false_iff.mpr c16
          subst c16
          have H1 : (some false) = some r := by rw [if_neg (show ¬ (false = true) by decide)] at H; exact H
          clear H
          have H := H1
          clear H1
          obtain rfl := Option.some.inj H
          have p11 : 0 ≤ (x3_2 : Int) := oT
          have q11 : x3_2 < (a0.size : Int) := oT
          have hx11 := bt_at a0 x3_2
          replace p11 := eq_true p11
          replace q11 := eq_true q11
          go_wp2_with (first | ((with_reducible refine gC (f := 128) rfl ?_); refine goesL_ (some 26) rfl rfl Try.func128 (by kernel_rfl) rfl #[.int .u8 (bt a0 x3_2)] rfl lQ ?_; (with_reducible refine (spec_l01Small.calls (bt a0 x3_2) false _ A12.out).mono ?_); rintro e w' ⟨rfl, ⟨nd, rfl⟩⟩; refine ⟨_, rfl, ?_⟩; have p14 : 0 ≤ (x3_2 : Int) := oT; have q14 : x3_2 < (a0.size : Int) := oT; have hx14 := bt_at a0 x3_2; replace p14 := eq_true p14; replace q14 := eq_true q14) | (go_at_call 129; (with_reducible refine (spec_l01Digit.calls (bt a0 x3_2) false _ A15.out).mono ?_); rintro e w' ⟨rfl, ⟨nd, rfl⟩⟩))
          go_ret
          exact ⟨eT, dR⟩
       ·rw [if_neg c10] at H
        exact absurd H (by simp)
      ·rw [if_neg c9] at H
       have c9b0 : decide (x3_2 < (a0.size : Int)) = false := decide_eq_false c9
       clear c9
       obtain rfl := Option.some.inj H
       go_wp2
       go_ret
       exact ⟨eT, dR⟩


/-! ### spec_l03Scale: function 110 -/
def spec_l03Scale.f (k : Nat) (l0 : List Int) : Option (Bool) := if (l0.length : Int) ≥ 5 then ((spec_l00Rises.f k l0 0 11).bind fun t189 => (if t189 = true then (if 0 < (l0.length : Int) then (some ((rd l0 0) == 0)) else (none)) else (some false))) else (some false)
theorem spec_l03Scale.mono : ∀ a0 k, LeO (spec_l03Scale.f k a0) (spec_l03Scale.f (k + 1) a0) := by
 intro a0 k
 unfold spec_l03Scale.f
 repeat' first
   | (with_reducible exact spec_l00Rises.mono _ _ _ _)
   | (with_reducible exact LeO.refl _)
   | (with_reducible exact LeO.none _)
   | (with_reducible refine LeO.ite ?_ ?_)
   | (with_reducible refine LeO.bind ?_ (fun _ => ?_))
   | exact spec_l00Rises.mono _ _ _ _
   | exact LeO.none _
   | refine LeO.ite ?_ ?_
   | refine LeO.bind ?_ (fun _ => ?_)
set_option maxHeartbeats 8000000 in
set_option maxRecDepth 100000 in
theorem spec_l03Scale.calls (k : Nat) (A0 : Option Addr) (c0 : Nat) (l0 : List Int) (r : Bool) (w : World) (hr0 : Kd.C (Kd.int .i64) w A0 l0.length l0) (hc0 : l0.length ≤ c0) (h : spec_l03Scale.f k l0 = some r) :
  Calls Try.prog 110 #[.slice A0 l0.length c0] w fun e w' => e = .returned (.bool r) ∧ Drawn0 w w' := by
 have HR0 := Aside0.mk hr0
 have HC0 := Aside0.mk hc0
 clear hr0 hc0
 have H : (if (l0.length : Int) ≥ 5 then ((spec_l00Rises.f k l0 0 11).bind fun t189 => (if t189 = true then (if 0 < (l0.length : Int) then (some ((rd l0 0) == 0)) else (none)) else (some false))) else (some false)) = some r := h
 clear h
 by_cases c2 : (l0.length : Int) ≥ 5
 ·rw [if_pos c2] at H
  have c2b0 : decide (5 ≤ (l0.length : Int)) = true := decide_eq_true c2
  have c2b1 : decide (5 ≤ l0.length) = true := decide_eq_true (by omega)
  clear c2
  replace H := Option.bind_eq_some_iff.mp H
  obtain ⟨t189, A30, H⟩ := H
  replace H : (if t189 = true then (if 0 < (l0.length : Int) then (some ((rd l0 0) == 0)) else (none)) else (some false)) = some r := H
  have A3 := Aside0.mk A30
  clear A30
  by_cases c4 : t189 = true
  ·subst c4
   have H1 : (if 0 < (l0.length : Int) then (some ((rd l0 0) == 0)) else (none)) = some r := by rw [if_pos rfl] at H; exact H
   clear H
   have H := H1
   clear H1
   by_cases c5 : 0 < (l0.length : Int)
   ·rw [if_pos c5] at H
    have c5b0 : decide (0 < (l0.length : Int)) = true := decide_eq_true c5
    have c5b1 : decide (0 < l0.length) = true := decide_eq_true (by omega)
    clear c5
    obtain rfl := Option.some.inj H
    go_enter Try.func110, Try.ntmps110
    go_wp2_with (first | (go_at_call 101; (with_reducible refine (spec_l00Rises.calls k _ _ l0 0 11 true _ ?side1 ?side2 A3.out).mono ?_); (case side1 => repeat (first | exact HR0.out | (with_reducible refine Kd.C_alloc ?_ _) | (with_reducible refine Kd.C_drewN ?_ _) | (with_reducible refine Kd.C_drew ?_))); (case side2 => exact HC0.out); rintro e w' ⟨rfl, ⟨nd, rfl⟩⟩; have p190 : 0 ≤ (0 : Int) := (by omega); have q190 : 0 < (l0.length : Int) := oT; obtain ⟨ad190, e190, hx190_0⟩ := Kd.at_int HR0.out 0 p190 q190; cases e190; have qi190 : (0 < l0.length) = True := eq_true (by omega); (try rw [t00] at hx190_0); (try rw [Addr.add_zero'] at hx190_0); replace p190 := eq_true p190; replace q190 := eq_true q190))
    go_ret
    exact ⟨eT, dR⟩
   ·rw [if_neg c5] at H
    exact absurd H (by simp)
  ·replace c4 := Bool.eq_false_iff.mpr c4
   subst c4
   have H1 : (some false) = some r := by rw [if_neg (show ¬ (false = true) by decide)] at H; exact H
   clear H
   have H := H1
   clear H1
   obtain rfl := Option.some.inj H
   go_enter Try.func110, Try.ntmps110
   go_wp2_with (first | (go_at_call 101; (with_reducible refine (spec_l00Rises.calls k _ _ l0 0 11 false _ ?side1 ?side2 A3.out).mono ?_); (case side1 => repeat (first | exact HR0.out | (with_reducible refine Kd.C_alloc ?_ _) | (with_reducible refine Kd.C_drewN ?_ _) | (with_reducible refine Kd.C_drew ?_))); (case side2 => exact HC0.out); rintro e w' ⟨rfl, ⟨nd, rfl⟩⟩))
   go_ret
   exact ⟨eT, dR⟩
 ·rw [if_neg c2] at H
  have c2b0 : decide (5 ≤ (l0.length : Int)) = false := decide_eq_false c2
  have c2b1 : decide (5 ≤ l0.length) = false := decide_eq_false (by omega)
  clear c2
  obtain rfl := Option.some.inj H
  go_enter Try.func110, Try.ntmps110
  go_wp2
  go_ret
  exact ⟨eT, dR⟩

/-! ### spec_l00Has: function 80 -/
def spec_l00Has.l0 : Nat → List Int → Int → Int → Option (Bool)
 | 0, _, _, _ => none
 | k + 1, x0, x1, x5 => if x5 < (x0.length : Int) then (if 0 ≤ x5 then (if (rd x0 x5) = x1 then (some true) else (spec_l00Has.l0 k x0 x1 (wrap64 (x5 + 1)))) else (none)) else (some false)
def spec_l00Has.f (k : Nat) (l0 : List Int) (a1 : Int) : Option (Bool) := spec_l00Has.l0 k l0 a1 0
theorem spec_l00Has.mono_l : ∀ k, (∀ y0 y1 y2, LeO (spec_l00Has.l0 k y0 y1 y2) (spec_l00Has.l0 (k + 1) y0 y1 y2))
 | 0 => fun _ _ _ r h => by simp [spec_l00Has.l0] at h
 | k + 1 => by
  have ih0 := spec_l00Has.mono_l k
  ·intro y0 y1 y2
   unfold spec_l00Has.l0
   repeat' first
   | (with_reducible exact ih0 _ _ _)
   | (with_reducible exact LeO.refl _)
   | (with_reducible exact LeO.none _)
   | (with_reducible refine LeO.ite ?_ ?_)
   | (with_reducible refine LeO.bind ?_ (fun _ => ?_))
   | exact ih0 _ _ _
   | exact LeO.none _
   | refine LeO.ite ?_ ?_
   | refine LeO.bind ?_ (fun _ => ?_)
theorem spec_l00Has.mono : ∀ a0 a1 k, LeO (spec_l00Has.f k a0 a1) (spec_l00Has.f (k + 1) a0 a1) := by
 intro a0 a1 k
 have ih0 := spec_l00Has.mono_l k
 unfold spec_l00Has.f
 repeat' first
   | (with_reducible exact ih0 _ _ _)
   | (with_reducible exact LeO.refl _)
   | (with_reducible exact LeO.none _)
   | (with_reducible refine LeO.ite ?_ ?_)
   | (with_reducible refine LeO.bind ?_ (fun _ => ?_))
   | exact ih0 _ _ _
   | exact LeO.none _
   | refine LeO.ite ?_ ?_
   | refine LeO.bind ?_ (fun _ => ?_)
set_option maxHeartbeats 8000000 in
set_option maxRecDepth 100000 in
theorem spec_l00Has.calls (k : Nat) (A0 : Option Addr) (c0 : Nat) (l0 : List Int) (a1 : Int) (r : Bool) (w : World) (hr0 : Kd.C (Kd.int .i64) w A0 l0.length l0) (hc0 : l0.length ≤ c0) (h : spec_l00Has.f k l0 a1 = some r) :
  Calls Try.prog 80 #[.slice A0 l0.length c0, .int .i64 a1] w fun e w' => e = .returned (.bool r) ∧ Drawn0 w w' := by
 have HR0 := Aside0.mk hr0
 have HC0 := Aside0.mk hc0
 clear hr0 hc0
 have H : (spec_l00Has.l0 k l0 a1 0) = some r := h
 clear h
 have H' := Aside0.mk H
 clear H
 go_enter Try.func80, Try.ntmps80
 go_wp2
 go_loopg [5] k (fun kq v5 w' => ∃ (x5_1 : Int), v5 = .int .i64 x5_1 ∧ Aside0 (spec_l00Has.l0 kq l0 a1 x5_1 = some r) ∧ Aside0 (kq ≤ k) ∧ Drawn0 w w')
 case atStart => exact ⟨(0), eT, H', ⟨Nat.le_refl _⟩, dR⟩
 case round =>
  clear H'
  try clear p2
  obtain ⟨x5_1, rfl, HA, HK1, ⟨m1, rfl⟩⟩ := hrel
  cases gk with
  | zero => exact absurd HA.out (by simp [spec_l00Has.l0])
  | succ k1 =>
   have H := HA.out
   clear HA
   simp only [spec_l00Has.l0] at H
   by_cases c3 : x5_1 < (l0.length : Int)
   ·rw [if_pos c3] at H
    have c3b0 : decide (x5_1 < (l0.length : Int)) = true := decide_eq_true c3
    clear c3
    by_cases c4 : 0 ≤ x5_1
    ·rw [if_pos c4] at H
     have c4b0 : decide (0 ≤ x5_1) = true := decide_eq_true c4
     clear c4
     by_cases c5 : (rd l0 x5_1) = a1
     ·rw [if_pos c5] at H
      have c5b0 : ((rd l0 x5_1) == a1) = true := beq_iff_eq.mpr c5
      have c5b1 : ((rd l0 x5_1) != a1) = false := bne_eq_false_iff_eq.mpr c5
      clear c5
      obtain rfl := Option.some.inj H
      have p191 : 0 ≤ (x5_1 : Int) := oT
      have q191 : x5_1 < (l0.length : Int) := oT
      obtain ⟨ad191, e191, hx191_0⟩ := Kd.at_int HR0.out x5_1 p191 q191
      cases e191
      replace p191 := eq_true p191
      replace q191 := eq_true q191
      go_wp2
      go_ret
      exact ⟨eT, dR⟩
     ·rw [if_neg c5] at H
      have c5b0 : ((rd l0 x5_1) == a1) = false := beq_eq_false_iff_ne.mpr c5
      have c5b1 : ((rd l0 x5_1) != a1) = true := bne_iff_ne.mpr c5
      have H' := Aside0.mk H
      clear H
      have p191 : 0 ≤ (x5_1 : Int) := oT
      have q191 : x5_1 < (l0.length : Int) := oT
      obtain ⟨ad191, e191, hx191_0⟩ := Kd.at_int HR0.out x5_1 p191 q191
      cases e191
      replace p191 := eq_true p191
      replace q191 := eq_true q191
      go_wp2
      go_roundg k1
      case measure => have := HK1.out; omega
      case rel => exact ⟨(wrap64 (x5_1 + 1)), eT, H', ⟨by have := HK1.out; omega⟩, dR⟩
    ·rw [if_neg c4] at H
     exact absurd H (by simp)
   ·rw [if_neg c3] at H
    have c3b0 : decide (x5_1 < (l0.length : Int)) = false := decide_eq_false c3
    clear c3
    obtain rfl := Option.some.inj H
    go_wp2
    go_ret
    exact ⟨eT, dR⟩


/-! ### spec_l05Tone: function 111 -/
def spec_l05Tone.f (k : Nat) (a0_0 : ByteArray) (l0_1 : List Int) (l0_2 : List Int) (a0_3 : Int) (a0_4 : Int) (l0_5 : List (List Int)) (a1 : Int) : Option (Bool) := (spec_l00Has.f k l0_1 a1).bind fun t193 => (if t193 = true then (some true) else ((spec_l00Has.f k l0_2 a1).bind fun t194 => (some t194)))
theorem spec_l05Tone.mono : ∀ a0 a1 a2 a3 a4 a5 a6 k, LeO (spec_l05Tone.f k a0 a1 a2 a3 a4 a5 a6) (spec_l05Tone.f (k + 1) a0 a1 a2 a3 a4 a5 a6) := by
 intro a0 a1 a2 a3 a4 a5 a6 k
 unfold spec_l05Tone.f
 repeat' first
   | (with_reducible exact spec_l00Has.mono _ _ _)
   | (with_reducible exact LeO.refl _)
   | (with_reducible exact LeO.none _)
   | (with_reducible refine LeO.ite ?_ ?_)
   | (with_reducible refine LeO.bind ?_ (fun _ => ?_))
   | exact spec_l00Has.mono _ _ _
   | exact LeO.none _
   | refine LeO.ite ?_ ?_
   | refine LeO.bind ?_ (fun _ => ?_)
set_option maxHeartbeats 8000000 in
set_option maxRecDepth 100000 in
theorem spec_l05Tone.calls (k : Nat) (adp0 : Addr) (a0_0 : ByteArray) (l0_1 : List Int) (l0_2 : List Int) (a0_3 : Int) (a0_4 : Int) (l0_5 : List (List Int)) (a1 : Int) (r : Bool) (w : World) (hp0 : Kd.C k58 w (some adp0) 1 [(⟨a0_0, l0_1, l0_2, a0_3, a0_4, l0_5⟩ : S58)]) (h : spec_l05Tone.f k a0_0 l0_1 l0_2 a0_3 a0_4 l0_5 a1 = some r) :
  Calls Try.prog 111 #[.pointer (some adp0), .int .i64 a1] w fun e w' => e = .returned (.bool r) ∧ Drawn0 w w' := by
 have HRp0 := Aside0.mk hp0
 clear hp0
 have H : ((spec_l00Has.f k l0_1 a1).bind fun t193 => (if t193 = true then (some true) else ((spec_l00Has.f k l0_2 a1).bind fun t194 => (some t194)))) = some r := h
 clear h
 replace H := Option.bind_eq_some_iff.mp H
 obtain ⟨t193, A30, H⟩ := H
 replace H : (if t193 = true then (some true) else ((spec_l00Has.f k l0_2 a1).bind fun t194 => (some t194))) = some r := H
 have A3 := Aside0.mk A30
 clear A30
 by_cases c4 : t193 = true
 ·subst c4
  have H1 : (some true) = some r := by rw [if_pos rfl] at H; exact H
  clear H
  have H := H1
  clear H1
  obtain rfl := Option.some.inj H
  have p192 : 0 ≤ (0 : Int) := (by omega)
  have q192 : 0 < ([(⟨a0_0, l0_1, l0_2, a0_3, a0_4, l0_5⟩ : S58)].length : Int) := (by simp)
  obtain ⟨ad192, A192_1, c192_1, A192_2, c192_2, A192_5, c192_5, e192, hx192_0, hx192_1, hx192_2, hx192_3, hx192_4, hx192_5, hl192_1, hi192_1, hl192_2, hi192_2, hl192_5, hi192_5⟩ := at_T58 HRp0.out 0 p192 q192
  replace hx192_0 : _ = (some (.string a0_0) : Option Value) := hx192_0
  replace hx192_1 : _ = (some (.slice A192_1 l0_1.length c192_1) : Option Value) := hx192_1
  replace hi192_1 : Kd.C (Kd.int .i64) _ _ l0_1.length l0_1 := hi192_1
  replace hl192_1 : l0_1.length ≤ _ := hl192_1
  replace hx192_2 : _ = (some (.slice A192_2 l0_2.length c192_2) : Option Value) := hx192_2
  replace hi192_2 : Kd.C (Kd.int .i64) _ _ l0_2.length l0_2 := hi192_2
  replace hl192_2 : l0_2.length ≤ _ := hl192_2
  replace hx192_3 : _ = (some (.int .i64 a0_3) : Option Value) := hx192_3
  replace hx192_4 : _ = (some (.int .i64 a0_4) : Option Value) := hx192_4
  replace hx192_5 : _ = (some (.slice A192_5 l0_5.length c192_5) : Option Value) := hx192_5
  replace hi192_5 : Kd.C (Kd.slice 2 (Kd.int .i64)) _ _ l0_5.length l0_5 := hi192_5
  replace hl192_5 : l0_5.length ≤ _ := hl192_5
  obtain rfl : adp0 = ad192 := (by injection e192)
  have qi192 : (0 < [(⟨a0_0, l0_1, l0_2, a0_3, a0_4, l0_5⟩ : S58)].length) = True := eq_true (by simp)
  (try rw [t00] at hx192_0)
  (try rw [Nat.zero_mul] at hx192_0)
  (try rw [Addr.add_zero'] at hx192_0)
  (try rw [t00] at hx192_1)
  (try rw [Nat.zero_mul] at hx192_1)
  (try rw [Addr.add_zero'] at hx192_1)
  (try rw [t00] at hx192_2)
  (try rw [Nat.zero_mul] at hx192_2)
  (try rw [Addr.add_zero'] at hx192_2)
  (try rw [t00] at hx192_3)
  (try rw [Nat.zero_mul] at hx192_3)
  (try rw [Addr.add_zero'] at hx192_3)
  (try rw [t00] at hx192_4)
  (try rw [Nat.zero_mul] at hx192_4)
  (try rw [Addr.add_zero'] at hx192_4)
  (try rw [t00] at hx192_5)
  (try rw [Nat.zero_mul] at hx192_5)
  (try rw [Addr.add_zero'] at hx192_5)
  have HR192_1 := Aside0.mk hi192_1
  have HC192_1 := Aside0.mk hl192_1
  clear hi192_1 hl192_1
  have HR192_2 := Aside0.mk hi192_2
  have HC192_2 := Aside0.mk hl192_2
  clear hi192_2 hl192_2
  have HR192_5 := Aside0.mk hi192_5
  have HC192_5 := Aside0.mk hl192_5
  clear hi192_5 hl192_5
  replace p192 := eq_true p192
  replace q192 := eq_true q192
  go_enter Try.func111, Try.ntmps111
  go_wp2_with (first | ((with_reducible refine gC (f := 80) rfl ?_); refine goesL_ (some 10) rfl rfl Try.func80 (by kernel_rfl) rfl #[.slice A192_1 l0_1.length c192_1, .int .i64 a1] rfl lQ ?_; (with_reducible refine (spec_l00Has.calls k _ _ l0_1 a1 true _ ?side1 ?side2 A3.out).mono ?_); (case side1 => exact cQ HR192_1); (case side2 => exact HC192_1.out); rintro e w' ⟨rfl, ⟨nd, rfl⟩⟩; refine ⟨_, rfl, ?_⟩))
  go_ret
  exact ⟨eT, dR⟩
 ·replace c4 := Bool.eq_false_iff.mpr c4
  subst c4
  have H1 : ((spec_l00Has.f k l0_2 a1).bind fun t194 => (some t194)) = some r := by rw [if_neg (show ¬ (false = true) by decide)] at H; exact H
  clear H
  have H := H1
  clear H1
  replace H := Option.bind_eq_some_iff.mp H
  obtain ⟨t194, A50, H⟩ := H
  replace H : (some t194) = some r := H
  have A5 := Aside0.mk A50
  clear A50
  obtain rfl := Option.some.inj H
  have p192 : 0 ≤ (0 : Int) := (by omega)
  have q192 : 0 < ([(⟨a0_0, l0_1, l0_2, a0_3, a0_4, l0_5⟩ : S58)].length : Int) := (by simp)
  obtain ⟨ad192, A192_1, c192_1, A192_2, c192_2, A192_5, c192_5, e192, hx192_0, hx192_1, hx192_2, hx192_3, hx192_4, hx192_5, hl192_1, hi192_1, hl192_2, hi192_2, hl192_5, hi192_5⟩ := at_T58 HRp0.out 0 p192 q192
  replace hx192_0 : _ = (some (.string a0_0) : Option Value) := hx192_0
  replace hx192_1 : _ = (some (.slice A192_1 l0_1.length c192_1) : Option Value) := hx192_1
  replace hi192_1 : Kd.C (Kd.int .i64) _ _ l0_1.length l0_1 := hi192_1
  replace hl192_1 : l0_1.length ≤ _ := hl192_1
  replace hx192_2 : _ = (some (.slice A192_2 l0_2.length c192_2) : Option Value) := hx192_2
  replace hi192_2 : Kd.C (Kd.int .i64) _ _ l0_2.length l0_2 := hi192_2
  replace hl192_2 : l0_2.length ≤ _ := hl192_2
  replace hx192_3 : _ = (some (.int .i64 a0_3) : Option Value) := hx192_3
  replace hx192_4 : _ = (some (.int .i64 a0_4) : Option Value) := hx192_4
  replace hx192_5 : _ = (some (.slice A192_5 l0_5.length c192_5) : Option Value) := hx192_5
  replace hi192_5 : Kd.C (Kd.slice 2 (Kd.int .i64)) _ _ l0_5.length l0_5 := hi192_5
  replace hl192_5 : l0_5.length ≤ _ := hl192_5
  obtain rfl : adp0 = ad192 := (by injection e192)
  have qi192 : (0 < [(⟨a0_0, l0_1, l0_2, a0_3, a0_4, l0_5⟩ : S58)].length) = True := eq_true (by simp)
  (try rw [t00] at hx192_0)
  (try rw [Nat.zero_mul] at hx192_0)
  (try rw [Addr.add_zero'] at hx192_0)
  (try rw [t00] at hx192_1)
  (try rw [Nat.zero_mul] at hx192_1)
  (try rw [Addr.add_zero'] at hx192_1)
  (try rw [t00] at hx192_2)
  (try rw [Nat.zero_mul] at hx192_2)
  (try rw [Addr.add_zero'] at hx192_2)
  (try rw [t00] at hx192_3)
  (try rw [Nat.zero_mul] at hx192_3)
  (try rw [Addr.add_zero'] at hx192_3)
  (try rw [t00] at hx192_4)
  (try rw [Nat.zero_mul] at hx192_4)
  (try rw [Addr.add_zero'] at hx192_4)
  (try rw [t00] at hx192_5)
  (try rw [Nat.zero_mul] at hx192_5)
  (try rw [Addr.add_zero'] at hx192_5)
  have HR192_1 := Aside0.mk hi192_1
  have HC192_1 := Aside0.mk hl192_1
  clear hi192_1 hl192_1
  have HR192_2 := Aside0.mk hi192_2
  have HC192_2 := Aside0.mk hl192_2
  clear hi192_2 hl192_2
  have HR192_5 := Aside0.mk hi192_5
  have HC192_5 := Aside0.mk hl192_5
  clear hi192_5 hl192_5
  replace p192 := eq_true p192
  replace q192 := eq_true q192
  go_enter Try.func111, Try.ntmps111
  go_wp2_with (first | ((with_reducible refine gC (f := 80) rfl ?_); refine goesL_ (some 10) rfl rfl Try.func80 (by kernel_rfl) rfl #[.slice A192_1 l0_1.length c192_1, .int .i64 a1] rfl lQ ?_; (with_reducible refine (spec_l00Has.calls k _ _ l0_1 a1 false _ ?side1 ?side2 A3.out).mono ?_); (case side1 => exact cQ HR192_1); (case side2 => exact HC192_1.out); rintro e w' ⟨rfl, ⟨nd, rfl⟩⟩; refine ⟨_, rfl, ?_⟩) | (go_at_call 80; (with_reducible refine (spec_l00Has.calls k _ _ l0_2 a1 t194 _ ?side1 ?side2 A5.out).mono ?_); (case side1 => exact cQ HR192_2); (case side2 => exact HC192_2.out); rintro e w' ⟨rfl, ⟨nd, rfl⟩⟩))
  go_ret
  exact ⟨eT, dR⟩

/-! ### spec_l05Pair: function 130 -/
def spec_l05Pair.f (l0 : List Int) : Option (Bool) := if (l0.length : Int) = 2 then (if 0 < (l0.length : Int) then ((spec_l00In.f (rd l0 0) 0 11).bind fun t196 => (if t196 = true then (if 1 < (l0.length : Int) then ((spec_l00In.f (rd l0 1) 0 11).bind fun t198 => (if t198 = true then (some ((rd l0 0) != (rd l0 1))) else (some false))) else (none)) else (some false))) else (none)) else (some false)
set_option maxHeartbeats 8000000 in
set_option maxRecDepth 100000 in
theorem spec_l05Pair.calls (A0 : Option Addr) (c0 : Nat) (l0 : List Int) (r : Bool) (w : World) (hr0 : Kd.C (Kd.int .i64) w A0 l0.length l0) (hc0 : l0.length ≤ c0) (h : spec_l05Pair.f l0 = some r) :
  Calls Try.prog 130 #[.slice A0 l0.length c0] w fun e w' => e = .returned (.bool r) ∧ Drawn0 w w' := by
 have HR0 := Aside0.mk hr0
 have HC0 := Aside0.mk hc0
 clear hr0 hc0
 have H : (if (l0.length : Int) = 2 then (if 0 < (l0.length : Int) then ((spec_l00In.f (rd l0 0) 0 11).bind fun t196 => (if t196 = true then (if 1 < (l0.length : Int) then ((spec_l00In.f (rd l0 1) 0 11).bind fun t198 => (if t198 = true then (some ((rd l0 0) != (rd l0 1))) else (some false))) else (none)) else (some false))) else (none)) else (some false)) = some r := h
 clear h
 by_cases c2 : (l0.length : Int) = 2
 ·rw [if_pos c2] at H
  have c2b0 : ((l0.length : Int) == 2) = true := beq_iff_eq.mpr c2
  have c2b1 : ((l0.length : Int) != 2) = false := bne_eq_false_iff_eq.mpr c2
  clear c2
  by_cases c3 : 0 < (l0.length : Int)
  ·rw [if_pos c3] at H
   have c3b0 : decide (0 < (l0.length : Int)) = true := decide_eq_true c3
   have c3b1 : decide (0 < l0.length) = true := decide_eq_true (by omega)
   clear c3
   replace H := Option.bind_eq_some_iff.mp H
   obtain ⟨t196, A40, H⟩ := H
   replace H : (if t196 = true then (if 1 < (l0.length : Int) then ((spec_l00In.f (rd l0 1) 0 11).bind fun t198 => (if t198 = true then (some ((rd l0 0) != (rd l0 1))) else (some false))) else (none)) else (some false)) = some r := H
   have A4 := Aside0.mk A40
   clear A40
   by_cases c5 : t196 = true
   ·subst c5
    have H1 : (if 1 < (l0.length : Int) then ((spec_l00In.f (rd l0 1) 0 11).bind fun t198 => (if t198 = true then (some ((rd l0 0) != (rd l0 1))) else (some false))) else (none)) = some r := by rw [if_pos rfl] at H; exact H
    clear H
    have H := H1
    clear H1
    by_cases c6 : 1 < (l0.length : Int)
    ·rw [if_pos c6] at H
     have c6b0 : decide (1 < (l0.length : Int)) = true := decide_eq_true c6
     have c6b1 : decide (1 < l0.length) = true := decide_eq_true (by omega)
     clear c6
     replace H := Option.bind_eq_some_iff.mp H
     obtain ⟨t198, A70, H⟩ := H
     replace H : (if t198 = true then (some ((rd l0 0) != (rd l0 1))) else (some false)) = some r := H
     have A7 := Aside0.mk A70
     clear A70
     by_cases c8 : t198 = true
     ·subst c8
      have H1 : (some ((rd l0 0) != (rd l0 1))) = some r := by rw [if_pos rfl] at H; exact H
      clear H
      have H := H1
      clear H1
      obtain rfl := Option.some.inj H
      have p195 : 0 ≤ (0 : Int) := (by omega)
      have q195 : 0 < (l0.length : Int) := oT
      obtain ⟨ad195, e195, hx195_0⟩ := Kd.at_int HR0.out 0 p195 q195
      cases e195
      have qi195 : (0 < l0.length) = True := eq_true (by omega)
      (try rw [t00] at hx195_0)
      (try rw [Addr.add_zero'] at hx195_0)
      replace p195 := eq_true p195
      replace q195 := eq_true q195
      go_enter Try.func130, Try.ntmps130
      go_wp2_with (first | (go_at_call 75; (with_reducible refine (spec_l00In.calls (rd l0 0) 0 11 true _ A4.out).mono ?_); rintro e w' ⟨rfl, ⟨nd, rfl⟩⟩; (try first | exact ⟨rfl, _, dN⟩ | exact ⟨rfl, _, dM⟩); have p197 : 0 ≤ (1 : Int) := (by omega); have q197 : 1 < (l0.length : Int) := oT; obtain ⟨ad197, e197, hx197_0⟩ := Kd.at_int HR0.out 1 p197 q197; obtain rfl : ad195 = ad197 := (by injection e197); (try simp only [show (1 : Int).toNat = 1 from rfl, Nat.reduceMul, Nat.reduceEqDiff, Go.Addr.add, ↓reduceIte] at hx197_0); have qi197 : (1 < l0.length) = True := eq_true (by omega); (try rw [show ((1 : Int)).toNat = 1 from rfl] at hx197_0); replace p197 := eq_true p197; replace q197 := eq_true q197) | (go_at_call 75; (with_reducible refine (spec_l00In.calls (rd l0 1) 0 11 true _ A7.out).mono ?_); rintro e w' ⟨rfl, ⟨nd, rfl⟩⟩; (try first | exact ⟨rfl, _, dN⟩ | exact ⟨rfl, _, dM⟩); have p199 : 0 ≤ (0 : Int) := (by omega); have q199 : 0 < (l0.length : Int) := oT; obtain ⟨ad199, e199, hx199_0⟩ := Kd.at_int HR0.out 0 p199 q199; obtain rfl : ad195 = ad199 := (by injection e199); have qi199 : (0 < l0.length) = True := eq_true (by omega); (try rw [t00] at hx199_0); (try rw [Addr.add_zero'] at hx199_0); replace p199 := eq_true p199; replace q199 := eq_true q199; have p200 : 0 ≤ (1 : Int) := (by omega); have q200 : 1 < (l0.length : Int) := oT; obtain ⟨ad200, e200, hx200_0⟩ := Kd.at_int HR0.out 1 p200 q200; obtain rfl : ad195 = ad200 := (by injection e200); (try simp only [show (1 : Int).toNat = 1 from rfl, Nat.reduceMul, Nat.reduceEqDiff, Go.Addr.add, ↓reduceIte] at hx200_0); have qi200 : (1 < l0.length) = True := eq_true (by omega); (try rw [show ((1 : Int)).toNat = 1 from rfl] at hx200_0); replace p200 := eq_true p200; replace q200 := eq_true q200))
      repeat (go_quiet (first | (go_at_call 75; (with_reducible refine (spec_l00In.calls (rd l0 0) 0 11 true _ A4.out).mono ?_); rintro e w' ⟨rfl, ⟨nd, rfl⟩⟩; (try first | exact ⟨rfl, _, dN⟩ | exact ⟨rfl, _, dM⟩); have p197 : 0 ≤ (1 : Int) := (by omega); have q197 : 1 < (l0.length : Int) := oT; obtain ⟨ad197, e197, hx197_0⟩ := Kd.at_int HR0.out 1 p197 q197; obtain rfl : ad195 = ad197 := (by injection e197); (try simp only [show (1 : Int).toNat = 1 from rfl, Nat.reduceMul, Nat.reduceEqDiff, Go.Addr.add, ↓reduceIte] at hx197_0); have qi197 : (1 < l0.length) = True := eq_true (by omega); (try rw [show ((1 : Int)).toNat = 1 from rfl] at hx197_0); replace p197 := eq_true p197; replace q197 := eq_true q197) | (go_at_call 75; (with_reducible refine (spec_l00In.calls (rd l0 1) 0 11 true _ A7.out).mono ?_); rintro e w' ⟨rfl, ⟨nd, rfl⟩⟩; (try first | exact ⟨rfl, _, dN⟩ | exact ⟨rfl, _, dM⟩); have p199 : 0 ≤ (0 : Int) := (by omega); have q199 : 0 < (l0.length : Int) := oT; obtain ⟨ad199, e199, hx199_0⟩ := Kd.at_int HR0.out 0 p199 q199; obtain rfl : ad195 = ad199 := (by injection e199); have qi199 : (0 < l0.length) = True := eq_true (by omega); (try rw [t00] at hx199_0); (try rw [Addr.add_zero'] at hx199_0); replace p199 := eq_true p199; replace q199 := eq_true q199; have p200 : 0 ≤ (1 : Int) := (by omega); have q200 : 1 < (l0.length : Int) := oT; obtain ⟨ad200, e200, hx200_0⟩ := Kd.at_int HR0.out 1 p200 q200; obtain rfl : ad195 = ad200 := (by injection e200); (try simp only [show (1 : Int).toNat = 1 from rfl, Nat.reduceMul, Nat.reduceEqDiff, Go.Addr.add, ↓reduceIte] at hx200_0); have qi200 : (1 < l0.length) = True := eq_true (by omega); (try rw [show ((1 : Int)).toNat = 1 from rfl] at hx200_0); replace p200 := eq_true p200; replace q200 := eq_true q200)); try go_wp2_with (first | (go_at_call 75; (with_reducible refine (spec_l00In.calls (rd l0 0) 0 11 true _ A4.out).mono ?_); rintro e w' ⟨rfl, ⟨nd, rfl⟩⟩; (try first | exact ⟨rfl, _, dN⟩ | exact ⟨rfl, _, dM⟩); have p197 : 0 ≤ (1 : Int) := (by omega); have q197 : 1 < (l0.length : Int) := oT; obtain ⟨ad197, e197, hx197_0⟩ := Kd.at_int HR0.out 1 p197 q197; obtain rfl : ad195 = ad197 := (by injection e197); (try simp only [show (1 : Int).toNat = 1 from rfl, Nat.reduceMul, Nat.reduceEqDiff, Go.Addr.add, ↓reduceIte] at hx197_0); have qi197 : (1 < l0.length) = True := eq_true (by omega); (try rw [show ((1 : Int)).toNat = 1 from rfl] at hx197_0); replace p197 := eq_true p197; replace q197 := eq_true q197) | (go_at_call 75; (with_reducible refine (spec_l00In.calls (rd l0 1) 0 11 true _ A7.out).mono ?_); rintro e w' ⟨rfl, ⟨nd, rfl⟩⟩; (try first | exact ⟨rfl, _, dN⟩ | exact ⟨rfl, _, dM⟩); have p199 : 0 ≤ (0 : Int) := (by omega); have q199 : 0 < (l0.length : Int) := oT; obtain ⟨ad199, e199, hx199_0⟩ := Kd.at_int HR0.out 0 p199 q199; obtain rfl : ad195 = ad199 := (by injection e199); have qi199 : (0 < l0.length) = True := eq_true (by omega); (try rw [t00] at hx199_0); (try rw [Addr.add_zero'] at hx199_0); replace p199 := eq_true p199; replace q199 := eq_true q199; have p200 : 0 ≤ (1 : Int) := (by omega); have q200 : 1 < (l0.length : Int) := oT; obtain ⟨ad200, e200, hx200_0⟩ := Kd.at_int HR0.out 1 p200 q200; obtain rfl : ad195 = ad200 := (by injection e200); (try simp only [show (1 : Int).toNat = 1 from rfl, Nat.reduceMul, Nat.reduceEqDiff, Go.Addr.add, ↓reduceIte] at hx200_0); have qi200 : (1 < l0.length) = True := eq_true (by omega); (try rw [show ((1 : Int)).toNat = 1 from rfl] at hx200_0); replace p200 := eq_true p200; replace q200 := eq_true q200)))
      go_ret
      exact ⟨eT, dR⟩
     ·replace c8 := Bool.eq_false_iff.mpr c8
      subst c8
      have H1 : (some false) = some r := by rw [if_neg (show ¬ (false = true) by decide)] at H; exact H
      clear H
      have H := H1
      clear H1
      obtain rfl := Option.some.inj H
      have p195 : 0 ≤ (0 : Int) := (by omega)
      have q195 : 0 < (l0.length : Int) := oT
      obtain ⟨ad195, e195, hx195_0⟩ := Kd.at_int HR0.out 0 p195 q195
      cases e195
      have qi195 : (0 < l0.length) = True := eq_true (by omega)
      (try rw [t00] at hx195_0)
      (try rw [Addr.add_zero'] at hx195_0)
      replace p195 := eq_true p195
      replace q195 := eq_true q195
      go_enter Try.func130, Try.ntmps130
      go_wp2_with (first | (go_at_call 75; (with_reducible refine (spec_l00In.calls (rd l0 0) 0 11 true _ A4.out).mono ?_); rintro e w' ⟨rfl, ⟨nd, rfl⟩⟩; (try first | exact ⟨rfl, _, dN⟩ | exact ⟨rfl, _, dM⟩); have p197 : 0 ≤ (1 : Int) := (by omega); have q197 : 1 < (l0.length : Int) := oT; obtain ⟨ad197, e197, hx197_0⟩ := Kd.at_int HR0.out 1 p197 q197; obtain rfl : ad195 = ad197 := (by injection e197); (try simp only [show (1 : Int).toNat = 1 from rfl, Nat.reduceMul, Nat.reduceEqDiff, Go.Addr.add, ↓reduceIte] at hx197_0); have qi197 : (1 < l0.length) = True := eq_true (by omega); (try rw [show ((1 : Int)).toNat = 1 from rfl] at hx197_0); replace p197 := eq_true p197; replace q197 := eq_true q197) | (go_at_call 75; (with_reducible refine (spec_l00In.calls (rd l0 1) 0 11 false _ A7.out).mono ?_); rintro e w' ⟨rfl, ⟨nd, rfl⟩⟩; (try first | exact ⟨rfl, _, dN⟩ | exact ⟨rfl, _, dM⟩)))
      repeat (go_quiet (first | (go_at_call 75; (with_reducible refine (spec_l00In.calls (rd l0 0) 0 11 true _ A4.out).mono ?_); rintro e w' ⟨rfl, ⟨nd, rfl⟩⟩; (try first | exact ⟨rfl, _, dN⟩ | exact ⟨rfl, _, dM⟩); have p197 : 0 ≤ (1 : Int) := (by omega); have q197 : 1 < (l0.length : Int) := oT; obtain ⟨ad197, e197, hx197_0⟩ := Kd.at_int HR0.out 1 p197 q197; obtain rfl : ad195 = ad197 := (by injection e197); (try simp only [show (1 : Int).toNat = 1 from rfl, Nat.reduceMul, Nat.reduceEqDiff, Go.Addr.add, ↓reduceIte] at hx197_0); have qi197 : (1 < l0.length) = True := eq_true (by omega); (try rw [show ((1 : Int)).toNat = 1 from rfl] at hx197_0); replace p197 := eq_true p197; replace q197 := eq_true q197) | (go_at_call 75; (with_reducible refine (spec_l00In.calls (rd l0 1) 0 11 false _ A7.out).mono ?_); rintro e w' ⟨rfl, ⟨nd, rfl⟩⟩; (try first | exact ⟨rfl, _, dN⟩ | exact ⟨rfl, _, dM⟩))); try go_wp2_with (first | (go_at_call 75; (with_reducible refine (spec_l00In.calls (rd l0 0) 0 11 true _ A4.out).mono ?_); rintro e w' ⟨rfl, ⟨nd, rfl⟩⟩; (try first | exact ⟨rfl, _, dN⟩ | exact ⟨rfl, _, dM⟩); have p197 : 0 ≤ (1 : Int) := (by omega); have q197 : 1 < (l0.length : Int) := oT; obtain ⟨ad197, e197, hx197_0⟩ := Kd.at_int HR0.out 1 p197 q197; obtain rfl : ad195 = ad197 := (by injection e197); (try simp only [show (1 : Int).toNat = 1 from rfl, Nat.reduceMul, Nat.reduceEqDiff, Go.Addr.add, ↓reduceIte] at hx197_0); have qi197 : (1 < l0.length) = True := eq_true (by omega); (try rw [show ((1 : Int)).toNat = 1 from rfl] at hx197_0); replace p197 := eq_true p197; replace q197 := eq_true q197) | (go_at_call 75; (with_reducible refine (spec_l00In.calls (rd l0 1) 0 11 false _ A7.out).mono ?_); rintro e w' ⟨rfl, ⟨nd, rfl⟩⟩; (try first | exact ⟨rfl, _, dN⟩ | exact ⟨rfl, _, dM⟩))))
      go_ret
      exact ⟨eT, dR⟩
    ·rw [if_neg c6] at H
     exact absurd H (by simp)
   ·replace c5 := Bool.eq_false_iff.mpr c5
    subst c5
    have H1 : (some false) = some r := by rw [if_neg (show ¬ (false = true) by decide)] at H; exact H
    clear H
    have H := H1
    clear H1
    obtain rfl := Option.some.inj H
    have p195 : 0 ≤ (0 : Int) := (by omega)
    have q195 : 0 < (l0.length : Int) := oT
    obtain ⟨ad195, e195, hx195_0⟩ := Kd.at_int HR0.out 0 p195 q195
    cases e195
    have qi195 : (0 < l0.length) = True := eq_true (by omega)
    (try rw [t00] at hx195_0)
    (try rw [Addr.add_zero'] at hx195_0)
    replace p195 := eq_true p195
    replace q195 := eq_true q195
    go_enter Try.func130, Try.ntmps130
    go_wp2_with (first | (go_at_call 75; (with_reducible refine (spec_l00In.calls (rd l0 0) 0 11 false _ A4.out).mono ?_); rintro e w' ⟨rfl, ⟨nd, rfl⟩⟩; (try first | exact ⟨rfl, _, dN⟩ | exact ⟨rfl, _, dM⟩)))
    repeat (go_quiet (first | (go_at_call 75; (with_reducible refine (spec_l00In.calls (rd l0 0) 0 11 false _ A4.out).mono ?_); rintro e w' ⟨rfl, ⟨nd, rfl⟩⟩; (try first | exact ⟨rfl, _, dN⟩ | exact ⟨rfl, _, dM⟩))); try go_wp2_with (first | (go_at_call 75; (with_reducible refine (spec_l00In.calls (rd l0 0) 0 11 false _ A4.out).mono ?_); rintro e w' ⟨rfl, ⟨nd, rfl⟩⟩; (try first | exact ⟨rfl, _, dN⟩ | exact ⟨rfl, _, dM⟩))))
    go_ret
    exact ⟨eT, dR⟩
  ·rw [if_neg c3] at H
   exact absurd H (by simp)
 ·rw [if_neg c2] at H
  have c2b0 : ((l0.length : Int) == 2) = false := beq_eq_false_iff_ne.mpr c2
  have c2b1 : ((l0.length : Int) != 2) = true := bne_iff_ne.mpr c2
  obtain rfl := Option.some.inj H
  go_enter Try.func130, Try.ntmps130
  go_wp2
  repeat (go_quiet (fail); try go_wp2)
  go_ret
  exact ⟨eT, dR⟩


/-! ### spec_l05Pairs: function 112 -/
def gtB (p q : List Int) : Bool := decide (rd p 0 > rd q 0 ∨ (rd p 0 = rd q 0 ∧ rd p 1 ≥ rd q 1))
def spec_l05Pairs.l0 : Nat → List (List Int) → Nat → Option Bool
 | 0, _, _ => none
 | k + 1, x, i => if i < x.length then (spec_l05Pair.f (rd_L2 x (i : Int))).bind fun t => if t = true then (if i = 0 then spec_l05Pairs.l0 k x (i + 1) else if (rd_L2 x ((i - 1 : Nat) : Int)).length = 2 ∧ (rd_L2 x (i : Int)).length = 2 then (if gtB (rd_L2 x ((i - 1 : Nat) : Int)) (rd_L2 x (i : Int)) = true then some false else spec_l05Pairs.l0 k x (i + 1)) else none) else some false else some (decide ((x.length : Int) ≤ 8))
def spec_l05Pairs.f (k : Nat) (l0 : List (List Int)) : Option (Bool) := spec_l05Pairs.l0 k l0 0
theorem spec_l05Pairs.mono_l : ∀ k x i, LeO (spec_l05Pairs.l0 k x i) (spec_l05Pairs.l0 (k + 1) x i)
 | 0, _, _ => by rw [spec_l05Pairs.l0]; exact LeO.none _
 | k + 1, x, i => by
  rw [spec_l05Pairs.l0]
  conv => rhs; rw [spec_l05Pairs.l0]
  exact LeO.ite (LeO.bind (LeO.refl _) fun _ => LeO.ite (LeO.ite (spec_l05Pairs.mono_l k _ _) (LeO.ite (LeO.ite (LeO.refl _) (spec_l05Pairs.mono_l k _ _)) (LeO.refl _))) (LeO.refl _)) (LeO.refl _)
theorem spec_l05Pairs.mono : ∀ a0 k, LeO (spec_l05Pairs.f k a0) (spec_l05Pairs.f (k + 1) a0) := fun _ _ => spec_l05Pairs.mono_l _ _ _
theorem ps_ret {a b : Bool} (h : a = b) : Ending.returned (.bool a) = .returned (.bool b) := by rw [h]
theorem ps_cells {w : World} {A : Option Addr} {l : List Int} (h : Kd.C (Kd.int .i64) w A l.length l) (h2 : l.length = 2) : ∃ ad, A = some ad ∧ w.cell? ad = some (.int .i64 (rd l 0)) ∧ w.cell? ⟨ad.block, ad.off + 1, none⟩ = some (.int .i64 (rd l 1)) := by
 obtain ⟨ad, e, hx⟩ := Kd.at_int h 0 (by omega) (by omega)
 subst e
 obtain ⟨ad2, e2, hy⟩ := Kd.at_int h 1 (by omega) (by omega)
 obtain rfl := Option.some.inj e2
 exact ⟨ad, rfl, (congrArg w.cell? (show ad.add 0 = ad from Addr.add_zero' _)).symm.trans hx, hy⟩
set_option maxHeartbeats 4000000 in
set_option maxRecDepth 100000 in
theorem spec_l05Pairs.calls (k : Nat) (A0 : Option Addr) (c0 : Nat) (l0 : List (List Int)) (r : Bool) (w : World) (hr0 : Kd.C (Kd.slice 2 (Kd.int .i64)) w A0 l0.length l0) (hc0 : l0.length ≤ c0) (h : spec_l05Pairs.f k l0 = some r) :
  Calls Try.prog 112 #[.slice A0 l0.length c0] w fun e w' => e = .returned (.bool r) ∧ Drawn0 w w' := by
 have HR := Aside0.mk hr0
 have HH := Aside0.mk h
 have hn : l0.length ≤ 9223372036854775807 := hr0.2.1
 clear hr0 h hc0
 go_enter Try.func112, Try.ntmps112
 go_wp2
 go_loopg [3] k (fun kq v3 w' => ∃ i : Nat, v3 = .int .i64 (i : Int) ∧ i ≤ l0.length ∧ Aside0 (spec_l05Pairs.l0 kq l0 i = some r) ∧ Aside0 (kq ≤ k) ∧ Drawn0 w w')
 case atStart => exact ⟨0, rfl, Nat.zero_le _, HH, ⟨Nat.le_refl _⟩, Drawn0.refl _⟩
 case round =>
  clear HH
  obtain ⟨i, rfl, hi, HA, HK, ⟨nw, rfl⟩⟩ := hrel
  cases gk with
  | zero => exact absurd HA.out (by simp [spec_l05Pairs.l0])
  | succ k1 =>
   have h := HA.out
   clear HA
   rw [spec_l05Pairs.l0] at h
   by_cases hlt : i < l0.length
   ·rw [if_pos hlt] at h
    obtain ⟨t, ht, h⟩ := Option.bind_eq_some_iff.mp h
    have HT := Aside0.mk ht
    clear ht
    obtain ⟨ad, A1, c1, e, hx, hc1, hk1⟩ := at_L2 HR.out (i : Int) (by omega) (by omega)
    subst e
    rw [Int.toNat_natCast] at hx
    have HK1 := Aside0.mk hk1
    have HC1 := Aside0.mk hc1
    clear hk1 hc1
    cases t with
    | false =>
     have HE := Aside0.mk (Option.some.inj h)
     clear h
     go_wp2_with (first | (go_at_call 130; (with_reducible refine (spec_l05Pair.calls A1 c1 (rd_L2 l0 (i : Int)) _ _ ?s1 HC1.out HT.out).mono ?_); (case s1 => repeat (first | exact HK1.out | (with_reducible refine cN ?_ _) | (with_reducible refine cD ?_))); rintro e w' ⟨rfl, ⟨nd, rfl⟩⟩; (try first | exact ⟨rfl, _, dN⟩ | exact ⟨rfl, _, dM⟩)))
     repeat (go_quiet (first | (go_at_call 130; (with_reducible refine (spec_l05Pair.calls A1 c1 (rd_L2 l0 (i : Int)) _ _ ?s1 HC1.out HT.out).mono ?_); (case s1 => repeat (first | exact HK1.out | (with_reducible refine cN ?_ _) | (with_reducible refine cD ?_))); rintro e w' ⟨rfl, ⟨nd, rfl⟩⟩; (try first | exact ⟨rfl, _, dN⟩ | exact ⟨rfl, _, dM⟩))); try go_wp2)
     go_ret
     exact ⟨ps_ret HE.out, by first | exact ⟨_, rfl⟩ | exact ⟨_, World.drewN_drewN _ _ _⟩⟩
    | true =>
    rw [if_pos rfl] at h
    by_cases hz : i = 0
    ·rw [if_pos hz] at h
     have HH := Aside0.mk h
     have e6 : decide ((i : Int) > 0) = false := decide_eq_false (by omega)
     have e7 : decide (0 < (i : Int)) = false := decide_eq_false (by omega)
     have e8 : decide (0 < i) = false := decide_eq_false (by omega)
     clear h hz
     go_wp2_with (first | (go_at_call 130; (with_reducible refine (spec_l05Pair.calls A1 c1 (rd_L2 l0 (i : Int)) _ _ ?s1 HC1.out HT.out).mono ?_); (case s1 => repeat (first | exact HK1.out | (with_reducible refine cN ?_ _) | (with_reducible refine cD ?_))); rintro e w' ⟨rfl, ⟨nd, rfl⟩⟩; (try first | exact ⟨rfl, _, dN⟩ | exact ⟨rfl, _, dM⟩)))
     repeat (go_quiet (first | (go_at_call 130; (with_reducible refine (spec_l05Pair.calls A1 c1 (rd_L2 l0 (i : Int)) _ _ ?s1 HC1.out HT.out).mono ?_); (case s1 => repeat (first | exact HK1.out | (with_reducible refine cN ?_ _) | (with_reducible refine cD ?_))); rintro e w' ⟨rfl, ⟨nd, rfl⟩⟩; (try first | exact ⟨rfl, _, dN⟩ | exact ⟨rfl, _, dM⟩))); try go_wp2)
     go_roundg k1
     case measure => have := HK.out; omega
     case rel => exact ⟨i + 1, by go_num, by omega, HH, ⟨by have := HK.out; omega⟩, by first | exact ⟨_, rfl⟩ | exact ⟨_, World.drewN_drewN _ _ _⟩⟩
    ·rw [if_neg hz] at h
     by_cases h22 : (rd_L2 l0 ((i - 1 : Nat) : Int)).length = 2 ∧ (rd_L2 l0 (i : Int)).length = 2
     case neg => rw [if_neg h22] at h; exact absurd h (by simp)
     rw [if_pos h22] at h
     obtain ⟨ad3, A3, c3, e3, hx3, hc3, hk3⟩ := at_L2 HR.out ((i - 1 : Nat) : Int) (by omega) (by omega)
     obtain rfl := Option.some.inj e3
     clear e3
     rw [Int.toNat_natCast] at hx3
     obtain ⟨ap, rfl, p0, p1⟩ := ps_cells hk3 h22.1
     obtain ⟨aq, rfl, q0, q1⟩ := ps_cells HK1.out h22.2
     have PC : ∀ W : World, Kd.C (Kd.int .i64) W (some aq) (rd_L2 l0 (i : Int)).length (rd_L2 l0 (i : Int)) → Calls Try.prog 130 #[.slice (some aq) 2 c1] W (fun e w' => e = .returned (.bool true) ∧ Drawn0 W w') := fun W q => by
      have q3 := spec_l05Pair.calls (some aq) c1 (rd_L2 l0 (i : Int)) true W q HC1.out HT.out
      rwa [h22.2] at q3
     rw [h22.1] at hx3
     rw [h22.2] at hx
     have eW : IntKind.i64.wrap ((i : Int) - 1) = ((i - 1 : Nat) : Int) := (iW _).trans (by unfold wrap64; omega)
     have e6 : decide ((i : Int) > 0) = true := decide_eq_true (by omega)
     have e7 : decide (0 < (i : Int)) = true := decide_eq_true (by omega)
     have e8 : decide (0 < i) = true := decide_eq_true (by omega)
     have e9 : i - 1 < l0.length := by omega
     have e9' : ((i - 1 : Nat) : Int) < (l0.length : Int) := by omega
     clear hz h22 hk3 hc3
     by_cases g1 : rd (rd_L2 l0 ((i - 1 : Nat) : Int)) 0 > rd (rd_L2 l0 (i : Int)) 0
     ·rw [if_pos (show gtB _ _ = true from decide_eq_true (.inl g1))] at h
      have HE := Aside0.mk (Option.some.inj h)
      have g1b := decide_eq_true g1
      clear h g1
      go_wp2_with (first | (go_at_call 130; (with_reducible refine (PC _ ?s1).mono ?_); (case s1 => repeat (first | exact HK1.out | (with_reducible refine cN ?_ _) | (with_reducible refine cD ?_))); rintro e w' ⟨rfl, ⟨nd, rfl⟩⟩; (try first | exact ⟨rfl, _, dN⟩ | exact ⟨rfl, _, dM⟩)))
      repeat (go_quiet (first | (go_at_call 130; (with_reducible refine (PC _ ?s1).mono ?_); (case s1 => repeat (first | exact HK1.out | (with_reducible refine cN ?_ _) | (with_reducible refine cD ?_))); rintro e w' ⟨rfl, ⟨nd, rfl⟩⟩; (try first | exact ⟨rfl, _, dN⟩ | exact ⟨rfl, _, dM⟩))); try go_wp2)
      go_ret
      exact ⟨ps_ret HE.out, by first | exact ⟨_, rfl⟩ | exact ⟨_, World.drewN_drewN _ _ _⟩⟩
     ·have g1b := decide_eq_false g1
      by_cases g2 : rd (rd_L2 l0 ((i - 1 : Nat) : Int)) 0 = rd (rd_L2 l0 (i : Int)) 0
      ·have g2b := beq_iff_eq.2 g2
       by_cases g3 : rd (rd_L2 l0 ((i - 1 : Nat) : Int)) 1 ≥ rd (rd_L2 l0 (i : Int)) 1
       ·rw [if_pos (show gtB _ _ = true from decide_eq_true (.inr ⟨g2, g3⟩))] at h
        have HE := Aside0.mk (Option.some.inj h)
        have g3b := decide_eq_true g3
        clear h g1 g2 g3
        go_wp2_with (first | (go_at_call 130; (with_reducible refine (PC _ ?s1).mono ?_); (case s1 => repeat (first | exact HK1.out | (with_reducible refine cN ?_ _) | (with_reducible refine cD ?_))); rintro e w' ⟨rfl, ⟨nd, rfl⟩⟩; (try first | exact ⟨rfl, _, dN⟩ | exact ⟨rfl, _, dM⟩)))
        repeat (go_quiet (first | (go_at_call 130; (with_reducible refine (PC _ ?s1).mono ?_); (case s1 => repeat (first | exact HK1.out | (with_reducible refine cN ?_ _) | (with_reducible refine cD ?_))); rintro e w' ⟨rfl, ⟨nd, rfl⟩⟩; (try first | exact ⟨rfl, _, dN⟩ | exact ⟨rfl, _, dM⟩))); try go_wp2)
        go_ret
        exact ⟨ps_ret HE.out, by first | exact ⟨_, rfl⟩ | exact ⟨_, World.drewN_drewN _ _ _⟩⟩
       ·rw [if_neg (show ¬ gtB _ _ = true by simp only [gtB, decide_eq_true_eq]; rintro (q | q) <;> omega)] at h
        have HH := Aside0.mk h
        have g3b := decide_eq_false g3
        clear h g1 g2 g3
        go_wp2_with (first | (go_at_call 130; (with_reducible refine (PC _ ?s1).mono ?_); (case s1 => repeat (first | exact HK1.out | (with_reducible refine cN ?_ _) | (with_reducible refine cD ?_))); rintro e w' ⟨rfl, ⟨nd, rfl⟩⟩; (try first | exact ⟨rfl, _, dN⟩ | exact ⟨rfl, _, dM⟩)))
        repeat (go_quiet (first | (go_at_call 130; (with_reducible refine (PC _ ?s1).mono ?_); (case s1 => repeat (first | exact HK1.out | (with_reducible refine cN ?_ _) | (with_reducible refine cD ?_))); rintro e w' ⟨rfl, ⟨nd, rfl⟩⟩; (try first | exact ⟨rfl, _, dN⟩ | exact ⟨rfl, _, dM⟩))); try go_wp2)
        go_roundg k1
        case measure => have := HK.out; omega
        case rel => exact ⟨i + 1, by go_num, by omega, HH, ⟨by have := HK.out; omega⟩, by first | exact ⟨_, rfl⟩ | exact ⟨_, World.drewN_drewN _ _ _⟩⟩
      ·have g2b := beq_eq_false_iff_ne.2 g2
       rw [if_neg (show ¬ gtB _ _ = true by simp only [gtB, decide_eq_true_eq]; rintro (q | q) <;> omega)] at h
       have HH := Aside0.mk h
       clear h g1 g2
       go_wp2_with (first | (go_at_call 130; (with_reducible refine (PC _ ?s1).mono ?_); (case s1 => repeat (first | exact HK1.out | (with_reducible refine cN ?_ _) | (with_reducible refine cD ?_))); rintro e w' ⟨rfl, ⟨nd, rfl⟩⟩; (try first | exact ⟨rfl, _, dN⟩ | exact ⟨rfl, _, dM⟩)))
       repeat (go_quiet (first | (go_at_call 130; (with_reducible refine (PC _ ?s1).mono ?_); (case s1 => repeat (first | exact HK1.out | (with_reducible refine cN ?_ _) | (with_reducible refine cD ?_))); rintro e w' ⟨rfl, ⟨nd, rfl⟩⟩; (try first | exact ⟨rfl, _, dN⟩ | exact ⟨rfl, _, dM⟩))); try go_wp2)
       go_roundg k1
       case measure => have := HK.out; omega
       case rel => exact ⟨i + 1, by go_num, by omega, HH, ⟨by have := HK.out; omega⟩, by first | exact ⟨_, rfl⟩ | exact ⟨_, World.drewN_drewN _ _ _⟩⟩
   ·rw [if_neg hlt] at h
    have HE := Aside0.mk (Option.some.inj h)
    clear h
    go_wp2
    go_ret
    exact ⟨ps_ret HE.out, by first | exact ⟨_, rfl⟩ | exact ⟨_, World.drewN_drewN _ _ _⟩⟩

/-! ### spec_l05Ok: function 85 -/
def spec_l05Ok.f (k : Nat) (a0_0 : ByteArray) (l0_1 : List Int) (l0_2 : List Int) (a0_3 : Int) (a0_4 : Int) (l0_5 : List (List Int)) : Option (Bool) := (spec_l01Name.f k a0_0).bind fun t148 => (if t148 = true then ((spec_l03Scale.f k l0_1).bind fun t149 => (if t149 = true then ((spec_l03Scale.f k l0_2).bind fun t150 => (if t150 = true then ((spec_l05Tone.f k a0_0 l0_1 l0_2 a0_3 a0_4 l0_5 a0_3).bind fun t151 => (if t151 = true then ((spec_l05Tone.f k a0_0 l0_1 l0_2 a0_3 a0_4 l0_5 a0_4).bind fun t152 => (if t152 = true then (if a0_3 = a0_4 then (some false) else ((spec_l05Pairs.f k l0_5).bind fun t153 => (some t153))) else (some false))) else (some false))) else (some false))) else (some false))) else (some false))
theorem spec_l05Ok.mono : ∀ a0 a1 a2 a3 a4 a5 k, LeO (spec_l05Ok.f k a0 a1 a2 a3 a4 a5) (spec_l05Ok.f (k + 1) a0 a1 a2 a3 a4 a5) := fun _ _ _ _ _ _ _ => LeO.bind (spec_l01Name.mono _ _) fun _ => LeO.ite (LeO.bind (spec_l03Scale.mono _ _) fun _ => LeO.ite (LeO.bind (spec_l03Scale.mono _ _) fun _ => LeO.ite (LeO.bind (spec_l05Tone.mono _ _ _ _ _ _ _ _) fun _ => LeO.ite (LeO.bind (spec_l05Tone.mono _ _ _ _ _ _ _ _) fun _ => LeO.ite (LeO.ite (LeO.refl _) (LeO.bind (spec_l05Pairs.mono _ _) fun _ => LeO.refl _)) (LeO.refl _)) (LeO.refl _)) (LeO.refl _)) (LeO.refl _)) (LeO.refl _)
theorem ok_ret {a b : Bool} (h : a = b) : Ending.returned (.bool a) = .returned (.bool b) := by rw [h]
set_option maxHeartbeats 4000000 in
set_option maxRecDepth 100000 in
theorem spec_l05Ok.calls (k : Nat) (adp0 : Addr) (a0_0 : ByteArray) (l0_1 : List Int) (l0_2 : List Int) (a0_3 : Int) (a0_4 : Int) (l0_5 : List (List Int)) (r : Bool) (w : World) (hp0 : Kd.C k58 w (some adp0) 1 [(⟨a0_0, l0_1, l0_2, a0_3, a0_4, l0_5⟩ : S58)]) (h : spec_l05Ok.f k a0_0 l0_1 l0_2 a0_3 a0_4 l0_5 = some r) :
  Calls Try.prog 85 #[.pointer (some adp0)] w fun e w' => e = .returned (.bool r) ∧ Drawn0 w w' := by
 have hu := Try.underlying58
 have HP := Aside0.mk hp0
 obtain ⟨ad, A1, c1, A2, c2, A5, c5, e, hx0, hx1, hx2, hx3, hx4, hx5, hl1, hi1, hl2, hi2, hl5, hi5⟩ := at_T58 hp0 0 (by omega) (by omega)
 obtain rfl := Option.some.inj e
 replace hx0 : w.cell? adp0 = some (.string a0_0) := (congrArg w.cell? (show adp0.add 0 = adp0 from Addr.add_zero' _)).symm.trans hx0
 replace hx1 : w.cell? ⟨adp0.block, adp0.off + 1, none⟩ = some (.slice A1 l0_1.length c1) := hx1
 replace hx2 : w.cell? ⟨adp0.block, adp0.off + 2, none⟩ = some (.slice A2 l0_2.length c2) := hx2
 replace hx3 : w.cell? ⟨adp0.block, adp0.off + 3, none⟩ = some (.int .i64 a0_3) := hx3
 replace hx4 : w.cell? ⟨adp0.block, adp0.off + 4, none⟩ = some (.int .i64 a0_4) := hx4
 replace hx5 : w.cell? ⟨adp0.block, adp0.off + 5, none⟩ = some (.slice A5 l0_5.length c5) := hx5
 have HC1 := Aside0.mk (show l0_1.length ≤ c1 from hl1)
 have HC2 := Aside0.mk (show l0_2.length ≤ c2 from hl2)
 have HC5 := Aside0.mk (show l0_5.length ≤ c5 from hl5)
 have HR1 := Aside0.mk (show Kd.C (Kd.int .i64) w A1 l0_1.length l0_1 from hi1)
 have HR2 := Aside0.mk (show Kd.C (Kd.int .i64) w A2 l0_2.length l0_2 from hi2)
 have HR5 := Aside0.mk (show Kd.C (Kd.slice 2 (Kd.int .i64)) w A5 l0_5.length l0_5 from hi5)
 clear e hl1 hl2 hl5 hi1 hi2 hi5 hp0
 unfold spec_l05Ok.f at h
 go_enter Try.func85, Try.ntmps85
 obtain ⟨b0, x0, h⟩ := Option.bind_eq_some_iff.mp h
 have X0 := Aside0.mk x0
 clear x0
 cases b0 with
 | false =>
  have HE := Aside0.mk (Option.some.inj h)
  clear h
  go_wp2
  go_quiet (first | (go_at_call 109; (try simp only [iW]); (with_reducible refine (spec_l01Name.calls k a0_0 _ _ X0.out).mono ?_); rintro e w' ⟨rfl, ⟨nd, rfl⟩⟩; (try first | exact ⟨rfl, _, dN⟩ | exact ⟨rfl, _, dM⟩)))
  go_wp2
  go_ret
  exact ⟨ok_ret HE.out, ⟨_, rfl⟩⟩
 | true =>
 rw [if_pos rfl] at h
 obtain ⟨b1, x1, h⟩ := Option.bind_eq_some_iff.mp h
 have X1 := Aside0.mk x1
 clear x1
 cases b1 with
 | false =>
  have HE := Aside0.mk (Option.some.inj h)
  clear h
  go_wp2
  go_quiet (first | (go_at_call 109; (try simp only [iW]); (with_reducible refine (spec_l01Name.calls k a0_0 _ _ X0.out).mono ?_); rintro e w' ⟨rfl, ⟨nd, rfl⟩⟩; (try first | exact ⟨rfl, _, dN⟩ | exact ⟨rfl, _, dM⟩)) | (go_at_call 110; (try simp only [iW]); (with_reducible refine (spec_l03Scale.calls k A1 c1 l0_1 _ _ ?s1 HC1.out X1.out).mono ?_); (case s1 => repeat (first | exact HR1.out | (with_reducible refine cN ?_ _) | (with_reducible refine cD ?_))); rintro e w' ⟨rfl, ⟨nd, rfl⟩⟩; (try first | exact ⟨rfl, _, dN⟩ | exact ⟨rfl, _, dM⟩)))
  go_wp2
  go_ret
  exact ⟨ok_ret HE.out, ⟨_, rfl⟩⟩
 | true =>
 rw [if_pos rfl] at h
 obtain ⟨b2, x2, h⟩ := Option.bind_eq_some_iff.mp h
 have X2 := Aside0.mk x2
 clear x2
 cases b2 with
 | false =>
  have HE := Aside0.mk (Option.some.inj h)
  clear h
  go_wp2
  go_quiet (first | (go_at_call 109; (try simp only [iW]); (with_reducible refine (spec_l01Name.calls k a0_0 _ _ X0.out).mono ?_); rintro e w' ⟨rfl, ⟨nd, rfl⟩⟩; (try first | exact ⟨rfl, _, dN⟩ | exact ⟨rfl, _, dM⟩)) | (go_at_call 110; (try simp only [iW]); (with_reducible refine (spec_l03Scale.calls k A1 c1 l0_1 _ _ ?s1 HC1.out X1.out).mono ?_); (case s1 => repeat (first | exact HR1.out | (with_reducible refine cN ?_ _) | (with_reducible refine cD ?_))); rintro e w' ⟨rfl, ⟨nd, rfl⟩⟩; (try first | exact ⟨rfl, _, dN⟩ | exact ⟨rfl, _, dM⟩)) | (go_at_call 110; (try simp only [iW]); (with_reducible refine (spec_l03Scale.calls k A2 c2 l0_2 _ _ ?s1 HC2.out X2.out).mono ?_); (case s1 => repeat (first | exact HR2.out | (with_reducible refine cN ?_ _) | (with_reducible refine cD ?_))); rintro e w' ⟨rfl, ⟨nd, rfl⟩⟩; (try first | exact ⟨rfl, _, dN⟩ | exact ⟨rfl, _, dM⟩)))
  go_wp2
  go_ret
  exact ⟨ok_ret HE.out, ⟨_, rfl⟩⟩
 | true =>
 rw [if_pos rfl] at h
 obtain ⟨b3, x3, h⟩ := Option.bind_eq_some_iff.mp h
 have X3 := Aside0.mk x3
 clear x3
 cases b3 with
 | false =>
  have HE := Aside0.mk (Option.some.inj h)
  clear h
  go_wp2
  go_quiet (first | (go_at_call 109; (try simp only [iW]); (with_reducible refine (spec_l01Name.calls k a0_0 _ _ X0.out).mono ?_); rintro e w' ⟨rfl, ⟨nd, rfl⟩⟩; (try first | exact ⟨rfl, _, dN⟩ | exact ⟨rfl, _, dM⟩)) | (go_at_call 110; (try simp only [iW]); (with_reducible refine (spec_l03Scale.calls k A1 c1 l0_1 _ _ ?s1 HC1.out X1.out).mono ?_); (case s1 => repeat (first | exact HR1.out | (with_reducible refine cN ?_ _) | (with_reducible refine cD ?_))); rintro e w' ⟨rfl, ⟨nd, rfl⟩⟩; (try first | exact ⟨rfl, _, dN⟩ | exact ⟨rfl, _, dM⟩)) | (go_at_call 110; (try simp only [iW]); (with_reducible refine (spec_l03Scale.calls k A2 c2 l0_2 _ _ ?s1 HC2.out X2.out).mono ?_); (case s1 => repeat (first | exact HR2.out | (with_reducible refine cN ?_ _) | (with_reducible refine cD ?_))); rintro e w' ⟨rfl, ⟨nd, rfl⟩⟩; (try first | exact ⟨rfl, _, dN⟩ | exact ⟨rfl, _, dM⟩)) | (go_at_call 111; (try simp only [iW]); (with_reducible refine (spec_l05Tone.calls k adp0 a0_0 l0_1 l0_2 a0_3 a0_4 l0_5 a0_3 _ _ ?s1 X3.out).mono ?_); (case s1 => repeat (first | exact HP.out | (with_reducible refine cN ?_ _) | (with_reducible refine cD ?_))); rintro e w' ⟨rfl, ⟨nd, rfl⟩⟩; (try first | exact ⟨rfl, _, dN⟩ | exact ⟨rfl, _, dM⟩)))
  go_wp2
  go_ret
  exact ⟨ok_ret HE.out, ⟨_, rfl⟩⟩
 | true =>
 rw [if_pos rfl] at h
 obtain ⟨b4, x4, h⟩ := Option.bind_eq_some_iff.mp h
 have X4 := Aside0.mk x4
 clear x4
 cases b4 with
 | false =>
  have HE := Aside0.mk (Option.some.inj h)
  clear h
  go_wp2
  go_quiet (first | (go_at_call 109; (try simp only [iW]); (with_reducible refine (spec_l01Name.calls k a0_0 _ _ X0.out).mono ?_); rintro e w' ⟨rfl, ⟨nd, rfl⟩⟩; (try first | exact ⟨rfl, _, dN⟩ | exact ⟨rfl, _, dM⟩)) | (go_at_call 110; (try simp only [iW]); (with_reducible refine (spec_l03Scale.calls k A1 c1 l0_1 _ _ ?s1 HC1.out X1.out).mono ?_); (case s1 => repeat (first | exact HR1.out | (with_reducible refine cN ?_ _) | (with_reducible refine cD ?_))); rintro e w' ⟨rfl, ⟨nd, rfl⟩⟩; (try first | exact ⟨rfl, _, dN⟩ | exact ⟨rfl, _, dM⟩)) | (go_at_call 110; (try simp only [iW]); (with_reducible refine (spec_l03Scale.calls k A2 c2 l0_2 _ _ ?s1 HC2.out X2.out).mono ?_); (case s1 => repeat (first | exact HR2.out | (with_reducible refine cN ?_ _) | (with_reducible refine cD ?_))); rintro e w' ⟨rfl, ⟨nd, rfl⟩⟩; (try first | exact ⟨rfl, _, dN⟩ | exact ⟨rfl, _, dM⟩)) | (go_at_call 111; (try simp only [iW]); (with_reducible refine (spec_l05Tone.calls k adp0 a0_0 l0_1 l0_2 a0_3 a0_4 l0_5 a0_3 _ _ ?s1 X3.out).mono ?_); (case s1 => repeat (first | exact HP.out | (with_reducible refine cN ?_ _) | (with_reducible refine cD ?_))); rintro e w' ⟨rfl, ⟨nd, rfl⟩⟩; (try first | exact ⟨rfl, _, dN⟩ | exact ⟨rfl, _, dM⟩)) | (go_at_call 111; (try simp only [iW]); (with_reducible refine (spec_l05Tone.calls k adp0 a0_0 l0_1 l0_2 a0_3 a0_4 l0_5 a0_4 _ _ ?s1 X4.out).mono ?_); (case s1 => repeat (first | exact HP.out | (with_reducible refine cN ?_ _) | (with_reducible refine cD ?_))); rintro e w' ⟨rfl, ⟨nd, rfl⟩⟩; (try first | exact ⟨rfl, _, dN⟩ | exact ⟨rfl, _, dM⟩)))
  go_wp2
  go_ret
  exact ⟨ok_ret HE.out, ⟨_, rfl⟩⟩
 | true =>
 rw [if_pos rfl] at h
 by_cases c : a0_3 = a0_4
 ·rw [if_pos c] at h
  have HE := Aside0.mk (Option.some.inj h)
  have cb := beq_iff_eq.2 c
  have cc := bne_eq_false_iff_eq.2 c
  clear h c
  go_wp2
  go_quiet (first | (go_at_call 109; (try simp only [iW]); (with_reducible refine (spec_l01Name.calls k a0_0 _ _ X0.out).mono ?_); rintro e w' ⟨rfl, ⟨nd, rfl⟩⟩; (try first | exact ⟨rfl, _, dN⟩ | exact ⟨rfl, _, dM⟩)) | (go_at_call 110; (try simp only [iW]); (with_reducible refine (spec_l03Scale.calls k A1 c1 l0_1 _ _ ?s1 HC1.out X1.out).mono ?_); (case s1 => repeat (first | exact HR1.out | (with_reducible refine cN ?_ _) | (with_reducible refine cD ?_))); rintro e w' ⟨rfl, ⟨nd, rfl⟩⟩; (try first | exact ⟨rfl, _, dN⟩ | exact ⟨rfl, _, dM⟩)) | (go_at_call 110; (try simp only [iW]); (with_reducible refine (spec_l03Scale.calls k A2 c2 l0_2 _ _ ?s1 HC2.out X2.out).mono ?_); (case s1 => repeat (first | exact HR2.out | (with_reducible refine cN ?_ _) | (with_reducible refine cD ?_))); rintro e w' ⟨rfl, ⟨nd, rfl⟩⟩; (try first | exact ⟨rfl, _, dN⟩ | exact ⟨rfl, _, dM⟩)) | (go_at_call 111; (try simp only [iW]); (with_reducible refine (spec_l05Tone.calls k adp0 a0_0 l0_1 l0_2 a0_3 a0_4 l0_5 a0_3 _ _ ?s1 X3.out).mono ?_); (case s1 => repeat (first | exact HP.out | (with_reducible refine cN ?_ _) | (with_reducible refine cD ?_))); rintro e w' ⟨rfl, ⟨nd, rfl⟩⟩; (try first | exact ⟨rfl, _, dN⟩ | exact ⟨rfl, _, dM⟩)) | (go_at_call 111; (try simp only [iW]); (with_reducible refine (spec_l05Tone.calls k adp0 a0_0 l0_1 l0_2 a0_3 a0_4 l0_5 a0_4 _ _ ?s1 X4.out).mono ?_); (case s1 => repeat (first | exact HP.out | (with_reducible refine cN ?_ _) | (with_reducible refine cD ?_))); rintro e w' ⟨rfl, ⟨nd, rfl⟩⟩; (try first | exact ⟨rfl, _, dN⟩ | exact ⟨rfl, _, dM⟩)))
  go_wp2
  go_ret
  exact ⟨ok_ret HE.out, ⟨_, rfl⟩⟩
 ·rw [if_neg c] at h
  obtain ⟨b5, x5, h⟩ := Option.bind_eq_some_iff.mp h
  have X5 := Aside0.mk x5
  have HE := Aside0.mk (Option.some.inj h)
  have cb := beq_eq_false_iff_ne.2 c
  have cc := bne_iff_ne.2 c
  clear h c x5
  go_wp2
  go_quiet (first | (go_at_call 109; (try simp only [iW]); (with_reducible refine (spec_l01Name.calls k a0_0 _ _ X0.out).mono ?_); rintro e w' ⟨rfl, ⟨nd, rfl⟩⟩; (try first | exact ⟨rfl, _, dN⟩ | exact ⟨rfl, _, dM⟩)) | (go_at_call 110; (try simp only [iW]); (with_reducible refine (spec_l03Scale.calls k A1 c1 l0_1 _ _ ?s1 HC1.out X1.out).mono ?_); (case s1 => repeat (first | exact HR1.out | (with_reducible refine cN ?_ _) | (with_reducible refine cD ?_))); rintro e w' ⟨rfl, ⟨nd, rfl⟩⟩; (try first | exact ⟨rfl, _, dN⟩ | exact ⟨rfl, _, dM⟩)) | (go_at_call 110; (try simp only [iW]); (with_reducible refine (spec_l03Scale.calls k A2 c2 l0_2 _ _ ?s1 HC2.out X2.out).mono ?_); (case s1 => repeat (first | exact HR2.out | (with_reducible refine cN ?_ _) | (with_reducible refine cD ?_))); rintro e w' ⟨rfl, ⟨nd, rfl⟩⟩; (try first | exact ⟨rfl, _, dN⟩ | exact ⟨rfl, _, dM⟩)) | (go_at_call 111; (try simp only [iW]); (with_reducible refine (spec_l05Tone.calls k adp0 a0_0 l0_1 l0_2 a0_3 a0_4 l0_5 a0_3 _ _ ?s1 X3.out).mono ?_); (case s1 => repeat (first | exact HP.out | (with_reducible refine cN ?_ _) | (with_reducible refine cD ?_))); rintro e w' ⟨rfl, ⟨nd, rfl⟩⟩; (try first | exact ⟨rfl, _, dN⟩ | exact ⟨rfl, _, dM⟩)) | (go_at_call 111; (try simp only [iW]); (with_reducible refine (spec_l05Tone.calls k adp0 a0_0 l0_1 l0_2 a0_3 a0_4 l0_5 a0_4 _ _ ?s1 X4.out).mono ?_); (case s1 => repeat (first | exact HP.out | (with_reducible refine cN ?_ _) | (with_reducible refine cD ?_))); rintro e w' ⟨rfl, ⟨nd, rfl⟩⟩; (try first | exact ⟨rfl, _, dN⟩ | exact ⟨rfl, _, dM⟩)) | (go_at_call 112; (try simp only [iW]); (with_reducible refine (spec_l05Pairs.calls k A5 c5 l0_5 _ _ ?s1 HC5.out X5.out).mono ?_); (case s1 => repeat (first | exact HR5.out | (with_reducible refine cN ?_ _) | (with_reducible refine cD ?_))); rintro e w' ⟨rfl, ⟨nd, rfl⟩⟩; (try first | exact ⟨rfl, _, dN⟩ | exact ⟨rfl, _, dM⟩)))
  go_wp2
  go_ret
  exact ⟨ok_ret HE.out, ⟨_, rfl⟩⟩

/-! ### spec_l03Tone: function 120 -/
def spec_l03Tone.f (a0 : Int) : Option (Int) := some (Int.tmod (wrap64 ((Int.tmod a0 12) + 12)) 12)
set_option maxHeartbeats 8000000 in
set_option maxRecDepth 100000 in
theorem spec_l03Tone.calls (a0 : Int) (r : Int) (w : World) (h : spec_l03Tone.f a0 = some r) :
  Calls Try.prog 120 #[.int .i64 a0] w fun e w' => e = .returned (.int .i64 r) ∧ Drawn0 w w' := by
 have H : (some (Int.tmod (wrap64 ((Int.tmod a0 12) + 12)) 12)) = some r := h
 clear h
 obtain rfl := Option.some.inj H
 go_enter Try.func120, Try.ntmps120
 go_wp2
 go_ret
 exact ⟨eT, dR⟩

/-! ### spec_l00Max: function 132 -/
def spec_l00Max.f (a0 : Int) (a1 : Int) : Option (Int) := if a0 > a1 then (some a0) else (some a1)
set_option maxHeartbeats 8000000 in
set_option maxRecDepth 100000 in
theorem spec_l00Max.calls (a0 : Int) (a1 : Int) (r : Int) (w : World) (h : spec_l00Max.f a0 a1 = some r) :
  Calls Try.prog 132 #[.int .i64 a0, .int .i64 a1] w fun e w' => e = .returned (.int .i64 r) ∧ Drawn0 w w' := by
 have H : (if a0 > a1 then (some a0) else (some a1)) = some r := h
 clear h
 by_cases c3 : a0 > a1
 ·rw [if_pos c3] at H
  have c3b0 : decide (a1 < a0) = true := decide_eq_true c3
  clear c3
  obtain rfl := Option.some.inj H
  go_enter Try.func132, Try.ntmps132
  go_wp2
  go_ret
  exact ⟨eT, dR⟩
 ·rw [if_neg c3] at H
  have c3b0 : decide (a1 < a0) = false := decide_eq_false c3
  clear c3
  obtain rfl := Option.some.inj H
  go_enter Try.func132, Try.ntmps132
  go_wp2
  go_ret
  exact ⟨eT, dR⟩


/-! ### spec_l05Reason: function 121 -/
mutual
def spec_l05Reason.j0 : Nat → Int → Int → Int → Int → Bool → ByteArray → List Int → List Int → Int → Int → List (List Int) → Option (Int)
 | 0, _, _, _, _, _, _, _, _, _, _, _ => none
 | k + 1, x1, x2, x7, x8, x23, x1000, x1001, x1002, x1003, x1004, x1005 => if x23 = true then (some 1) else ((spec_l00Max.f (wrap64 (x1 - x2)) (wrap64 (x2 - x1))).bind fun t205 => (if t205 > 12 then (some 2) else (if x2 > x1 then ((spec_l00Has.f k x1001 x8).bind fun t207 => (spec_l05Reason.j1 k x1 x2 x7 x8 (!t207) x1000 x1001 x1002 x1003 x1004 x1005)) else (spec_l05Reason.j1 k x1 x2 x7 x8 false x1000 x1001 x1002 x1003 x1004 x1005))))
def spec_l05Reason.j1 : Nat → Int → Int → Int → Int → Bool → ByteArray → List Int → List Int → Int → Int → List (List Int) → Option (Int)
 | 0, _, _, _, _, _, _, _, _, _, _, _ => none
 | k + 1, x1, x2, x7, x8, x43, x1000, x1001, x1002, x1003, x1004, x1005 => if x43 = true then (some 3) else (if x2 < x1 then ((spec_l00Has.f k x1002 x8).bind fun t209 => (spec_l05Reason.j2 k x7 x8 (!t209) x1000 x1001 x1002 x1003 x1004 x1005)) else (spec_l05Reason.j2 k x7 x8 false x1000 x1001 x1002 x1003 x1004 x1005))
def spec_l05Reason.j2 : Nat → Int → Int → Bool → ByteArray → List Int → List Int → Int → Int → List (List Int) → Option (Int)
 | 0, _, _, _, _, _, _, _, _, _ => none
 | k + 1, x7, x8, x55, x1000, x1001, x1002, x1003, x1004, x1005 => if x55 = true then (some 4) else (spec_l05Reason.l0 k x7 x8 0 x1000 x1001 x1002 x1003 x1004 x1005)
def spec_l05Reason.l0 : Nat → Int → Int → Int → ByteArray → List Int → List Int → Int → Int → List (List Int) → Option (Int)
 | 0, _, _, _, _, _, _, _, _, _ => none
 | k + 1, x7, x8, x9, x1000, x1001, x1002, x1003, x1004, x1005 => if x9 < (x1005.length : Int) then (if 0 ≤ x9 then (if 0 < ((rd_L2 x1005 x9).length : Int) then (if (rd (rd_L2 x1005 x9) 0) = x7 then (if 1 < ((rd_L2 x1005 x9).length : Int) then (if (rd (rd_L2 x1005 x9) 1) = x8 then (some 5) else (spec_l05Reason.l0 k x7 x8 (wrap64 (x9 + 1)) x1000 x1001 x1002 x1003 x1004 x1005)) else (none)) else (spec_l05Reason.l0 k x7 x8 (wrap64 (x9 + 1)) x1000 x1001 x1002 x1003 x1004 x1005)) else (none)) else (none)) else (some 0)
end
def spec_l05Reason.f (k : Nat) (a0_0 : ByteArray) (l0_1 : List Int) (l0_2 : List Int) (a0_3 : Int) (a0_4 : Int) (l0_5 : List (List Int)) (a1 : Int) (a2 : Int) : Option (Int) := (spec_l03Tone.f a1).bind fun t201 => ((spec_l03Tone.f a2).bind fun t202 => ((spec_l05Tone.f k a0_0 l0_1 l0_2 a0_3 a0_4 l0_5 t201).bind fun t203 => (if t203 = true then ((spec_l05Tone.f k a0_0 l0_1 l0_2 a0_3 a0_4 l0_5 t202).bind fun t204 => (spec_l05Reason.j0 k a1 a2 t201 t202 (!t204) a0_0 l0_1 l0_2 a0_3 a0_4 l0_5)) else (spec_l05Reason.j0 k a1 a2 t201 t202 true a0_0 l0_1 l0_2 a0_3 a0_4 l0_5))))
theorem spec_l05Reason.mono_l : ∀ k, (∀ y0 y1 y2 y3 y4 y5 y6 y7 y8 y9 y10, LeO (spec_l05Reason.j0 k y0 y1 y2 y3 y4 y5 y6 y7 y8 y9 y10) (spec_l05Reason.j0 (k + 1) y0 y1 y2 y3 y4 y5 y6 y7 y8 y9 y10)) ∧ (∀ y0 y1 y2 y3 y4 y5 y6 y7 y8 y9 y10, LeO (spec_l05Reason.j1 k y0 y1 y2 y3 y4 y5 y6 y7 y8 y9 y10) (spec_l05Reason.j1 (k + 1) y0 y1 y2 y3 y4 y5 y6 y7 y8 y9 y10)) ∧ (∀ y0 y1 y2 y3 y4 y5 y6 y7 y8, LeO (spec_l05Reason.j2 k y0 y1 y2 y3 y4 y5 y6 y7 y8) (spec_l05Reason.j2 (k + 1) y0 y1 y2 y3 y4 y5 y6 y7 y8)) ∧ (∀ y0 y1 y2 y3 y4 y5 y6 y7 y8, LeO (spec_l05Reason.l0 k y0 y1 y2 y3 y4 y5 y6 y7 y8) (spec_l05Reason.l0 (k + 1) y0 y1 y2 y3 y4 y5 y6 y7 y8))
 | 0 => ⟨fun _ _ _ _ _ _ _ _ _ _ _ r h => by simp [spec_l05Reason.j0] at h, fun _ _ _ _ _ _ _ _ _ _ _ r h => by simp [spec_l05Reason.j1] at h, fun _ _ _ _ _ _ _ _ _ r h => by simp [spec_l05Reason.j2] at h, fun _ _ _ _ _ _ _ _ _ r h => by simp [spec_l05Reason.l0] at h⟩
 | k + 1 => by
  obtain ⟨ih0, ih1, ih2, ih3⟩ := spec_l05Reason.mono_l k
  refine ⟨?_, ?_, ?_, ?_⟩
  ·intro y0 y1 y2 y3 y4 y5 y6 y7 y8 y9 y10
   unfold spec_l05Reason.j0
   repeat' first
   | (with_reducible exact ih0 _ _ _ _ _ _ _ _ _ _ _)
   | (with_reducible exact ih1 _ _ _ _ _ _ _ _ _ _ _)
   | (with_reducible exact ih2 _ _ _ _ _ _ _ _ _)
   | (with_reducible exact ih3 _ _ _ _ _ _ _ _ _)
   | (with_reducible exact spec_l00Has.mono _ _ _)
   | (with_reducible exact spec_l05Tone.mono _ _ _ _ _ _ _ _)
   | (with_reducible exact LeO.refl _)
   | (with_reducible exact LeO.none _)
   | (with_reducible refine LeO.ite ?_ ?_)
   | (with_reducible refine LeO.bind ?_ (fun _ => ?_))
   | exact ih0 _ _ _ _ _ _ _ _ _ _ _
   | exact ih1 _ _ _ _ _ _ _ _ _ _ _
   | exact ih2 _ _ _ _ _ _ _ _ _
   | exact ih3 _ _ _ _ _ _ _ _ _
   | exact spec_l00Has.mono _ _ _
   | exact spec_l05Tone.mono _ _ _ _ _ _ _ _
   | exact LeO.none _
   | refine LeO.ite ?_ ?_
   | refine LeO.bind ?_ (fun _ => ?_)
  ·intro y0 y1 y2 y3 y4 y5 y6 y7 y8 y9 y10
   unfold spec_l05Reason.j1
   repeat' first
   | (with_reducible exact ih0 _ _ _ _ _ _ _ _ _ _ _)
   | (with_reducible exact ih1 _ _ _ _ _ _ _ _ _ _ _)
   | (with_reducible exact ih2 _ _ _ _ _ _ _ _ _)
   | (with_reducible exact ih3 _ _ _ _ _ _ _ _ _)
   | (with_reducible exact spec_l00Has.mono _ _ _)
   | (with_reducible exact spec_l05Tone.mono _ _ _ _ _ _ _ _)
   | (with_reducible exact LeO.refl _)
   | (with_reducible exact LeO.none _)
   | (with_reducible refine LeO.ite ?_ ?_)
   | (with_reducible refine LeO.bind ?_ (fun _ => ?_))
   | exact ih0 _ _ _ _ _ _ _ _ _ _ _
   | exact ih1 _ _ _ _ _ _ _ _ _ _ _
   | exact ih2 _ _ _ _ _ _ _ _ _
   | exact ih3 _ _ _ _ _ _ _ _ _
   | exact spec_l00Has.mono _ _ _
   | exact spec_l05Tone.mono _ _ _ _ _ _ _ _
   | exact LeO.none _
   | refine LeO.ite ?_ ?_
   | refine LeO.bind ?_ (fun _ => ?_)
  ·intro y0 y1 y2 y3 y4 y5 y6 y7 y8
   unfold spec_l05Reason.j2
   repeat' first
   | (with_reducible exact ih0 _ _ _ _ _ _ _ _ _ _ _)
   | (with_reducible exact ih1 _ _ _ _ _ _ _ _ _ _ _)
   | (with_reducible exact ih2 _ _ _ _ _ _ _ _ _)
   | (with_reducible exact ih3 _ _ _ _ _ _ _ _ _)
   | (with_reducible exact spec_l00Has.mono _ _ _)
   | (with_reducible exact spec_l05Tone.mono _ _ _ _ _ _ _ _)
   | (with_reducible exact LeO.refl _)
   | (with_reducible exact LeO.none _)
   | (with_reducible refine LeO.ite ?_ ?_)
   | (with_reducible refine LeO.bind ?_ (fun _ => ?_))
   | exact ih0 _ _ _ _ _ _ _ _ _ _ _
   | exact ih1 _ _ _ _ _ _ _ _ _ _ _
   | exact ih2 _ _ _ _ _ _ _ _ _
   | exact ih3 _ _ _ _ _ _ _ _ _
   | exact spec_l00Has.mono _ _ _
   | exact spec_l05Tone.mono _ _ _ _ _ _ _ _
   | exact LeO.none _
   | refine LeO.ite ?_ ?_
   | refine LeO.bind ?_ (fun _ => ?_)
  ·intro y0 y1 y2 y3 y4 y5 y6 y7 y8
   unfold spec_l05Reason.l0
   repeat' first
   | (with_reducible exact ih0 _ _ _ _ _ _ _ _ _ _ _)
   | (with_reducible exact ih1 _ _ _ _ _ _ _ _ _ _ _)
   | (with_reducible exact ih2 _ _ _ _ _ _ _ _ _)
   | (with_reducible exact ih3 _ _ _ _ _ _ _ _ _)
   | (with_reducible exact spec_l00Has.mono _ _ _)
   | (with_reducible exact spec_l05Tone.mono _ _ _ _ _ _ _ _)
   | (with_reducible exact LeO.refl _)
   | (with_reducible exact LeO.none _)
   | (with_reducible refine LeO.ite ?_ ?_)
   | (with_reducible refine LeO.bind ?_ (fun _ => ?_))
   | exact ih0 _ _ _ _ _ _ _ _ _ _ _
   | exact ih1 _ _ _ _ _ _ _ _ _ _ _
   | exact ih2 _ _ _ _ _ _ _ _ _
   | exact ih3 _ _ _ _ _ _ _ _ _
   | exact spec_l00Has.mono _ _ _
   | exact spec_l05Tone.mono _ _ _ _ _ _ _ _
   | exact LeO.none _
   | refine LeO.ite ?_ ?_
   | refine LeO.bind ?_ (fun _ => ?_)
theorem spec_l05Reason.mono : ∀ a0 a1 a2 a3 a4 a5 a6 a7 k, LeO (spec_l05Reason.f k a0 a1 a2 a3 a4 a5 a6 a7) (spec_l05Reason.f (k + 1) a0 a1 a2 a3 a4 a5 a6 a7) := by
 intro a0 a1 a2 a3 a4 a5 a6 a7 k
 obtain ⟨ih0, ih1, ih2, ih3⟩ := spec_l05Reason.mono_l k
 unfold spec_l05Reason.f
 repeat' first
   | (with_reducible exact ih0 _ _ _ _ _ _ _ _ _ _ _)
   | (with_reducible exact ih1 _ _ _ _ _ _ _ _ _ _ _)
   | (with_reducible exact ih2 _ _ _ _ _ _ _ _ _)
   | (with_reducible exact ih3 _ _ _ _ _ _ _ _ _)
   | (with_reducible exact spec_l00Has.mono _ _ _)
   | (with_reducible exact spec_l05Tone.mono _ _ _ _ _ _ _ _)
   | (with_reducible exact LeO.refl _)
   | (with_reducible exact LeO.none _)
   | (with_reducible refine LeO.ite ?_ ?_)
   | (with_reducible refine LeO.bind ?_ (fun _ => ?_))
   | exact ih0 _ _ _ _ _ _ _ _ _ _ _
   | exact ih1 _ _ _ _ _ _ _ _ _ _ _
   | exact ih2 _ _ _ _ _ _ _ _ _
   | exact ih3 _ _ _ _ _ _ _ _ _
   | exact spec_l00Has.mono _ _ _
   | exact spec_l05Tone.mono _ _ _ _ _ _ _ _
   | exact LeO.none _
   | refine LeO.ite ?_ ?_
   | refine LeO.bind ?_ (fun _ => ?_)
set_option maxHeartbeats 8000000 in
set_option maxRecDepth 100000 in
theorem spec_l05Reason.calls (k : Nat) (adp0 : Addr) (a0_0 : ByteArray) (l0_1 : List Int) (l0_2 : List Int) (a0_3 : Int) (a0_4 : Int) (l0_5 : List (List Int)) (a1 : Int) (a2 : Int) (r : Int) (w : World) (hp0 : Kd.C k58 w (some adp0) 1 [(⟨a0_0, l0_1, l0_2, a0_3, a0_4, l0_5⟩ : S58)]) (h : spec_l05Reason.f k a0_0 l0_1 l0_2 a0_3 a0_4 l0_5 a1 a2 = some r) :
  Calls Try.prog 121 #[.pointer (some adp0), .int .i64 a1, .int .i64 a2] w fun e w' => e = .returned (.int .i64 r) ∧ Drawn0 w w' := by
 have HRp0 := Aside0.mk hp0
 clear hp0
 have H : ((spec_l03Tone.f a1).bind fun t201 => ((spec_l03Tone.f a2).bind fun t202 => ((spec_l05Tone.f k a0_0 l0_1 l0_2 a0_3 a0_4 l0_5 t201).bind fun t203 => (if t203 = true then ((spec_l05Tone.f k a0_0 l0_1 l0_2 a0_3 a0_4 l0_5 t202).bind fun t204 => (spec_l05Reason.j0 k a1 a2 t201 t202 (!t204) a0_0 l0_1 l0_2 a0_3 a0_4 l0_5)) else (spec_l05Reason.j0 k a1 a2 t201 t202 true a0_0 l0_1 l0_2 a0_3 a0_4 l0_5))))) = some r := h
 clear h
 replace H := Option.bind_eq_some_iff.mp H
 obtain ⟨t201, A40, H⟩ := H
 replace H : ((spec_l03Tone.f a2).bind fun t202 => ((spec_l05Tone.f k a0_0 l0_1 l0_2 a0_3 a0_4 l0_5 t201).bind fun t203 => (if t203 = true then ((spec_l05Tone.f k a0_0 l0_1 l0_2 a0_3 a0_4 l0_5 t202).bind fun t204 => (spec_l05Reason.j0 k a1 a2 t201 t202 (!t204) a0_0 l0_1 l0_2 a0_3 a0_4 l0_5)) else (spec_l05Reason.j0 k a1 a2 t201 t202 true a0_0 l0_1 l0_2 a0_3 a0_4 l0_5)))) = some r := H
 have A4 := Aside0.mk A40
 clear A40
 replace H := Option.bind_eq_some_iff.mp H
 obtain ⟨t202, A50, H⟩ := H
 replace H : ((spec_l05Tone.f k a0_0 l0_1 l0_2 a0_3 a0_4 l0_5 t201).bind fun t203 => (if t203 = true then ((spec_l05Tone.f k a0_0 l0_1 l0_2 a0_3 a0_4 l0_5 t202).bind fun t204 => (spec_l05Reason.j0 k a1 a2 t201 t202 (!t204) a0_0 l0_1 l0_2 a0_3 a0_4 l0_5)) else (spec_l05Reason.j0 k a1 a2 t201 t202 true a0_0 l0_1 l0_2 a0_3 a0_4 l0_5))) = some r := H
 have A5 := Aside0.mk A50
 clear A50
 have HC6 := Aside0.mk H
 clear H
 go_enter Try.func121, Try.ntmps121
 go_upto_region 3 with (first | ((with_reducible refine gC (f := 120) rfl ?_); refine goesL_ (some 11) rfl rfl Try.func120 (by kernel_rfl) rfl #[.int .i64 a1] rfl lQ ?_; (with_reducible refine (spec_l03Tone.calls a1 t201 _ A4.out).mono ?_); rintro e w' ⟨rfl, ⟨nd, rfl⟩⟩; refine ⟨_, rfl, ?_⟩) | ((with_reducible refine gC (f := 120) rfl ?_); refine goesL_ (some 13) rfl rfl Try.func120 (by kernel_rfl) rfl #[.int .i64 a2] rfl lQ ?_; (with_reducible refine (spec_l03Tone.calls a2 t202 _ A5.out).mono ?_); rintro e w' ⟨rfl, ⟨nd, rfl⟩⟩; refine ⟨_, rfl, ?_⟩))
 (try simp only [Act.put, sI, sZ, sS])
 go_cut [23] (fun v23 wc => ∃ (kq : Nat) (x23_5 : Bool), v23 = .bool x23_5 ∧ Aside0 (spec_l05Reason.j0 kq a1 a2 t201 t202 x23_5 a0_0 l0_1 l0_2 a0_3 a0_4 l0_5 = some r) ∧ Aside0 (kq ≤ k) ∧ Drawn0 w wc)
 case first =>
  have H := HC6.out
  clear HC6
  replace H := Option.bind_eq_some_iff.mp H
  obtain ⟨t203, A70, H⟩ := H
  replace H : (if t203 = true then ((spec_l05Tone.f k a0_0 l0_1 l0_2 a0_3 a0_4 l0_5 t202).bind fun t204 => (spec_l05Reason.j0 k a1 a2 t201 t202 (!t204) a0_0 l0_1 l0_2 a0_3 a0_4 l0_5)) else (spec_l05Reason.j0 k a1 a2 t201 t202 true a0_0 l0_1 l0_2 a0_3 a0_4 l0_5)) = some r := H
  have A7 := Aside0.mk A70
  clear A70
  by_cases c8 : t203 = true
  ·subst c8
   have H1 : ((spec_l05Tone.f k a0_0 l0_1 l0_2 a0_3 a0_4 l0_5 t202).bind fun t204 => (spec_l05Reason.j0 k a1 a2 t201 t202 (!t204) a0_0 l0_1 l0_2 a0_3 a0_4 l0_5)) = some r := by rw [if_pos rfl] at H; exact H
   clear H
   have H := H1
   clear H1
   replace H := Option.bind_eq_some_iff.mp H
   obtain ⟨t204, A90, H⟩ := H
   replace H : (spec_l05Reason.j0 k a1 a2 t201 t202 (!t204) a0_0 l0_1 l0_2 a0_3 a0_4 l0_5) = some r := H
   have A9 := Aside0.mk A90
   clear A90
   have H' := Aside0.mk H
   clear H
   go_wp2_with (first | ((with_reducible refine gC (f := 111) rfl ?_); refine goesL_ (some 16) rfl rfl Try.func111 (by kernel_rfl) rfl #[.pointer (some adp0), .int .i64 t201] rfl lQ ?_; (with_reducible refine (spec_l05Tone.calls k adp0 a0_0 l0_1 l0_2 a0_3 a0_4 l0_5 t201 true _ ?side1 A7.out).mono ?_); (case side1 => exact cQ HRp0); rintro e w' ⟨rfl, ⟨nd, rfl⟩⟩; refine ⟨_, rfl, ?_⟩) | (go_at_call 111; (with_reducible refine (spec_l05Tone.calls k adp0 a0_0 l0_1 l0_2 a0_3 a0_4 l0_5 t202 t204 _ ?side1 A9.out).mono ?_); (case side1 => exact cQ HRp0); rintro e w' ⟨rfl, ⟨nd, rfl⟩⟩))
   go_meet
   case rel => exact ⟨_, (!t204), eT, H', ⟨by first | omega | exact Nat.le_refl _⟩, dR⟩
  ·replace c8 := Bool.eq_false_iff.mpr c8
   subst c8
   have H1 : (spec_l05Reason.j0 k a1 a2 t201 t202 true a0_0 l0_1 l0_2 a0_3 a0_4 l0_5) = some r := by rw [if_neg (show ¬ (false = true) by decide)] at H; exact H
   clear H
   have H := H1
   clear H1
   have H' := Aside0.mk H
   clear H
   go_wp2_with (first | ((with_reducible refine gC (f := 111) rfl ?_); refine goesL_ (some 16) rfl rfl Try.func111 (by kernel_rfl) rfl #[.pointer (some adp0), .int .i64 t201] rfl lQ ?_; (with_reducible refine (spec_l05Tone.calls k adp0 a0_0 l0_1 l0_2 a0_3 a0_4 l0_5 t201 false _ ?side1 A7.out).mono ?_); (case side1 => exact cQ HRp0); rintro e w' ⟨rfl, ⟨nd, rfl⟩⟩; refine ⟨_, rfl, ?_⟩))
   go_meet
   case rel => exact ⟨_, (true), eT, H', ⟨by first | omega | exact Nat.le_refl _⟩, dR⟩
 case rest =>
  clear HC6
  try clear c1
  try clear p2
  try clear c8
  obtain ⟨kq, x23_5, rfl, HA, HJ5, ⟨mc5, rfl⟩⟩ := hcut
  cases kq with
  | zero => exact absurd HA.out (by simp [spec_l05Reason.j0])
  | succ kj5 =>
   have H := HA.out
   clear HA
   simp only [spec_l05Reason.j0] at H
   by_cases c10 : x23_5 = true
   ·subst c10
    have H1 : (some 1) = some r := by rw [if_pos rfl] at H; exact H
    clear H
    have H := H1
    clear H1
    obtain rfl := Option.some.inj H
    go_wp2
    go_ret
    exact ⟨eT, dR⟩
   ·replace c10 := Bool.eq_false_iff.mpr c10
    subst c10
    have H1 : ((spec_l00Max.f (wrap64 (a1 - a2)) (wrap64 (a2 - a1))).bind fun t205 => (if t205 > 12 then (some 2) else (if a2 > a1 then ((spec_l00Has.f kj5 l0_1 t202).bind fun t207 => (spec_l05Reason.j1 kj5 a1 a2 t201 t202 (!t207) a0_0 l0_1 l0_2 a0_3 a0_4 l0_5)) else (spec_l05Reason.j1 kj5 a1 a2 t201 t202 false a0_0 l0_1 l0_2 a0_3 a0_4 l0_5)))) = some r := by rw [if_neg (show ¬ (false = true) by decide)] at H; exact H
    clear H
    have H := H1
    clear H1
    replace H := Option.bind_eq_some_iff.mp H
    obtain ⟨t205, A110, H⟩ := H
    replace H : (if t205 > 12 then (some 2) else (if a2 > a1 then ((spec_l00Has.f kj5 l0_1 t202).bind fun t207 => (spec_l05Reason.j1 kj5 a1 a2 t201 t202 (!t207) a0_0 l0_1 l0_2 a0_3 a0_4 l0_5)) else (spec_l05Reason.j1 kj5 a1 a2 t201 t202 false a0_0 l0_1 l0_2 a0_3 a0_4 l0_5))) = some r := H
    have A11 := Aside0.mk A110
    clear A110
    by_cases c12 : t205 > 12
    ·rw [if_pos c12] at H
     have c12b0 : decide (12 < t205) = true := decide_eq_true c12
     clear c12
     obtain rfl := Option.some.inj H
     go_wp2_with (first | ((with_reducible refine gC (f := 132) rfl ?_); refine goesL_ (some 30) rfl rfl Try.func132 (by kernel_rfl) rfl #[.int .i64 (wrap64 (a1 - a2)), .int .i64 (wrap64 (a2 - a1))] rfl lQ ?_; (with_reducible refine (spec_l00Max.calls (wrap64 (a1 - a2)) (wrap64 (a2 - a1)) t205 _ A11.out).mono ?_); rintro e w' ⟨rfl, ⟨nd, rfl⟩⟩; refine ⟨_, rfl, ?_⟩))
     go_ret
     exact ⟨eT, dR⟩
    ·rw [if_neg c12] at H
     have c12b0 : decide (12 < t205) = false := decide_eq_false c12
     clear c12
     have HC13 := Aside0.mk H
     clear H
     go_upto_region 7 with (first | ((with_reducible refine gC (f := 132) rfl ?_); refine goesL_ (some 30) rfl rfl Try.func132 (by kernel_rfl) rfl #[.int .i64 (wrap64 (a1 - a2)), .int .i64 (wrap64 (a2 - a1))] rfl lQ ?_; (with_reducible refine (spec_l00Max.calls (wrap64 (a1 - a2)) (wrap64 (a2 - a1)) t205 _ A11.out).mono ?_); rintro e w' ⟨rfl, ⟨nd, rfl⟩⟩; refine ⟨_, rfl, ?_⟩))
     (try simp only [Act.put, sI, sZ, sS])
     go_cut [43] (fun v43 wc => ∃ (kq : Nat) (x43_12 : Bool), v43 = .bool x43_12 ∧ Aside0 (spec_l05Reason.j1 kq a1 a2 t201 t202 x43_12 a0_0 l0_1 l0_2 a0_3 a0_4 l0_5 = some r) ∧ Aside0 (kq ≤ kj5) ∧ Drawn0 w wc)
     case first =>
      have H := HC13.out
      clear HC13
      by_cases c14 : a2 > a1
      ·rw [if_pos c14] at H
       have c14b0 : decide (a1 < a2) = true := decide_eq_true c14
       clear c14
       (first | rw [c14b0] | (simp only [iW, jW]; rw [c14b0]) | skip)
       replace H := Option.bind_eq_some_iff.mp H
       obtain ⟨t207, A150, H⟩ := H
       replace H : (spec_l05Reason.j1 kj5 a1 a2 t201 t202 (!t207) a0_0 l0_1 l0_2 a0_3 a0_4 l0_5) = some r := H
       have A15 := Aside0.mk A150
       clear A150
       have H' := Aside0.mk H
       clear H
       have p206 : 0 ≤ (0 : Int) := (by omega)
       have q206 : 0 < ([(⟨a0_0, l0_1, l0_2, a0_3, a0_4, l0_5⟩ : S58)].length : Int) := (by simp)
       obtain ⟨ad206, A206_1, c206_1, A206_2, c206_2, A206_5, c206_5, e206, hx206_0, hx206_1, hx206_2, hx206_3, hx206_4, hx206_5, hl206_1, hi206_1, hl206_2, hi206_2, hl206_5, hi206_5⟩ := at_T58 HRp0.out 0 p206 q206
       replace hx206_0 : _ = (some (.string a0_0) : Option Value) := hx206_0
       replace hx206_1 : _ = (some (.slice A206_1 l0_1.length c206_1) : Option Value) := hx206_1
       replace hi206_1 : Kd.C (Kd.int .i64) _ _ l0_1.length l0_1 := hi206_1
       replace hl206_1 : l0_1.length ≤ _ := hl206_1
       replace hx206_2 : _ = (some (.slice A206_2 l0_2.length c206_2) : Option Value) := hx206_2
       replace hi206_2 : Kd.C (Kd.int .i64) _ _ l0_2.length l0_2 := hi206_2
       replace hl206_2 : l0_2.length ≤ _ := hl206_2
       replace hx206_3 : _ = (some (.int .i64 a0_3) : Option Value) := hx206_3
       replace hx206_4 : _ = (some (.int .i64 a0_4) : Option Value) := hx206_4
       replace hx206_5 : _ = (some (.slice A206_5 l0_5.length c206_5) : Option Value) := hx206_5
       replace hi206_5 : Kd.C (Kd.slice 2 (Kd.int .i64)) _ _ l0_5.length l0_5 := hi206_5
       replace hl206_5 : l0_5.length ≤ _ := hl206_5
       obtain rfl : adp0 = ad206 := (by injection e206)
       have qi206 : (0 < [(⟨a0_0, l0_1, l0_2, a0_3, a0_4, l0_5⟩ : S58)].length) = True := eq_true (by simp)
       (try rw [t00] at hx206_0)
       (try rw [Nat.zero_mul] at hx206_0)
       (try rw [Addr.add_zero'] at hx206_0)
       (try rw [t00] at hx206_1)
       (try rw [Nat.zero_mul] at hx206_1)
       (try rw [Addr.add_zero'] at hx206_1)
       (try rw [t00] at hx206_2)
       (try rw [Nat.zero_mul] at hx206_2)
       (try rw [Addr.add_zero'] at hx206_2)
       (try rw [t00] at hx206_3)
       (try rw [Nat.zero_mul] at hx206_3)
       (try rw [Addr.add_zero'] at hx206_3)
       (try rw [t00] at hx206_4)
       (try rw [Nat.zero_mul] at hx206_4)
       (try rw [Addr.add_zero'] at hx206_4)
       (try rw [t00] at hx206_5)
       (try rw [Nat.zero_mul] at hx206_5)
       (try rw [Addr.add_zero'] at hx206_5)
       have HR206_1 := Aside0.mk hi206_1
       have HC206_1 := Aside0.mk hl206_1
       clear hi206_1 hl206_1
       have HR206_2 := Aside0.mk hi206_2
       have HC206_2 := Aside0.mk hl206_2
       clear hi206_2 hl206_2
       have HR206_5 := Aside0.mk hi206_5
       have HC206_5 := Aside0.mk hl206_5
       clear hi206_5 hl206_5
       replace p206 := eq_true p206
       replace q206 := eq_true q206
       go_wp2_with (first | (go_at_call 80; (with_reducible refine (spec_l00Has.calls kj5 _ _ l0_1 t202 t207 _ ?side1 ?side2 A15.out).mono ?_); (case side1 => exact cQ HR206_1); (case side2 => exact HC206_1.out); rintro e w' ⟨rfl, ⟨nd, rfl⟩⟩))
       go_meet
       case rel => exact ⟨_, (!t207), eT, H', ⟨by have := HJ5.out; first | omega | exact Nat.le_refl _⟩, dR⟩
      ·rw [if_neg c14] at H
       have c14b0 : decide (a1 < a2) = false := decide_eq_false c14
       clear c14
       (first | rw [c14b0] | (simp only [iW, jW]; rw [c14b0]) | skip)
       have H' := Aside0.mk H
       clear H
       go_wp2
       go_meet
       case rel => exact ⟨_, (false), eT, H', ⟨by have := HJ5.out; first | omega | exact Nat.le_refl _⟩, dR⟩
     case rest =>
      clear HC13
      try clear c1
      try clear c2
      try clear p2
      try clear q2
      try clear hx2
      try clear qi2
      try clear c5
      try clear p6
      try clear c8
      try clear c10
      try clear c11
      try clear c12
      try clear c12b0
      try clear c13
      try clear c14
      try clear c14b0
      try clear hx206_0
      try clear hx206_1
      try clear hx206_2
      try clear hx206_3
      try clear hx206_4
      try clear hx206_5
      try clear p2
      try clear p206
      try clear q206
      obtain ⟨kq, x43_12, rfl, HA, HJ12, ⟨mc12, rfl⟩⟩ := hcut
      cases kq with
      | zero => exact absurd HA.out (by simp [spec_l05Reason.j1])
      | succ kj12 =>
       have H := HA.out
       clear HA
       simp only [spec_l05Reason.j1] at H
       by_cases c16 : x43_12 = true
       ·subst c16
        have H1 : (some 3) = some r := by rw [if_pos rfl] at H; exact H
        clear H
        have H := H1
        clear H1
        obtain rfl := Option.some.inj H
        go_wp2
        go_ret
        exact ⟨eT, dR⟩
       ·replace c16 := Bool.eq_false_iff.mpr c16
        subst c16
        have H1 : (if a2 < a1 then ((spec_l00Has.f kj12 l0_2 t202).bind fun t209 => (spec_l05Reason.j2 kj12 t201 t202 (!t209) a0_0 l0_1 l0_2 a0_3 a0_4 l0_5)) else (spec_l05Reason.j2 kj12 t201 t202 false a0_0 l0_1 l0_2 a0_3 a0_4 l0_5)) = some r := by rw [if_neg (show ¬ (false = true) by decide)] at H; exact H
        clear H
        have H := H1
        clear H1
        have HC17 := Aside0.mk H
        clear H
        go_upto_region 9 with (fail)
        go_cut [55] (fun v55 wc => ∃ (kq : Nat) (x55_16 : Bool), v55 = .bool x55_16 ∧ Aside0 (spec_l05Reason.j2 kq t201 t202 x55_16 a0_0 l0_1 l0_2 a0_3 a0_4 l0_5 = some r) ∧ Aside0 (kq ≤ kj12) ∧ Drawn0 w wc)
        case first =>
         have H := HC17.out
         clear HC17
         by_cases c18 : a2 < a1
         ·rw [if_pos c18] at H
          have c18b0 : decide (a2 < a1) = true := decide_eq_true c18
          clear c18
          (first | rw [c18b0] | (simp only [iW, jW]; rw [c18b0]) | skip)
          replace H := Option.bind_eq_some_iff.mp H
          obtain ⟨t209, A190, H⟩ := H
          replace H : (spec_l05Reason.j2 kj12 t201 t202 (!t209) a0_0 l0_1 l0_2 a0_3 a0_4 l0_5) = some r := H
          have A19 := Aside0.mk A190
          clear A190
          have H' := Aside0.mk H
          clear H
          have p208 : 0 ≤ (0 : Int) := (by omega)
          have q208 : 0 < ([(⟨a0_0, l0_1, l0_2, a0_3, a0_4, l0_5⟩ : S58)].length : Int) := (by simp)
          obtain ⟨ad208, A208_1, c208_1, A208_2, c208_2, A208_5, c208_5, e208, hx208_0, hx208_1, hx208_2, hx208_3, hx208_4, hx208_5, hl208_1, hi208_1, hl208_2, hi208_2, hl208_5, hi208_5⟩ := at_T58 HRp0.out 0 p208 q208
          replace hx208_0 : _ = (some (.string a0_0) : Option Value) := hx208_0
          replace hx208_1 : _ = (some (.slice A208_1 l0_1.length c208_1) : Option Value) := hx208_1
          replace hi208_1 : Kd.C (Kd.int .i64) _ _ l0_1.length l0_1 := hi208_1
          replace hl208_1 : l0_1.length ≤ _ := hl208_1
          replace hx208_2 : _ = (some (.slice A208_2 l0_2.length c208_2) : Option Value) := hx208_2
          replace hi208_2 : Kd.C (Kd.int .i64) _ _ l0_2.length l0_2 := hi208_2
          replace hl208_2 : l0_2.length ≤ _ := hl208_2
          replace hx208_3 : _ = (some (.int .i64 a0_3) : Option Value) := hx208_3
          replace hx208_4 : _ = (some (.int .i64 a0_4) : Option Value) := hx208_4
          replace hx208_5 : _ = (some (.slice A208_5 l0_5.length c208_5) : Option Value) := hx208_5
          replace hi208_5 : Kd.C (Kd.slice 2 (Kd.int .i64)) _ _ l0_5.length l0_5 := hi208_5
          replace hl208_5 : l0_5.length ≤ _ := hl208_5
          obtain rfl : adp0 = ad208 := (by injection e208)
          have qi208 : (0 < [(⟨a0_0, l0_1, l0_2, a0_3, a0_4, l0_5⟩ : S58)].length) = True := eq_true (by simp)
          (try rw [t00] at hx208_0)
          (try rw [Nat.zero_mul] at hx208_0)
          (try rw [Addr.add_zero'] at hx208_0)
          (try rw [t00] at hx208_1)
          (try rw [Nat.zero_mul] at hx208_1)
          (try rw [Addr.add_zero'] at hx208_1)
          (try rw [t00] at hx208_2)
          (try rw [Nat.zero_mul] at hx208_2)
          (try rw [Addr.add_zero'] at hx208_2)
          (try rw [t00] at hx208_3)
          (try rw [Nat.zero_mul] at hx208_3)
          (try rw [Addr.add_zero'] at hx208_3)
          (try rw [t00] at hx208_4)
          (try rw [Nat.zero_mul] at hx208_4)
          (try rw [Addr.add_zero'] at hx208_4)
          (try rw [t00] at hx208_5)
          (try rw [Nat.zero_mul] at hx208_5)
          (try rw [Addr.add_zero'] at hx208_5)
          have HR208_1 := Aside0.mk hi208_1
          have HC208_1 := Aside0.mk hl208_1
          clear hi208_1 hl208_1
          have HR208_2 := Aside0.mk hi208_2
          have HC208_2 := Aside0.mk hl208_2
          clear hi208_2 hl208_2
          have HR208_5 := Aside0.mk hi208_5
          have HC208_5 := Aside0.mk hl208_5
          clear hi208_5 hl208_5
          replace p208 := eq_true p208
          replace q208 := eq_true q208
          go_wp2_with (first | (go_at_call 80; (with_reducible refine (spec_l00Has.calls kj12 _ _ l0_2 t202 t209 _ ?side1 ?side2 A19.out).mono ?_); (case side1 => exact cQ HR208_2); (case side2 => exact HC208_2.out); rintro e w' ⟨rfl, ⟨nd, rfl⟩⟩))
          go_meet
          case rel => exact ⟨_, (!t209), eT, H', ⟨by have := HJ5.out; have := HJ12.out; first | omega | exact Nat.le_refl _⟩, dR⟩
         ·rw [if_neg c18] at H
          have c18b0 : decide (a2 < a1) = false := decide_eq_false c18
          clear c18
          (first | rw [c18b0] | (simp only [iW, jW]; rw [c18b0]) | skip)
          have H' := Aside0.mk H
          clear H
          go_wp2
          go_meet
          case rel => exact ⟨_, (false), eT, H', ⟨by have := HJ5.out; have := HJ12.out; first | omega | exact Nat.le_refl _⟩, dR⟩
        case rest =>
         clear HC17
         try clear c1
         try clear c2
         try clear p2
         try clear q2
         try clear hx2
         try clear qi2
         try clear c5
         try clear p6
         try clear c8
         try clear c10
         try clear c11
         try clear c12
         try clear c12b0
         try clear c13
         try clear c14
         try clear c14b0
         try clear c16
         try clear c18
         try clear c18b0
         try clear hx206_0
         try clear hx206_1
         try clear hx206_2
         try clear hx206_3
         try clear hx206_4
         try clear hx206_5
         try clear hx208_0
         try clear hx208_1
         try clear hx208_2
         try clear hx208_3
         try clear hx208_4
         try clear hx208_5
         try clear p2
         try clear p206
         try clear p208
         try clear p6
         try clear q2
         try clear q206
         try clear q208
         obtain ⟨kq, x55_16, rfl, HA, HJ16, ⟨mc16, rfl⟩⟩ := hcut
         cases kq with
         | zero => exact absurd HA.out (by simp [spec_l05Reason.j2])
         | succ kj16 =>
          have H := HA.out
          clear HA
          simp only [spec_l05Reason.j2] at H
          by_cases c20 : x55_16 = true
          ·subst c20
           have H1 : (some 4) = some r := by rw [if_pos rfl] at H; exact H
           clear H
           have H := H1
           clear H1
           obtain rfl := Option.some.inj H
           go_wp2
           go_ret
           exact ⟨eT, dR⟩
          ·replace c20 := Bool.eq_false_iff.mpr c20
           subst c20
           have H1 : (spec_l05Reason.l0 kj16 t201 t202 0 a0_0 l0_1 l0_2 a0_3 a0_4 l0_5) = some r := by rw [if_neg (show ¬ (false = true) by decide)] at H; exact H
           clear H
           have H := H1
           clear H1
           have H' := Aside0.mk H
           clear H
           go_wp2
           go_loopg [9] kj16 (fun kq v9 w' => ∃ (x9_4 : Int), v9 = .int .i64 x9_4 ∧ Aside0 (spec_l05Reason.l0 kq t201 t202 x9_4 a0_0 l0_1 l0_2 a0_3 a0_4 l0_5 = some r) ∧ Aside0 (kq ≤ kj16) ∧ Drawn0 w w')
           case atStart => exact ⟨(0), eT, H', ⟨Nat.le_refl _⟩, dR⟩
           case round =>
            clear H'
            try clear c1
            try clear c2
            try clear p2
            try clear q2
            try clear hx2
            try clear qi2
            try clear c5
            try clear p6
            try clear c8
            try clear c10
            try clear c11
            try clear c12
            try clear c12b0
            try clear c13
            try clear c14
            try clear c14b0
            try clear c16
            try clear c18
            try clear c18b0
            try clear c20
            try clear p20
            try clear q20
            try clear hx20
            try clear qi20
            try clear hx206_0
            try clear hx206_1
            try clear hx206_2
            try clear hx206_3
            try clear hx206_4
            try clear hx206_5
            try clear hx208_0
            try clear hx208_1
            try clear hx208_2
            try clear hx208_3
            try clear hx208_4
            try clear hx208_5
            try clear p2
            try clear p206
            try clear p208
            try clear p6
            try clear q2
            try clear q206
            try clear q208
            obtain ⟨x9_4, rfl, HA, HK4, ⟨m4, rfl⟩⟩ := hrel
            cases gk with
            | zero => exact absurd HA.out (by simp [spec_l05Reason.l0])
            | succ k4 =>
             have H := HA.out
             clear HA
             simp only [spec_l05Reason.l0] at H
             by_cases c21 : x9_4 < (l0_5.length : Int)
             ·rw [if_pos c21] at H
              have c21b0 : decide (x9_4 < (l0_5.length : Int)) = true := decide_eq_true c21
              clear c21
              by_cases c22 : 0 ≤ x9_4
              ·rw [if_pos c22] at H
               have c22b0 : decide (0 ≤ x9_4) = true := decide_eq_true c22
               clear c22
               by_cases c23 : 0 < ((rd_L2 l0_5 x9_4).length : Int)
               ·rw [if_pos c23] at H
                have c23b0 : decide (0 < ((rd_L2 l0_5 x9_4).length : Int)) = true := decide_eq_true c23
                have c23b1 : decide (0 < (rd_L2 l0_5 x9_4).length) = true := decide_eq_true (by omega)
                clear c23
                by_cases c24 : (rd (rd_L2 l0_5 x9_4) 0) = t201
                ·rw [if_pos c24] at H
                 have c24b0 : ((rd (rd_L2 l0_5 x9_4) 0) == t201) = true := beq_iff_eq.mpr c24
                 have c24b1 : ((rd (rd_L2 l0_5 x9_4) 0) != t201) = false := bne_eq_false_iff_eq.mpr c24
                 clear c24
                 by_cases c25 : 1 < ((rd_L2 l0_5 x9_4).length : Int)
                 ·rw [if_pos c25] at H
                  have c25b0 : decide (1 < ((rd_L2 l0_5 x9_4).length : Int)) = true := decide_eq_true c25
                  have c25b1 : decide (1 < (rd_L2 l0_5 x9_4).length) = true := decide_eq_true (by omega)
                  clear c25
                  by_cases c26 : (rd (rd_L2 l0_5 x9_4) 1) = t202
                  ·rw [if_pos c26] at H
                   have c26b0 : ((rd (rd_L2 l0_5 x9_4) 1) == t202) = true := beq_iff_eq.mpr c26
                   have c26b1 : ((rd (rd_L2 l0_5 x9_4) 1) != t202) = false := bne_eq_false_iff_eq.mpr c26
                   clear c26
                   obtain rfl := Option.some.inj H
                   have p210 : 0 ≤ (0 : Int) := (by omega)
                   have q210 : 0 < ([(⟨a0_0, l0_1, l0_2, a0_3, a0_4, l0_5⟩ : S58)].length : Int) := (by simp)
                   obtain ⟨ad210, A210_1, c210_1, A210_2, c210_2, A210_5, c210_5, e210, hx210_0, hx210_1, hx210_2, hx210_3, hx210_4, hx210_5, hl210_1, hi210_1, hl210_2, hi210_2, hl210_5, hi210_5⟩ := at_T58 HRp0.out 0 p210 q210
                   replace hx210_0 : _ = (some (.string a0_0) : Option Value) := hx210_0
                   replace hx210_1 : _ = (some (.slice A210_1 l0_1.length c210_1) : Option Value) := hx210_1
                   replace hi210_1 : Kd.C (Kd.int .i64) _ _ l0_1.length l0_1 := hi210_1
                   replace hl210_1 : l0_1.length ≤ _ := hl210_1
                   replace hx210_2 : _ = (some (.slice A210_2 l0_2.length c210_2) : Option Value) := hx210_2
                   replace hi210_2 : Kd.C (Kd.int .i64) _ _ l0_2.length l0_2 := hi210_2
                   replace hl210_2 : l0_2.length ≤ _ := hl210_2
                   replace hx210_3 : _ = (some (.int .i64 a0_3) : Option Value) := hx210_3
                   replace hx210_4 : _ = (some (.int .i64 a0_4) : Option Value) := hx210_4
                   replace hx210_5 : _ = (some (.slice A210_5 l0_5.length c210_5) : Option Value) := hx210_5
                   replace hi210_5 : Kd.C (Kd.slice 2 (Kd.int .i64)) _ _ l0_5.length l0_5 := hi210_5
                   replace hl210_5 : l0_5.length ≤ _ := hl210_5
                   obtain rfl : adp0 = ad210 := (by injection e210)
                   have qi210 : (0 < [(⟨a0_0, l0_1, l0_2, a0_3, a0_4, l0_5⟩ : S58)].length) = True := eq_true (by simp)
                   (try rw [t00] at hx210_0)
                   (try rw [Nat.zero_mul] at hx210_0)
                   (try rw [Addr.add_zero'] at hx210_0)
                   (try rw [t00] at hx210_1)
                   (try rw [Nat.zero_mul] at hx210_1)
                   (try rw [Addr.add_zero'] at hx210_1)
                   (try rw [t00] at hx210_2)
                   (try rw [Nat.zero_mul] at hx210_2)
                   (try rw [Addr.add_zero'] at hx210_2)
                   (try rw [t00] at hx210_3)
                   (try rw [Nat.zero_mul] at hx210_3)
                   (try rw [Addr.add_zero'] at hx210_3)
                   (try rw [t00] at hx210_4)
                   (try rw [Nat.zero_mul] at hx210_4)
                   (try rw [Addr.add_zero'] at hx210_4)
                   (try rw [t00] at hx210_5)
                   (try rw [Nat.zero_mul] at hx210_5)
                   (try rw [Addr.add_zero'] at hx210_5)
                   have HR210_1 := Aside0.mk hi210_1
                   have HC210_1 := Aside0.mk hl210_1
                   clear hi210_1 hl210_1
                   have HR210_2 := Aside0.mk hi210_2
                   have HC210_2 := Aside0.mk hl210_2
                   clear hi210_2 hl210_2
                   have HR210_5 := Aside0.mk hi210_5
                   have HC210_5 := Aside0.mk hl210_5
                   clear hi210_5 hl210_5
                   replace p210 := eq_true p210
                   replace q210 := eq_true q210
                   have p211 : 0 ≤ (x9_4 : Int) := oT
                   have q211 : x9_4 < (l0_5.length : Int) := oT
                   obtain ⟨ad211, A211_0, c211_0, e211, hx211_0, hl211_0, hi211_0⟩ := at_L2 HR210_5.out x9_4 p211 q211
                   cases e211
                   have HR211_0 := Aside0.mk hi211_0
                   have HC211_0 := Aside0.mk hl211_0
                   clear hi211_0 hl211_0
                   replace p211 := eq_true p211
                   replace q211 := eq_true q211
                   have p212 : 0 ≤ (0 : Int) := (by omega)
                   have q212 : 0 < ((rd_L2 l0_5 x9_4).length : Int) := oT
                   obtain ⟨ad212, e212, hx212_0⟩ := Kd.at_int HR211_0.out 0 p212 q212
                   cases e212
                   have qi212 : (0 < (rd_L2 l0_5 x9_4).length) = True := eq_true (by omega)
                   (try rw [t00] at hx212_0)
                   (try rw [Addr.add_zero'] at hx212_0)
                   replace p212 := eq_true p212
                   replace q212 := eq_true q212
                   have p213 : 0 ≤ (x9_4 : Int) := oT
                   have q213 : x9_4 < (l0_5.length : Int) := oT
                   obtain ⟨ad213, A213_0, c213_0, e213, hx213_0, hl213_0, hi213_0⟩ := at_L2 HR210_5.out x9_4 p213 q213
                   obtain rfl : ad211 = ad213 := (by injection e213)
                   have HR213_0 := Aside0.mk hi213_0
                   have HC213_0 := Aside0.mk hl213_0
                   clear hi213_0 hl213_0
                   replace p213 := eq_true p213
                   replace q213 := eq_true q213
                   have ea_ := Option.some.inj (hx211_0.symm.trans hx213_0)
                   injection ea_ with ea_ en_ ec_
                   subst ea_
                   subst ec_
                   clear en_
                   have p214 : 0 ≤ (1 : Int) := (by omega)
                   have q214 : 1 < ((rd_L2 l0_5 x9_4).length : Int) := oT
                   obtain ⟨ad214, e214, hx214_0⟩ := Kd.at_int HR213_0.out 1 p214 q214
                   cases e214
                   (try simp only [show (1 : Int).toNat = 1 from rfl, Nat.reduceMul, Nat.reduceEqDiff, Go.Addr.add, ↓reduceIte] at hx214_0)
                   have qi214 : (1 < (rd_L2 l0_5 x9_4).length) = True := eq_true (by omega)
                   (try rw [show ((1 : Int)).toNat = 1 from rfl] at hx214_0)
                   replace p214 := eq_true p214
                   replace q214 := eq_true q214
                   go_wp2
                   go_ret
                   exact ⟨eT, dR⟩
                  ·rw [if_neg c26] at H
                   have c26b0 : ((rd (rd_L2 l0_5 x9_4) 1) == t202) = false := beq_eq_false_iff_ne.mpr c26
                   have c26b1 : ((rd (rd_L2 l0_5 x9_4) 1) != t202) = true := bne_iff_ne.mpr c26
                   have H' := Aside0.mk H
                   clear H
                   have p210 : 0 ≤ (0 : Int) := (by omega)
                   have q210 : 0 < ([(⟨a0_0, l0_1, l0_2, a0_3, a0_4, l0_5⟩ : S58)].length : Int) := (by simp)
                   obtain ⟨ad210, A210_1, c210_1, A210_2, c210_2, A210_5, c210_5, e210, hx210_0, hx210_1, hx210_2, hx210_3, hx210_4, hx210_5, hl210_1, hi210_1, hl210_2, hi210_2, hl210_5, hi210_5⟩ := at_T58 HRp0.out 0 p210 q210
                   replace hx210_0 : _ = (some (.string a0_0) : Option Value) := hx210_0
                   replace hx210_1 : _ = (some (.slice A210_1 l0_1.length c210_1) : Option Value) := hx210_1
                   replace hi210_1 : Kd.C (Kd.int .i64) _ _ l0_1.length l0_1 := hi210_1
                   replace hl210_1 : l0_1.length ≤ _ := hl210_1
                   replace hx210_2 : _ = (some (.slice A210_2 l0_2.length c210_2) : Option Value) := hx210_2
                   replace hi210_2 : Kd.C (Kd.int .i64) _ _ l0_2.length l0_2 := hi210_2
                   replace hl210_2 : l0_2.length ≤ _ := hl210_2
                   replace hx210_3 : _ = (some (.int .i64 a0_3) : Option Value) := hx210_3
                   replace hx210_4 : _ = (some (.int .i64 a0_4) : Option Value) := hx210_4
                   replace hx210_5 : _ = (some (.slice A210_5 l0_5.length c210_5) : Option Value) := hx210_5
                   replace hi210_5 : Kd.C (Kd.slice 2 (Kd.int .i64)) _ _ l0_5.length l0_5 := hi210_5
                   replace hl210_5 : l0_5.length ≤ _ := hl210_5
                   obtain rfl : adp0 = ad210 := (by injection e210)
                   have qi210 : (0 < [(⟨a0_0, l0_1, l0_2, a0_3, a0_4, l0_5⟩ : S58)].length) = True := eq_true (by simp)
                   (try rw [t00] at hx210_0)
                   (try rw [Nat.zero_mul] at hx210_0)
                   (try rw [Addr.add_zero'] at hx210_0)
                   (try rw [t00] at hx210_1)
                   (try rw [Nat.zero_mul] at hx210_1)
                   (try rw [Addr.add_zero'] at hx210_1)
                   (try rw [t00] at hx210_2)
                   (try rw [Nat.zero_mul] at hx210_2)
                   (try rw [Addr.add_zero'] at hx210_2)
                   (try rw [t00] at hx210_3)
                   (try rw [Nat.zero_mul] at hx210_3)
                   (try rw [Addr.add_zero'] at hx210_3)
                   (try rw [t00] at hx210_4)
                   (try rw [Nat.zero_mul] at hx210_4)
                   (try rw [Addr.add_zero'] at hx210_4)
                   (try rw [t00] at hx210_5)
                   (try rw [Nat.zero_mul] at hx210_5)
                   (try rw [Addr.add_zero'] at hx210_5)
                   have HR210_1 := Aside0.mk hi210_1
                   have HC210_1 := Aside0.mk hl210_1
                   clear hi210_1 hl210_1
                   have HR210_2 := Aside0.mk hi210_2
                   have HC210_2 := Aside0.mk hl210_2
                   clear hi210_2 hl210_2
                   have HR210_5 := Aside0.mk hi210_5
                   have HC210_5 := Aside0.mk hl210_5
                   clear hi210_5 hl210_5
                   replace p210 := eq_true p210
                   replace q210 := eq_true q210
                   have p211 : 0 ≤ (x9_4 : Int) := oT
                   have q211 : x9_4 < (l0_5.length : Int) := oT
                   obtain ⟨ad211, A211_0, c211_0, e211, hx211_0, hl211_0, hi211_0⟩ := at_L2 HR210_5.out x9_4 p211 q211
                   cases e211
                   have HR211_0 := Aside0.mk hi211_0
                   have HC211_0 := Aside0.mk hl211_0
                   clear hi211_0 hl211_0
                   replace p211 := eq_true p211
                   replace q211 := eq_true q211
                   have p212 : 0 ≤ (0 : Int) := (by omega)
                   have q212 : 0 < ((rd_L2 l0_5 x9_4).length : Int) := oT
                   obtain ⟨ad212, e212, hx212_0⟩ := Kd.at_int HR211_0.out 0 p212 q212
                   cases e212
                   have qi212 : (0 < (rd_L2 l0_5 x9_4).length) = True := eq_true (by omega)
                   (try rw [t00] at hx212_0)
                   (try rw [Addr.add_zero'] at hx212_0)
                   replace p212 := eq_true p212
                   replace q212 := eq_true q212
                   have p213 : 0 ≤ (x9_4 : Int) := oT
                   have q213 : x9_4 < (l0_5.length : Int) := oT
                   obtain ⟨ad213, A213_0, c213_0, e213, hx213_0, hl213_0, hi213_0⟩ := at_L2 HR210_5.out x9_4 p213 q213
                   obtain rfl : ad211 = ad213 := (by injection e213)
                   have HR213_0 := Aside0.mk hi213_0
                   have HC213_0 := Aside0.mk hl213_0
                   clear hi213_0 hl213_0
                   replace p213 := eq_true p213
                   replace q213 := eq_true q213
                   have ea_ := Option.some.inj (hx211_0.symm.trans hx213_0)
                   injection ea_ with ea_ en_ ec_
                   subst ea_
                   subst ec_
                   clear en_
                   have p214 : 0 ≤ (1 : Int) := (by omega)
                   have q214 : 1 < ((rd_L2 l0_5 x9_4).length : Int) := oT
                   obtain ⟨ad214, e214, hx214_0⟩ := Kd.at_int HR213_0.out 1 p214 q214
                   cases e214
                   (try simp only [show (1 : Int).toNat = 1 from rfl, Nat.reduceMul, Nat.reduceEqDiff, Go.Addr.add, ↓reduceIte] at hx214_0)
                   have qi214 : (1 < (rd_L2 l0_5 x9_4).length) = True := eq_true (by omega)
                   (try rw [show ((1 : Int)).toNat = 1 from rfl] at hx214_0)
                   replace p214 := eq_true p214
                   replace q214 := eq_true q214
                   go_wp2
                   go_roundg k4
                   case measure => have := HJ5.out; have := HJ12.out; have := HJ16.out; have := HK4.out; omega
                   case rel => exact ⟨(wrap64 (x9_4 + 1)), eT, H', ⟨by have := HJ5.out; have := HJ12.out; have := HJ16.out; have := HK4.out; omega⟩, dR⟩
                 ·rw [if_neg c25] at H
                  exact absurd H (by simp)
                ·rw [if_neg c24] at H
                 have c24b0 : ((rd (rd_L2 l0_5 x9_4) 0) == t201) = false := beq_eq_false_iff_ne.mpr c24
                 have c24b1 : ((rd (rd_L2 l0_5 x9_4) 0) != t201) = true := bne_iff_ne.mpr c24
                 have H' := Aside0.mk H
                 clear H
                 have p210 : 0 ≤ (0 : Int) := (by omega)
                 have q210 : 0 < ([(⟨a0_0, l0_1, l0_2, a0_3, a0_4, l0_5⟩ : S58)].length : Int) := (by simp)
                 obtain ⟨ad210, A210_1, c210_1, A210_2, c210_2, A210_5, c210_5, e210, hx210_0, hx210_1, hx210_2, hx210_3, hx210_4, hx210_5, hl210_1, hi210_1, hl210_2, hi210_2, hl210_5, hi210_5⟩ := at_T58 HRp0.out 0 p210 q210
                 replace hx210_0 : _ = (some (.string a0_0) : Option Value) := hx210_0
                 replace hx210_1 : _ = (some (.slice A210_1 l0_1.length c210_1) : Option Value) := hx210_1
                 replace hi210_1 : Kd.C (Kd.int .i64) _ _ l0_1.length l0_1 := hi210_1
                 replace hl210_1 : l0_1.length ≤ _ := hl210_1
                 replace hx210_2 : _ = (some (.slice A210_2 l0_2.length c210_2) : Option Value) := hx210_2
                 replace hi210_2 : Kd.C (Kd.int .i64) _ _ l0_2.length l0_2 := hi210_2
                 replace hl210_2 : l0_2.length ≤ _ := hl210_2
                 replace hx210_3 : _ = (some (.int .i64 a0_3) : Option Value) := hx210_3
                 replace hx210_4 : _ = (some (.int .i64 a0_4) : Option Value) := hx210_4
                 replace hx210_5 : _ = (some (.slice A210_5 l0_5.length c210_5) : Option Value) := hx210_5
                 replace hi210_5 : Kd.C (Kd.slice 2 (Kd.int .i64)) _ _ l0_5.length l0_5 := hi210_5
                 replace hl210_5 : l0_5.length ≤ _ := hl210_5
                 obtain rfl : adp0 = ad210 := (by injection e210)
                 have qi210 : (0 < [(⟨a0_0, l0_1, l0_2, a0_3, a0_4, l0_5⟩ : S58)].length) = True := eq_true (by simp)
                 (try rw [t00] at hx210_0)
                 (try rw [Nat.zero_mul] at hx210_0)
                 (try rw [Addr.add_zero'] at hx210_0)
                 (try rw [t00] at hx210_1)
                 (try rw [Nat.zero_mul] at hx210_1)
                 (try rw [Addr.add_zero'] at hx210_1)
                 (try rw [t00] at hx210_2)
                 (try rw [Nat.zero_mul] at hx210_2)
                 (try rw [Addr.add_zero'] at hx210_2)
                 (try rw [t00] at hx210_3)
                 (try rw [Nat.zero_mul] at hx210_3)
                 (try rw [Addr.add_zero'] at hx210_3)
                 (try rw [t00] at hx210_4)
                 (try rw [Nat.zero_mul] at hx210_4)
                 (try rw [Addr.add_zero'] at hx210_4)
                 (try rw [t00] at hx210_5)
                 (try rw [Nat.zero_mul] at hx210_5)
                 (try rw [Addr.add_zero'] at hx210_5)
                 have HR210_1 := Aside0.mk hi210_1
                 have HC210_1 := Aside0.mk hl210_1
                 clear hi210_1 hl210_1
                 have HR210_2 := Aside0.mk hi210_2
                 have HC210_2 := Aside0.mk hl210_2
                 clear hi210_2 hl210_2
                 have HR210_5 := Aside0.mk hi210_5
                 have HC210_5 := Aside0.mk hl210_5
                 clear hi210_5 hl210_5
                 replace p210 := eq_true p210
                 replace q210 := eq_true q210
                 have p211 : 0 ≤ (x9_4 : Int) := oT
                 have q211 : x9_4 < (l0_5.length : Int) := oT
                 obtain ⟨ad211, A211_0, c211_0, e211, hx211_0, hl211_0, hi211_0⟩ := at_L2 HR210_5.out x9_4 p211 q211
                 cases e211
                 have HR211_0 := Aside0.mk hi211_0
                 have HC211_0 := Aside0.mk hl211_0
                 clear hi211_0 hl211_0
                 replace p211 := eq_true p211
                 replace q211 := eq_true q211
                 have p212 : 0 ≤ (0 : Int) := (by omega)
                 have q212 : 0 < ((rd_L2 l0_5 x9_4).length : Int) := oT
                 obtain ⟨ad212, e212, hx212_0⟩ := Kd.at_int HR211_0.out 0 p212 q212
                 cases e212
                 have qi212 : (0 < (rd_L2 l0_5 x9_4).length) = True := eq_true (by omega)
                 (try rw [t00] at hx212_0)
                 (try rw [Addr.add_zero'] at hx212_0)
                 replace p212 := eq_true p212
                 replace q212 := eq_true q212
                 go_wp2
                 go_roundg k4
                 case measure => have := HJ5.out; have := HJ12.out; have := HJ16.out; have := HK4.out; omega
                 case rel => exact ⟨(wrap64 (x9_4 + 1)), eT, H', ⟨by have := HJ5.out; have := HJ12.out; have := HJ16.out; have := HK4.out; omega⟩, dR⟩
               ·rw [if_neg c23] at H
                exact absurd H (by simp)
              ·rw [if_neg c22] at H
               exact absurd H (by simp)
             ·rw [if_neg c21] at H
              have c21b0 : decide (x9_4 < (l0_5.length : Int)) = false := decide_eq_false c21
              clear c21
              obtain rfl := Option.some.inj H
              have p210 : 0 ≤ (0 : Int) := (by omega)
              have q210 : 0 < ([(⟨a0_0, l0_1, l0_2, a0_3, a0_4, l0_5⟩ : S58)].length : Int) := (by simp)
              obtain ⟨ad210, A210_1, c210_1, A210_2, c210_2, A210_5, c210_5, e210, hx210_0, hx210_1, hx210_2, hx210_3, hx210_4, hx210_5, hl210_1, hi210_1, hl210_2, hi210_2, hl210_5, hi210_5⟩ := at_T58 HRp0.out 0 p210 q210
              replace hx210_0 : _ = (some (.string a0_0) : Option Value) := hx210_0
              replace hx210_1 : _ = (some (.slice A210_1 l0_1.length c210_1) : Option Value) := hx210_1
              replace hi210_1 : Kd.C (Kd.int .i64) _ _ l0_1.length l0_1 := hi210_1
              replace hl210_1 : l0_1.length ≤ _ := hl210_1
              replace hx210_2 : _ = (some (.slice A210_2 l0_2.length c210_2) : Option Value) := hx210_2
              replace hi210_2 : Kd.C (Kd.int .i64) _ _ l0_2.length l0_2 := hi210_2
              replace hl210_2 : l0_2.length ≤ _ := hl210_2
              replace hx210_3 : _ = (some (.int .i64 a0_3) : Option Value) := hx210_3
              replace hx210_4 : _ = (some (.int .i64 a0_4) : Option Value) := hx210_4
              replace hx210_5 : _ = (some (.slice A210_5 l0_5.length c210_5) : Option Value) := hx210_5
              replace hi210_5 : Kd.C (Kd.slice 2 (Kd.int .i64)) _ _ l0_5.length l0_5 := hi210_5
              replace hl210_5 : l0_5.length ≤ _ := hl210_5
              obtain rfl : adp0 = ad210 := (by injection e210)
              have qi210 : (0 < [(⟨a0_0, l0_1, l0_2, a0_3, a0_4, l0_5⟩ : S58)].length) = True := eq_true (by simp)
              (try rw [t00] at hx210_0)
              (try rw [Nat.zero_mul] at hx210_0)
              (try rw [Addr.add_zero'] at hx210_0)
              (try rw [t00] at hx210_1)
              (try rw [Nat.zero_mul] at hx210_1)
              (try rw [Addr.add_zero'] at hx210_1)
              (try rw [t00] at hx210_2)
              (try rw [Nat.zero_mul] at hx210_2)
              (try rw [Addr.add_zero'] at hx210_2)
              (try rw [t00] at hx210_3)
              (try rw [Nat.zero_mul] at hx210_3)
              (try rw [Addr.add_zero'] at hx210_3)
              (try rw [t00] at hx210_4)
              (try rw [Nat.zero_mul] at hx210_4)
              (try rw [Addr.add_zero'] at hx210_4)
              (try rw [t00] at hx210_5)
              (try rw [Nat.zero_mul] at hx210_5)
              (try rw [Addr.add_zero'] at hx210_5)
              have HR210_1 := Aside0.mk hi210_1
              have HC210_1 := Aside0.mk hl210_1
              clear hi210_1 hl210_1
              have HR210_2 := Aside0.mk hi210_2
              have HC210_2 := Aside0.mk hl210_2
              clear hi210_2 hl210_2
              have HR210_5 := Aside0.mk hi210_5
              have HC210_5 := Aside0.mk hl210_5
              clear hi210_5 hl210_5
              replace p210 := eq_true p210
              replace q210 := eq_true q210
              go_wp2
              go_ret
              exact ⟨eT, dR⟩

end Go.Proofs.Ytijbhcalknfijaa.M7
-- shrunk
-- tight
-- tight2
-- tight3
