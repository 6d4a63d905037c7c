/- What functions of the given program compute, as plain Lean functions, and that the code comes to just that; by a program of this session over the kit's print. No condition. -/
import Derived.Test.YtlmeijlandogaaaGreatDoorRx0
namespace Go.Proofs.YtlmeijlandogaaaGreatDoor.R
open Go.RowKit Go.Proofs.YtlmeijlandogaaaGreatDoorW.PrintWords Go.Proofs.YtlmeijlandogaaaGreatDoorW.PrintLast Go.Proofs.YtlmeijlandogaaaGreatDoorW.PrintMore
open Go.Proofs.YtlmeijlandogaaaGreatDoorW.PrintWords renaming below_alloc → bA, pw_below_drewN → bN, gate_callee → gC, blk_cell → kC
open Go.Proofs.YtlmeijlandogaaaGreatDoorW.PrintLast renaming i64_w → iW
attribute [local go_sem] max2_int min2_int max_two min_two max_three min_three max_four min_four   -- for this text's walks alone
set_option linter.unusedVariables false
set_option linter.unusedSimpArgs false

/-! ### impl_within: function 71 -/
def impl_within.f (a0 : Int) (a1 : Int) (a2 : Int) : Option (Bool) := if a0 ≥ a1 then (some (decide (a0 ≤ a2))) else (some false)
set_option maxHeartbeats 8000000 in
set_option maxRecDepth 100000 in
theorem impl_within.calls (a0 : Int) (a1 : Int) (a2 : Int) (r : Bool) (w : World) (h : impl_within.f a0 a1 a2 = some r) :
  Calls Tryz.prog 71 #[.int .i64 a0, .int .i64 a1, .int .i64 a2] w fun e w' => e = .returned (.bool r) ∧ Drawn0 w w' := by
 have H : (if a0 ≥ a1 then (some (decide (a0 ≤ a2))) else (some false)) = some r := h
 clear h
 by_cases c4 : a0 ≥ a1
 ·rw [if_pos c4] at H
  have c4b0 : decide (a1 ≤ a0) = true := decide_eq_true c4
  clear c4
  obtain rfl := Option.some.inj H
  go_enter Tryz.func71, Tryz.ntmps71
  go_wp2
  go_ret
  exact ⟨by first | rfl | (simp; done) | (simp [*]; done), by repeat (first | exact Drawn0.refl _ | apply Drawn0.step)⟩
 ·rw [if_neg c4] at H
  have c4b0 : decide (a1 ≤ a0) = false := decide_eq_false c4
  clear c4
  obtain rfl := Option.some.inj H
  go_enter Tryz.func71, Tryz.ntmps71
  go_wp2
  go_ret
  exact ⟨by first | rfl | (simp; done) | (simp [*]; done), by repeat (first | exact Drawn0.refl _ | apply Drawn0.step)⟩

/-! ### impl_toneOk: function 63 -/
def impl_toneOk.f (a0 : Int) : Option (Bool) := (impl_within.f a0 0 11).bind fun t146 => (some t146)
set_option maxHeartbeats 8000000 in
set_option maxRecDepth 100000 in
theorem impl_toneOk.calls (a0 : Int) (r : Bool) (w : World) (h : impl_toneOk.f a0 = some r) :
  Calls Tryz.prog 63 #[.int .i64 a0] w fun e w' => e = .returned (.bool r) ∧ Drawn0 w w' := by
 have H : ((impl_within.f a0 0 11).bind fun t146 => (some t146)) = some r := h
 clear h
 replace H := Option.bind_eq_some_iff.mp H
 obtain ⟨t146, A20, H⟩ := H
 replace H : (some t146) = some r := H
 have A2 := Aside0.mk A20
 clear A20
 obtain rfl := Option.some.inj H
 go_enter Tryz.func63, Tryz.ntmps63
 go_wp2_with (first | ((with_reducible refine gC (f := 71) rfl ?_); refine goesL_ (some 4) rfl rfl Tryz.func71 (by kernel_rfl) rfl #[.int .i64 a0, .int .i64 0, .int .i64 11] rfl (by (try simp only [List.map_toArray, List.map_cons, List.map_nil]); first | done | rfl | (simp only [List.length_drop, List.length_take]; rfl)) ?_; (with_reducible refine (impl_within.calls a0 0 11 t146 _ A2.out).mono ?_); rintro e w' ⟨rfl, ⟨nd, rfl⟩⟩; refine ⟨_, rfl, ?_⟩))
 go_ret
 exact ⟨by first | rfl | (simp; done) | (simp [*]; done), by repeat (first | exact Drawn0.refl _ | apply Drawn0.step)⟩

/-! ### impl_ToneName: function 42 -/
def impl_ToneName.f (a0 : Int) : Option (ByteArray) := (impl_toneOk.f a0).bind fun t147 => (if t147 = true then (if 0 ≤ a0 then (if a0 ≤ (wrap64 (a0 + 1)) then (if (wrap64 (a0 + 1)) ≤ 12 then (some ((⟨#[83, 114, 82, 103, 71, 109, 77, 80, 100, 68, 110, 78]⟩ : ByteArray).extract (a0 : Int).toNat ((wrap64 (a0 + 1)) : Int).toNat)) else (none)) else (none)) else (none)) else (some (⟨#[]⟩ : ByteArray)))
set_option maxHeartbeats 8000000 in
set_option maxRecDepth 100000 in
theorem impl_ToneName.calls (a0 : Int) (r : ByteArray) (w : World) (h : impl_ToneName.f a0 = some r) :
  Calls Tryz.prog 42 #[.int .i64 a0] w fun e w' => e = .returned (.string r) ∧ Drawn0 w w' := by
 have H : ((impl_toneOk.f a0).bind fun t147 => (if t147 = true then (if 0 ≤ a0 then (if a0 ≤ (wrap64 (a0 + 1)) then (if (wrap64 (a0 + 1)) ≤ 12 then (some ((⟨#[83, 114, 82, 103, 71, 109, 77, 80, 100, 68, 110, 78]⟩ : ByteArray).extract (a0 : Int).toNat ((wrap64 (a0 + 1)) : Int).toNat)) else (none)) else (none)) else (none)) else (some (⟨#[]⟩ : ByteArray)))) = some r := h
 clear h
 replace H := Option.bind_eq_some_iff.mp H
 obtain ⟨t147, A20, H⟩ := H
 replace H : (if t147 = true then (if 0 ≤ a0 then (if a0 ≤ (wrap64 (a0 + 1)) then (if (wrap64 (a0 + 1)) ≤ 12 then (some ((⟨#[83, 114, 82, 103, 71, 109, 77, 80, 100, 68, 110, 78]⟩ : ByteArray).extract (a0 : Int).toNat ((wrap64 (a0 + 1)) : Int).toNat)) else (none)) else (none)) else (none)) else (some (⟨#[]⟩ : ByteArray))) = some r := H
 have A2 := Aside0.mk A20
 clear A20
 by_cases c3 : t147 = true
 ·subst c3
  have H1 : (if 0 ≤ a0 then (if a0 ≤ (wrap64 (a0 + 1)) then (if (wrap64 (a0 + 1)) ≤ 12 then (some ((⟨#[83, 114, 82, 103, 71, 109, 77, 80, 100, 68, 110, 78]⟩ : ByteArray).extract (a0 : Int).toNat ((wrap64 (a0 + 1)) : Int).toNat)) else (none)) else (none)) else (none)) = some r := by rw [if_pos rfl] at H; exact H
  clear H
  have H := H1
  clear H1
  by_cases c4 : 0 ≤ a0
  ·rw [if_pos c4] at H
   have c4b0 := eq_true c4
   have c4b1 : decide (0 ≤ a0) = true := decide_eq_true c4
   clear c4
   by_cases c5 : a0 ≤ (wrap64 (a0 + 1))
   ·rw [if_pos c5] at H
    have c5b0 := eq_true c5
    have c5b1 : decide (a0 ≤ (wrap64 (a0 + 1))) = true := decide_eq_true c5
    by_cases c6 : (wrap64 (a0 + 1)) ≤ 12
    ·rw [if_pos c6] at H
     have c6b0 := eq_true c6
     have c6b1 : decide ((wrap64 (a0 + 1)) ≤ 12) = true := decide_eq_true c6
     obtain rfl := Option.some.inj H
     go_enter Tryz.func42, Tryz.ntmps42
     go_wp2_with (first | ((with_reducible refine gC (f := 63) rfl ?_); refine goesL_ (some 4) rfl rfl Tryz.func63 (by kernel_rfl) rfl #[.int .i64 a0] rfl (by (try simp only [List.map_toArray, List.map_cons, List.map_nil]); first | done | rfl | (simp only [List.length_drop, List.length_take]; rfl)) ?_; (with_reducible refine (impl_toneOk.calls a0 true _ A2.out).mono ?_); rintro e w' ⟨rfl, ⟨nd, rfl⟩⟩; refine ⟨_, rfl, ?_⟩))
     go_ret
     exact ⟨by first | rfl | (simp; done) | (simp [*]; done), by repeat (first | exact Drawn0.refl _ | apply Drawn0.step)⟩
    ·rw [if_neg c6] at H
     exact absurd H (by simp)
   ·rw [if_neg c5] at H
    exact absurd H (by simp)
  ·rw [if_neg c4] at H
   exact absurd H (by simp)
 ·replace c3 := Bool.eq_false_iff.mpr c3
  subst c3
  have H1 : (some (⟨#[]⟩ : ByteArray)) = some r := by rw [if_neg (show ¬ (false = true) by decide)] at H; exact H
  clear H
  have H := H1
  clear H1
  obtain rfl := Option.some.inj H
  go_enter Tryz.func42, Tryz.ntmps42
  go_wp2_with (first | ((with_reducible refine gC (f := 63) rfl ?_); refine goesL_ (some 4) rfl rfl Tryz.func63 (by kernel_rfl) rfl #[.int .i64 a0] rfl (by (try simp only [List.map_toArray, List.map_cons, List.map_nil]); first | done | rfl | (simp only [List.length_drop, List.length_take]; rfl)) ?_; (with_reducible refine (impl_toneOk.calls a0 false _ A2.out).mono ?_); rintro e w' ⟨rfl, ⟨nd, rfl⟩⟩; refine ⟨_, rfl, ?_⟩))
  go_ret
  exact ⟨by first | rfl | (simp; done) | (simp [*]; done), by repeat (first | exact Drawn0.refl _ | apply Drawn0.step)⟩

/-! ### impl_ToneOf: function 43 -/
def impl_ToneOf.f (a0 : Int) : Option (Int) := some (Int.tmod (wrap64 ((Int.tmod a0 12) + 12)) 12)
set_option maxHeartbeats 8000000 in
set_option maxRecDepth 100000 in
theorem impl_ToneOf.calls (a0 : Int) (r : Int) (w : World) (h : impl_ToneOf.f a0 = some r) :
  Calls Tryz.prog 43 #[.int .i64 a0] w fun e w' => e = .returned (.int .i64 r) ∧ Drawn0 w w' := by
 have H : (some (Int.tmod (wrap64 ((Int.tmod a0 12) + 12)) 12)) = some r := h
 clear h
 obtain rfl := Option.some.inj H
 go_enter Tryz.func43, Tryz.ntmps43
 go_wp2
 go_ret
 exact ⟨by first | rfl | (simp; done) | (simp [*]; done), by repeat (first | exact Drawn0.refl _ | apply Drawn0.step)⟩

/-! ### impl_octaveOf: function 44 -/
def impl_octaveOf.f (a0 : Int) : Option (Int) := (impl_ToneOf.f a0).bind fun t148 => (some (wrap64 (Int.tdiv (wrap64 (a0 - t148)) 12)))
set_option maxHeartbeats 8000000 in
set_option maxRecDepth 100000 in
theorem impl_octaveOf.calls (a0 : Int) (r : Int) (w : World) (h : impl_octaveOf.f a0 = some r) :
  Calls Tryz.prog 44 #[.int .i64 a0] w fun e w' => e = .returned (.int .i64 r) ∧ Drawn0 w w' := by
 have H : ((impl_ToneOf.f a0).bind fun t148 => (some (wrap64 (Int.tdiv (wrap64 (a0 - t148)) 12)))) = some r := h
 clear h
 replace H := Option.bind_eq_some_iff.mp H
 obtain ⟨t148, A20, H⟩ := H
 replace H : (some (wrap64 (Int.tdiv (wrap64 (a0 - t148)) 12))) = some r := H
 have A2 := Aside0.mk A20
 clear A20
 obtain rfl := Option.some.inj H
 go_enter Tryz.func44, Tryz.ntmps44
 go_wp2_with (first | ((with_reducible refine gC (f := 43) rfl ?_); refine goesL_ (some 5) rfl rfl Tryz.func43 (by kernel_rfl) rfl #[.int .i64 a0] rfl (by (try simp only [List.map_toArray, List.map_cons, List.map_nil]); first | done | rfl | (simp only [List.length_drop, List.length_take]; rfl)) ?_; (with_reducible refine (impl_ToneOf.calls a0 t148 _ A2.out).mono ?_); rintro e w' ⟨rfl, ⟨nd, rfl⟩⟩; refine ⟨_, rfl, ?_⟩))
 go_ret
 exact ⟨by first | rfl | (simp; done) | (simp [*]; done), by repeat (first | exact Drawn0.refl _ | apply Drawn0.step)⟩

/-! ### impl_pitchText: function 26 -/
def impl_pitchText.f (a0 : Int) : Option (ByteArray) := (impl_ToneOf.f a0).bind fun t149 => ((impl_ToneName.f t149).bind fun t150 => ((impl_octaveOf.f a0).bind fun t151 => (if 0 ≤ (wrap64 (t151 + 1)) then (if (wrap64 (t151 + 1)) < 3 then (if t150.size + (pickS3 (wrap64 (t151 + 1)) (⟨#[44]⟩ : ByteArray) (⟨#[]⟩ : ByteArray) (⟨#[39]⟩ : ByteArray)).size ≤ 9223372036854775807 then (some (t150 ++ (pickS3 (wrap64 (t151 + 1)) (⟨#[44]⟩ : ByteArray) (⟨#[]⟩ : ByteArray) (⟨#[39]⟩ : ByteArray)))) else (none)) else (none)) else (none))))
set_option maxHeartbeats 8000000 in
set_option maxRecDepth 100000 in
theorem impl_pitchText.calls (a0 : Int) (r : ByteArray) (w : World) (h : impl_pitchText.f a0 = some r) :
  Calls Tryz.prog 26 #[.int .i64 a0] w fun e w' => e = .returned (.string r) ∧ Drawn0 w w' := by
 have H : ((impl_ToneOf.f a0).bind fun t149 => ((impl_ToneName.f t149).bind fun t150 => ((impl_octaveOf.f a0).bind fun t151 => (if 0 ≤ (wrap64 (t151 + 1)) then (if (wrap64 (t151 + 1)) < 3 then (if t150.size + (pickS3 (wrap64 (t151 + 1)) (⟨#[44]⟩ : ByteArray) (⟨#[]⟩ : ByteArray) (⟨#[39]⟩ : ByteArray)).size ≤ 9223372036854775807 then (some (t150 ++ (pickS3 (wrap64 (t151 + 1)) (⟨#[44]⟩ : ByteArray) (⟨#[]⟩ : ByteArray) (⟨#[39]⟩ : ByteArray)))) else (none)) else (none)) else (none))))) = some r := h
 clear h
 replace H := Option.bind_eq_some_iff.mp H
 obtain ⟨t149, A20, H⟩ := H
 replace H : ((impl_ToneName.f t149).bind fun t150 => ((impl_octaveOf.f a0).bind fun t151 => (if 0 ≤ (wrap64 (t151 + 1)) then (if (wrap64 (t151 + 1)) < 3 then (if t150.size + (pickS3 (wrap64 (t151 + 1)) (⟨#[44]⟩ : ByteArray) (⟨#[]⟩ : ByteArray) (⟨#[39]⟩ : ByteArray)).size ≤ 9223372036854775807 then (some (t150 ++ (pickS3 (wrap64 (t151 + 1)) (⟨#[44]⟩ : ByteArray) (⟨#[]⟩ : ByteArray) (⟨#[39]⟩ : ByteArray)))) else (none)) else (none)) else (none)))) = some r := H
 have A2 := Aside0.mk A20
 clear A20
 replace H := Option.bind_eq_some_iff.mp H
 obtain ⟨t150, A30, H⟩ := H
 replace H : ((impl_octaveOf.f a0).bind fun t151 => (if 0 ≤ (wrap64 (t151 + 1)) then (if (wrap64 (t151 + 1)) < 3 then (if t150.size + (pickS3 (wrap64 (t151 + 1)) (⟨#[44]⟩ : ByteArray) (⟨#[]⟩ : ByteArray) (⟨#[39]⟩ : ByteArray)).size ≤ 9223372036854775807 then (some (t150 ++ (pickS3 (wrap64 (t151 + 1)) (⟨#[44]⟩ : ByteArray) (⟨#[]⟩ : ByteArray) (⟨#[39]⟩ : ByteArray)))) else (none)) else (none)) else (none))) = some r := H
 have A3 := Aside0.mk A30
 clear A30
 replace H := Option.bind_eq_some_iff.mp H
 obtain ⟨t151, A40, H⟩ := H
 replace H : (if 0 ≤ (wrap64 (t151 + 1)) then (if (wrap64 (t151 + 1)) < 3 then (if t150.size + (pickS3 (wrap64 (t151 + 1)) (⟨#[44]⟩ : ByteArray) (⟨#[]⟩ : ByteArray) (⟨#[39]⟩ : ByteArray)).size ≤ 9223372036854775807 then (some (t150 ++ (pickS3 (wrap64 (t151 + 1)) (⟨#[44]⟩ : ByteArray) (⟨#[]⟩ : ByteArray) (⟨#[39]⟩ : ByteArray)))) else (none)) else (none)) else (none)) = some r := H
 have A4 := Aside0.mk A40
 clear A40
 obtain ⟨ji5, hji5⟩ : ∃ j_ : Int, (wrap64 (t151 + 1)) = j_ := ⟨_, rfl⟩
 replace H : (if 0 ≤ (ji5) then (if (ji5) < 3 then (if t150.size + (pickS3 (ji5) (⟨#[44]⟩ : ByteArray) (⟨#[]⟩ : ByteArray) (⟨#[39]⟩ : ByteArray)).size ≤ 9223372036854775807 then (some (t150 ++ (pickS3 (ji5) (⟨#[44]⟩ : ByteArray) (⟨#[]⟩ : ByteArray) (⟨#[39]⟩ : ByteArray)))) else (none)) else (none)) else (none)) = some r := by first | (rw [hji5] at H; exact H) | (simp only [hji5] at H ⊢; exact H)
 (try rw [hji5] at A2)
 (try rw [hji5] at A3)
 (try rw [hji5] at A4)
 have hji5w : (IntKind.i64.wrap (t151 + 1)) = ji5 := (iW _).trans hji5
 by_cases c6 : 0 ≤ (ji5)
 ·rw [if_pos c6] at H
  have c6b0 : decide (0 ≤ (ji5)) = true := decide_eq_true c6
  clear c6
  by_cases c7 : (ji5) < 3
  ·rw [if_pos c7] at H
   have c7b0 : decide ((ji5) < 3) = true := decide_eq_true c7
   clear c7
   by_cases c9 : t150.size + (pickS3 (ji5) (⟨#[44]⟩ : ByteArray) (⟨#[]⟩ : ByteArray) (⟨#[39]⟩ : ByteArray)).size ≤ 9223372036854775807
   ·rw [if_pos c9] at H
    have c9b0 := eq_true c9
    have c9b1 : decide (t150.size + (pickS3 (ji5) (⟨#[44]⟩ : ByteArray) (⟨#[]⟩ : ByteArray) (⟨#[39]⟩ : ByteArray)).size ≤ 9223372036854775807) = true := decide_eq_true c9
    try have c9b2 : (9223372036854775807 < t150.size + (pickS3 (ji5) (⟨#[44]⟩ : ByteArray) (⟨#[]⟩ : ByteArray) (⟨#[39]⟩ : ByteArray)).size) = False := eq_false (Nat.not_lt.2 c9)
    obtain rfl := Option.some.inj H
    go_enter Tryz.func26, Tryz.ntmps26
    go_wp2_with (first | ((with_reducible refine gC (f := 43) rfl ?_); refine goesL_ (some 4) rfl rfl Tryz.func43 (by kernel_rfl) rfl #[.int .i64 a0] rfl (by (try simp only [List.map_toArray, List.map_cons, List.map_nil]); first | done | rfl | (simp only [List.length_drop, List.length_take]; rfl)) ?_; (with_reducible refine (impl_ToneOf.calls a0 t149 _ A2.out).mono ?_); rintro e w' ⟨rfl, ⟨nd, rfl⟩⟩; refine ⟨_, rfl, ?_⟩) | ((with_reducible refine gC (f := 42) rfl ?_); refine goesL_ (some 5) rfl rfl Tryz.func42 (by kernel_rfl) rfl #[.int .i64 t149] rfl (by (try simp only [List.map_toArray, List.map_cons, List.map_nil]); first | done | rfl | (simp only [List.length_drop, List.length_take]; rfl)) ?_; (with_reducible refine (impl_ToneName.calls t149 t150 _ A3.out).mono ?_); rintro e w' ⟨rfl, ⟨nd, rfl⟩⟩; refine ⟨_, rfl, ?_⟩) | ((with_reducible refine gC (f := 44) rfl ?_); refine goesL_ (some 8) rfl rfl Tryz.func44 (by kernel_rfl) rfl #[.int .i64 a0] rfl (by (try simp only [List.map_toArray, List.map_cons, List.map_nil]); first | done | rfl | (simp only [List.length_drop, List.length_take]; rfl)) ?_; (with_reducible refine (impl_octaveOf.calls a0 t151 _ A4.out).mono ?_); rintro e w' ⟨rfl, ⟨nd, rfl⟩⟩; refine ⟨_, rfl, ?_⟩; have p8 : 0 ≤ ((ji5) : Int) := of_decide_eq_true (by first | (with_reducible assumption) | assumption); have q8 : ((ji5) : Int) < 3 := of_decide_eq_true (by first | (with_reducible assumption) | assumption); have hG8 : ∀ j_ : Int, 0 ≤ j_ → j_ < 3 → ∀ W : World, Sem.run Tryz.prog (Instr.index 65 (.agg #[.string (⟨#[44]⟩ : ByteArray), .string (⟨#[]⟩ : ByteArray), .string (⟨#[39]⟩ : ByteArray)]) (.int .i64 j_)) W = .ok (.string (pickS3 j_ (⟨#[44]⟩ : ByteArray) (⟨#[]⟩ : ByteArray) (⟨#[39]⟩ : ByteArray))) W := (by intro j_ h0_ h1_ W; obtain rfl | rfl | rfl : j_ = 0 ∨ j_ = 1 ∨ j_ = 2 := (by omega); all_goals kernel_rfl); have hx8 := hG8 (ji5) p8 q8; clear hG8; replace p8 := eq_true p8; replace q8 := eq_true q8))
    go_ret
    exact ⟨by first | rfl | (simp; done) | (simp only [← hji5] <;> (first | rfl | simp)) | (simp [*]; done), by repeat (first | exact Drawn0.refl _ | apply Drawn0.step)⟩
   ·rw [if_neg c9] at H
    exact absurd H (by simp)
  ·rw [if_neg c7] at H
   exact absurd H (by simp)
 ·rw [if_neg c6] at H
  exact absurd H (by simp)

/-! ### impl_pitchNamed: function 12 -/
/-- The first pitch from n on, of d, whose text is the given one. -/
def pns (s : ByteArray) : Nat → Int → Option (Int × Bool)
 | 0, _ => some (0, false)
 | d + 1, n => (impl_pitchText.f n).bind fun t => if t.toList = s.toList then some (n, true) else pns s d (n + 1)
set_option maxHeartbeats 800000 in
theorem pnClo (n : Int) (s t : ByteArray) (a : Nat) (q : Bool) (ht : impl_pitchText.f n = some t) (hq : (t.toList == s.toList) = q) (w : World) (ha : w.heap[a]? = some (.cells #[.string s] 9 (0, 0))) :
  Calls Tryz.prog 25 #[.int .i64 n, .pointer (some ⟨a, 0, none⟩)] w fun e w' => e = .returned (.bool q) ∧ Drawn0 w w' := by
 have h1 : w.cell? ⟨a, 0, none⟩ = some (.string s) := (kC ha 0).trans rfl
 have HT := Aside0.mk ht
 clear ha ht
 go_enter Tryz.func25, Tryz.ntmps25
 go_wp2
 go_quiet (first | (go_at_call 26; (with_reducible refine (impl_pitchText.calls n t _ HT.out).mono ?_); rintro e w' ⟨rfl, ⟨nd, rfl⟩⟩; (try first | exact ⟨rfl, _, World.drewN_drewN _ _ _⟩ | exact ⟨rfl, _, Eq.trans (World.drewN_drewN _ _ _) (congrArg (World.drewN _) (Nat.add_assoc _ _ _))⟩)))
 go_wp2
 go_ret
 exact ⟨by first | rfl | (simp; done) | (rw [← hq]; rfl) | simp_all, ⟨_, rfl⟩⟩
set_option maxHeartbeats 1600000 in
theorem pnLeast (s : ByteArray) (a : Nat) (r1 : Int) (r2 : Bool) (w : World) (ha : w.heap[a]? = some (.cells #[.string s] 9 (0, 0))) (h : pns s 36 (-12) = some (r1, r2)) :
  Calls Tryz.prog 24 #[.int .i64 (-12), .int .i64 23, .func (.func 25) #[] #[.pointer (some ⟨a, 0, none⟩)]] w fun e w' => e = .returned (.tuple #[.int .i64 r1, .bool r2]) ∧ ∃ n, w' = w.drewN n := by
 have HA := Aside0.mk ha
 have HH := Aside0.mk h
 clear ha h
 go_enter Tryz.func24, Tryz.ntmps24
 go_wp2
 go_loopw [8] (fun i wr => ∃ (d : Nat), d ≤ 36 ∧ i = .int .i64 (24 - (d : Int)) ∧ Aside0 (pns s d (24 - (d : Int)) = some (r1, r2)) ∧ Aside0 (∃ n, wr = w.drewN n)) (fun i _ => (24 - intOf i).toNat)
 case atStart => exact ⟨36, Nat.le_refl _, rfl, HH, ⟨0, rfl⟩⟩
 case round =>
  obtain ⟨d, hd, rfl, HP, ⟨⟨n, rfl⟩⟩⟩ := hrel
  cases d with
  | zero =>
   have hp := HP.out
   rw [pns] at hp
   obtain ⟨rfl, rfl⟩ := Prod.mk.inj (Option.some.inj hp)
   clear hp HP HH
   go_wp2
   go_ret2
   exact ⟨rfl, ⟨_, rfl⟩⟩
  | succ d =>
   have hp := HP.out
   rw [pns] at hp
   obtain ⟨t, ht, hp⟩ := Option.bind_eq_some_iff.1 hp
   obtain ⟨z, hz⟩ : ∃ z : Int, z = 24 - ((d + 1 : Nat) : Int) := ⟨_, rfl⟩
   rw [← hz] at ht hp ⊢
   have z0 : -12 ≤ z := by omega
   have z1 : z ≤ 23 := by omega
   have HT := Aside0.mk ht
   have HZ := Aside0.mk hz
   clear ht HP
   by_cases c : t.toList = s.toList
   ·rw [if_pos c] at hp
    obtain ⟨rfl, rfl⟩ := Prod.mk.inj (Option.some.inj hp)
    have cb := Aside0.mk (show (t.toList == s.toList) = true from beq_iff_eq.mpr c)
    clear c hp hz
    go_wp2_with (go_at_call 25; refine (pnClo z s t a true HT.out cb.out (w.drewN n) HA.out).mono ?_; rintro e w' ⟨rfl, ⟨q, rfl⟩⟩)
    go_ret2
    exact ⟨rfl, ⟨_, rfl⟩⟩
   ·rw [if_neg c] at hp
    have cb := Aside0.mk (show (t.toList == s.toList) = false from beq_eq_false_iff_ne.mpr c)
    have HP := Aside0.mk hp
    clear c hp hz
    go_wp2_with (go_at_call 25; refine (pnClo z s t a false HT.out cb.out (w.drewN n) HA.out).mono ?_; rintro e w' ⟨rfl, ⟨q, rfl⟩⟩)
    go_roundw
    case rel => exact ⟨d, by omega, by have := HZ.out; go_num, ⟨by have e : (24 : Int) - (d : Int) = z + 1 := (by have := HZ.out; omega); rw [e]; exact HP.out⟩, ⟨_, rfl⟩⟩
    case measure => have := HZ.out; simp [intOf]; omega
def impl_pitchNamed.f (a0 : ByteArray) : Option (Int × Bool) := pns a0 36 (-12)
set_option maxHeartbeats 1600000 in
theorem impl_pitchNamed.calls (a0 : ByteArray) (r1 : Int) (r2 : Bool) (w : World) (h : impl_pitchNamed.f a0 = some (r1, r2)) :
  Calls Tryz.prog 12 #[.string a0] w fun e w' => e = .returned (.tuple #[.int .i64 r1, .bool r2]) ∧ Below w.heap.size w w' := by
 have HH := Aside0.mk (show pns a0 36 (-12) = some (r1, r2) from h)
 clear h
 go_enter Tryz.func12, Tryz.ntmps12
 go_wp2_with (go_at_call 24; refine (pnLeast a0 w.heap.size r1 r2 (w.alloc (.cells #[.string a0] 9)) (heap_alloc_new w _) HH.out).mono ?_; rintro e w' ⟨rfl, ⟨q, rfl⟩⟩)
 go_ret2
 exact ⟨rfl, bN (bA (Below.refl _ _) _) _⟩

/-! ### impl_Decimal: function 29 -/
def impl_Decimal.f (a0 : Int) : Option ByteArray := if -9223372036854775808 ≤ a0 ∧ a0 ≤ 9223372036854775807 then some ⟨(Lib.itoa a0).toArray⟩ else none
set_option maxHeartbeats 4000000 in
set_option maxRecDepth 100000 in
theorem impl_Decimal.calls (a0 : Int) (r : ByteArray) (w : World) (hT : TabR w) (h : impl_Decimal.f a0 = some r) :
  Calls Tryz.prog 29 #[.int .i64 a0] w fun e w' => e = .returned (.string r) ∧ Below w.heap.size w w' := by
 by_cases c : -9223372036854775808 ≤ a0 ∧ a0 ≤ 9223372036854775807
 ·have hr : r = ⟨(Lib.itoa a0).toArray⟩ := by unfold impl_Decimal.f at h; rw [if_pos c] at h; exact (Option.some.inj h).symm
  obtain ⟨h0, h1⟩ := c
  clear h
  subst hr
  go_enter Tryz.func29, Tryz.ntmps29
  go_wp2_with (go_at_call 48; refine (Tryz.strconv_FormatInt_10 a0 h0 h1 _ hT.pow).mono ?_; rintro e w' ⟨rfl, kd, os, rfl⟩)
  go_ret
  exact ⟨rfl, below_drewgrow _ kd os⟩
 ·unfold impl_Decimal.f at h
  rw [if_neg c] at h
  cases h

end Go.Proofs.YtlmeijlandogaaaGreatDoor.R
-- shrunk
-- tight
