/- What functions of the given program compute, as plain Lean functions, and that the code comes to just that; by a program of this session over the kit's print. No condition. -/
import Derived.Test.YtlphcdophgkdpaaDoorOx0
namespace Go.Proofs.YtlphcdophgkdpaaDoor.O
open Go.RowKit Go.Proofs.YtlphcdophgkdpaaDoorW.PrintWords Go.Proofs.YtlphcdophgkdpaaDoorW.PrintLast Go.Proofs.YtlphcdophgkdpaaDoorW.PrintMore
open Go.Proofs.YtlphcdophgkdpaaDoorW.PrintWords renaming gate_callee → gC
attribute [local go_sem] max2_int min2_int max_two min_two max_three min_three max_four min_four   -- for this text's walks alone
set_option linter.unusedVariables false
set_option linter.unusedSimpArgs false

/-! ### spec_l00In: function 100 -/
def spec_l00In.f (a0 : Int) (a1 : Int) (a2 : Int) : Option (Bool) := if a0 ≥ a1 then (some (decide (a0 ≤ a2))) else (some false)
set_option maxHeartbeats 8000000 in
set_option maxRecDepth 100000 in
theorem spec_l00In.calls (a0 : Int) (a1 : Int) (a2 : Int) (r : Bool) (w : World) (h : spec_l00In.f a0 a1 a2 = some r) :
  Calls Tryd.prog 100 #[.int .i64 a0, .int .i64 a1, .int .i64 a2] w fun e w' => e = .returned (.bool r) ∧ Drawn0 w w' := by
 have H : (if a0 ≥ a1 then (some (decide (a0 ≤ a2))) else (some false)) = some r := h
 clear h
 by_cases c4 : a0 ≥ a1
 ·rw [if_pos c4] at H
  have c4b0 : decide (a1 ≤ a0) = true := decide_eq_true c4
  clear c4
  obtain rfl := Option.some.inj H
  go_enter Tryd.func100, Tryd.ntmps100
  go_wp2
  go_ret
  exact ⟨by first | rfl | (simp; done) | (simp [*]; done), by repeat (first | exact Drawn0.refl _ | apply Drawn0.step)⟩
 ·rw [if_neg c4] at H
  have c4b0 : decide (a1 ≤ a0) = false := decide_eq_false c4
  clear c4
  obtain rfl := Option.some.inj H
  go_enter Tryd.func100, Tryd.ntmps100
  go_wp2
  go_ret
  exact ⟨by first | rfl | (simp; done) | (simp [*]; done), by repeat (first | exact Drawn0.refl _ | apply Drawn0.step)⟩

/-! ### spec_l10Ok: function 64 -/
def spec_l10Ok.f (a0_0 : Int) (a0_1 : Int) (a0_2 : Int) : Option (Bool) := (spec_l00In.f a0_0 1 4).bind fun t102 => (if t102 = true then ((spec_l00In.f a0_1 (-1200) 1200).bind fun t103 => (if t103 = true then ((spec_l00In.f a0_2 1 16).bind fun t104 => (some t104)) else (some false))) else (some false))
set_option maxHeartbeats 8000000 in
set_option maxRecDepth 100000 in
theorem spec_l10Ok.calls (adp0 : Addr) (a0_0 : Int) (a0_1 : Int) (a0_2 : Int) (r : Bool) (w : World) (hp0 : Kd.C k39 w (some adp0) 1 [(⟨a0_0, a0_1, a0_2⟩ : S39)]) (h : spec_l10Ok.f a0_0 a0_1 a0_2 = some r) :
  Calls Tryd.prog 64 #[.pointer (some adp0)] w fun e w' => e = .returned (.bool r) ∧ Drawn0 w w' := by
 have HRp0 := Aside0.mk hp0
 clear hp0
 have H : ((spec_l00In.f a0_0 1 4).bind fun t102 => (if t102 = true then ((spec_l00In.f a0_1 (-1200) 1200).bind fun t103 => (if t103 = true then ((spec_l00In.f a0_2 1 16).bind fun t104 => (some t104)) else (some false))) else (some false))) = some r := h
 clear h
 replace H := Option.bind_eq_some_iff.mp H
 obtain ⟨t102, A20, H⟩ := H
 replace H : (if t102 = true then ((spec_l00In.f a0_1 (-1200) 1200).bind fun t103 => (if t103 = true then ((spec_l00In.f a0_2 1 16).bind fun t104 => (some t104)) else (some false))) else (some false)) = some r := H
 have A2 := Aside0.mk A20
 clear A20
 by_cases c3 : t102 = true
 ·subst c3
  have H1 : ((spec_l00In.f a0_1 (-1200) 1200).bind fun t103 => (if t103 = true then ((spec_l00In.f a0_2 1 16).bind fun t104 => (some t104)) else (some false))) = some r := by rw [if_pos rfl] at H; exact H
  clear H
  have H := H1
  clear H1
  replace H := Option.bind_eq_some_iff.mp H
  obtain ⟨t103, A40, H⟩ := H
  replace H : (if t103 = true then ((spec_l00In.f a0_2 1 16).bind fun t104 => (some t104)) else (some false)) = some r := H
  have A4 := Aside0.mk A40
  clear A40
  by_cases c5 : t103 = true
  ·subst c5
   have H1 : ((spec_l00In.f a0_2 1 16).bind fun t104 => (some t104)) = some r := by rw [if_pos rfl] at H; exact H
   clear H
   have H := H1
   clear H1
   replace H := Option.bind_eq_some_iff.mp H
   obtain ⟨t104, A60, H⟩ := H
   replace H : (some t104) = some r := H
   have A6 := Aside0.mk A60
   clear A60
   obtain rfl := Option.some.inj H
   have p101 : 0 ≤ (0 : Int) := (by omega)
   have q101 : 0 < ([(⟨a0_0, a0_1, a0_2⟩ : S39)].length : Int) := (by simp)
   obtain ⟨ad101, e101, hx101_0, hx101_1, hx101_2⟩ := at_T39 HRp0.out 0 p101 q101
   replace hx101_0 : _ = (some (.int .i64 a0_0) : Option Value) := hx101_0
   replace hx101_1 : _ = (some (.int .i64 a0_1) : Option Value) := hx101_1
   replace hx101_2 : _ = (some (.int .i64 a0_2) : Option Value) := hx101_2
   obtain rfl : adp0 = ad101 := (by injection e101)
   have qi101 : (0 < [(⟨a0_0, a0_1, a0_2⟩ : S39)].length) = True := eq_true (by simp)
   (try rw [show ((0 : Int)).toNat = 0 from rfl] at hx101_0)
   (try rw [show 0 * 3 = 0 from rfl] at hx101_0)
   (try rw [Addr.add_zero'] at hx101_0)
   (try rw [show ((0 : Int)).toNat = 0 from rfl] at hx101_1)
   (try rw [show 0 * 3 = 0 from rfl] at hx101_1)
   (try rw [Addr.add_zero'] at hx101_1)
   (try rw [show ((0 : Int)).toNat = 0 from rfl] at hx101_2)
   (try rw [show 0 * 3 = 0 from rfl] at hx101_2)
   (try rw [Addr.add_zero'] at hx101_2)
   replace p101 := eq_true p101
   replace q101 := eq_true q101
   go_enter Tryd.func64, Tryd.ntmps64
   go_wp2_with (first | ((with_reducible refine gC (f := 100) rfl ?_); refine goesL_ (some 7) rfl rfl Tryd.func100 (by kernel_rfl) rfl #[.int .i64 a0_0, .int .i64 1, .int .i64 4] rfl (by (try simp only [List.map_toArray, List.map_cons, List.map_nil]); first | done | rfl | (simp only [List.length_drop, List.length_take]; rfl)) ?_; (with_reducible refine (spec_l00In.calls a0_0 1 4 true _ A2.out).mono ?_); rintro e w' ⟨rfl, ⟨nd, rfl⟩⟩; refine ⟨_, rfl, ?_⟩) | (go_at_call 100; (with_reducible refine (spec_l00In.calls a0_1 (-1200) 1200 true _ A4.out).mono ?_); rintro e w' ⟨rfl, ⟨nd, rfl⟩⟩) | (go_at_call 100; (with_reducible refine (spec_l00In.calls a0_2 1 16 t104 _ A6.out).mono ?_); rintro e w' ⟨rfl, ⟨nd, rfl⟩⟩))
   go_ret
   exact ⟨by first | rfl | (simp; done) | (simp [*]; done), by repeat (first | exact Drawn0.refl _ | apply Drawn0.step)⟩
  ·replace c5 := Bool.eq_false_iff.mpr c5
   subst c5
   have H1 : (some false) = some r := by rw [if_neg (show ¬ (false = true) by decide)] at H; exact H
   clear H
   have H := H1
   clear H1
   obtain rfl := Option.some.inj H
   have p101 : 0 ≤ (0 : Int) := (by omega)
   have q101 : 0 < ([(⟨a0_0, a0_1, a0_2⟩ : S39)].length : Int) := (by simp)
   obtain ⟨ad101, e101, hx101_0, hx101_1, hx101_2⟩ := at_T39 HRp0.out 0 p101 q101
   replace hx101_0 : _ = (some (.int .i64 a0_0) : Option Value) := hx101_0
   replace hx101_1 : _ = (some (.int .i64 a0_1) : Option Value) := hx101_1
   replace hx101_2 : _ = (some (.int .i64 a0_2) : Option Value) := hx101_2
   obtain rfl : adp0 = ad101 := (by injection e101)
   have qi101 : (0 < [(⟨a0_0, a0_1, a0_2⟩ : S39)].length) = True := eq_true (by simp)
   (try rw [show ((0 : Int)).toNat = 0 from rfl] at hx101_0)
   (try rw [show 0 * 3 = 0 from rfl] at hx101_0)
   (try rw [Addr.add_zero'] at hx101_0)
   (try rw [show ((0 : Int)).toNat = 0 from rfl] at hx101_1)
   (try rw [show 0 * 3 = 0 from rfl] at hx101_1)
   (try rw [Addr.add_zero'] at hx101_1)
   (try rw [show ((0 : Int)).toNat = 0 from rfl] at hx101_2)
   (try rw [show 0 * 3 = 0 from rfl] at hx101_2)
   (try rw [Addr.add_zero'] at hx101_2)
   replace p101 := eq_true p101
   replace q101 := eq_true q101
   go_enter Tryd.func64, Tryd.ntmps64
   go_wp2_with (first | ((with_reducible refine gC (f := 100) rfl ?_); refine goesL_ (some 7) rfl rfl Tryd.func100 (by kernel_rfl) rfl #[.int .i64 a0_0, .int .i64 1, .int .i64 4] rfl (by (try simp only [List.map_toArray, List.map_cons, List.map_nil]); first | done | rfl | (simp only [List.length_drop, List.length_take]; rfl)) ?_; (with_reducible refine (spec_l00In.calls a0_0 1 4 true _ A2.out).mono ?_); rintro e w' ⟨rfl, ⟨nd, rfl⟩⟩; refine ⟨_, rfl, ?_⟩) | (go_at_call 100; (with_reducible refine (spec_l00In.calls a0_1 (-1200) 1200 false _ A4.out).mono ?_); rintro e w' ⟨rfl, ⟨nd, rfl⟩⟩))
   go_ret
   exact ⟨by first | rfl | (simp; done) | (simp [*]; done), by repeat (first | exact Drawn0.refl _ | apply Drawn0.step)⟩
 ·replace c3 := Bool.eq_false_iff.mpr c3
  subst c3
  have H1 : (some false) = some r := by rw [if_neg (show ¬ (false = true) by decide)] at H; exact H
  clear H
  have H := H1
  clear H1
  obtain rfl := Option.some.inj H
  have p101 : 0 ≤ (0 : Int) := (by omega)
  have q101 : 0 < ([(⟨a0_0, a0_1, a0_2⟩ : S39)].length : Int) := (by simp)
  obtain ⟨ad101, e101, hx101_0, hx101_1, hx101_2⟩ := at_T39 HRp0.out 0 p101 q101
  replace hx101_0 : _ = (some (.int .i64 a0_0) : Option Value) := hx101_0
  replace hx101_1 : _ = (some (.int .i64 a0_1) : Option Value) := hx101_1
  replace hx101_2 : _ = (some (.int .i64 a0_2) : Option Value) := hx101_2
  obtain rfl : adp0 = ad101 := (by injection e101)
  have qi101 : (0 < [(⟨a0_0, a0_1, a0_2⟩ : S39)].length) = True := eq_true (by simp)
  (try rw [show ((0 : Int)).toNat = 0 from rfl] at hx101_0)
  (try rw [show 0 * 3 = 0 from rfl] at hx101_0)
  (try rw [Addr.add_zero'] at hx101_0)
  (try rw [show ((0 : Int)).toNat = 0 from rfl] at hx101_1)
  (try rw [show 0 * 3 = 0 from rfl] at hx101_1)
  (try rw [Addr.add_zero'] at hx101_1)
  (try rw [show ((0 : Int)).toNat = 0 from rfl] at hx101_2)
  (try rw [show 0 * 3 = 0 from rfl] at hx101_2)
  (try rw [Addr.add_zero'] at hx101_2)
  replace p101 := eq_true p101
  replace q101 := eq_true q101
  go_enter Tryd.func64, Tryd.ntmps64
  go_wp2_with (first | ((with_reducible refine gC (f := 100) rfl ?_); refine goesL_ (some 7) rfl rfl Tryd.func100 (by kernel_rfl) rfl #[.int .i64 a0_0, .int .i64 1, .int .i64 4] rfl (by (try simp only [List.map_toArray, List.map_cons, List.map_nil]); first | done | rfl | (simp only [List.length_drop, List.length_take]; rfl)) ?_; (with_reducible refine (spec_l00In.calls a0_0 1 4 false _ A2.out).mono ?_); rintro e w' ⟨rfl, ⟨nd, rfl⟩⟩; refine ⟨_, rfl, ?_⟩))
  go_ret
  exact ⟨by first | rfl | (simp; done) | (simp [*]; done), by repeat (first | exact Drawn0.refl _ | apply Drawn0.step)⟩

/-! ### spec_l10Name: function 104 -/
def spec_l10Name.f (a0 : Int) : Option (ByteArray) := if a0 = 1 then (some (⟨#[103, 108, 105, 100, 101]⟩ : ByteArray)) else (if a0 = 2 then (some (⟨#[115, 104, 97, 107, 101]⟩ : ByteArray)) else (if a0 = 3 then (some (⟨#[103, 114, 97, 99, 101]⟩ : ByteArray)) else (if a0 = 4 then (some (⟨#[115, 119, 101, 108, 108]⟩ : ByteArray)) else (some (⟨#[]⟩ : ByteArray)))))
set_option maxHeartbeats 8000000 in
set_option maxRecDepth 100000 in
theorem spec_l10Name.calls (a0 : Int) (r : ByteArray) (w : World) (h : spec_l10Name.f a0 = some r) :
  Calls Tryd.prog 104 #[.int .i64 a0] w fun e w' => e = .returned (.string r) ∧ Drawn0 w w' := by
 have H : (if a0 = 1 then (some (⟨#[103, 108, 105, 100, 101]⟩ : ByteArray)) else (if a0 = 2 then (some (⟨#[115, 104, 97, 107, 101]⟩ : ByteArray)) else (if a0 = 3 then (some (⟨#[103, 114, 97, 99, 101]⟩ : ByteArray)) else (if a0 = 4 then (some (⟨#[115, 119, 101, 108, 108]⟩ : ByteArray)) else (some (⟨#[]⟩ : ByteArray)))))) = some r := h
 clear h
 by_cases c2 : a0 = 1
 ·rw [if_pos c2] at H
  have c2b0 : (a0 == 1) = true := beq_iff_eq.mpr c2
  have c2b1 : (a0 != 1) = false := bne_eq_false_iff_eq.mpr c2
  clear c2
  obtain rfl := Option.some.inj H
  go_enter Tryd.func104, Tryd.ntmps104
  go_wp2
  go_ret
  exact ⟨by first | rfl | (simp; done) | (simp [*]; done), by repeat (first | exact Drawn0.refl _ | apply Drawn0.step)⟩
 ·rw [if_neg c2] at H
  have c2b0 : (a0 == 1) = false := beq_eq_false_iff_ne.mpr c2
  have c2b1 : (a0 != 1) = true := bne_iff_ne.mpr c2
  by_cases c3 : a0 = 2
  ·rw [if_pos c3] at H
   have c3b0 : (a0 == 2) = true := beq_iff_eq.mpr c3
   have c3b1 : (a0 != 2) = false := bne_eq_false_iff_eq.mpr c3
   clear c3
   obtain rfl := Option.some.inj H
   go_enter Tryd.func104, Tryd.ntmps104
   go_wp2
   go_ret
   exact ⟨by first | rfl | (simp; done) | (simp [*]; done), by repeat (first | exact Drawn0.refl _ | apply Drawn0.step)⟩
  ·rw [if_neg c3] at H
   have c3b0 : (a0 == 2) = false := beq_eq_false_iff_ne.mpr c3
   have c3b1 : (a0 != 2) = true := bne_iff_ne.mpr c3
   by_cases c4 : a0 = 3
   ·rw [if_pos c4] at H
    have c4b0 : (a0 == 3) = true := beq_iff_eq.mpr c4
    have c4b1 : (a0 != 3) = false := bne_eq_false_iff_eq.mpr c4
    clear c4
    obtain rfl := Option.some.inj H
    go_enter Tryd.func104, Tryd.ntmps104
    go_wp2
    go_ret
    exact ⟨by first | rfl | (simp; done) | (simp [*]; done), by repeat (first | exact Drawn0.refl _ | apply Drawn0.step)⟩
   ·rw [if_neg c4] at H
    have c4b0 : (a0 == 3) = false := beq_eq_false_iff_ne.mpr c4
    have c4b1 : (a0 != 3) = true := bne_iff_ne.mpr c4
    by_cases c5 : a0 = 4
    ·rw [if_pos c5] at H
     have c5b0 : (a0 == 4) = true := beq_iff_eq.mpr c5
     have c5b1 : (a0 != 4) = false := bne_eq_false_iff_eq.mpr c5
     clear c5
     obtain rfl := Option.some.inj H
     go_enter Tryd.func104, Tryd.ntmps104
     go_wp2
     go_ret
     exact ⟨by first | rfl | (simp; done) | (simp [*]; done), by repeat (first | exact Drawn0.refl _ | apply Drawn0.step)⟩
    ·rw [if_neg c5] at H
     have c5b0 : (a0 == 4) = false := beq_eq_false_iff_ne.mpr c5
     have c5b1 : (a0 != 4) = true := bne_iff_ne.mpr c5
     obtain rfl := Option.some.inj H
     go_enter Tryd.func104, Tryd.ntmps104
     go_wp2
     go_ret
     exact ⟨by first | rfl | (simp; done) | (simp [*]; done), by repeat (first | exact Drawn0.refl _ | apply Drawn0.step)⟩

end Go.Proofs.YtlphcdophgkdpaaDoor.O
-- shrunk
-- tight
