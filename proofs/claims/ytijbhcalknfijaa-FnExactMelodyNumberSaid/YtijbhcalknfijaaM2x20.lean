/- What functions of the given program compute, as plain Lean functions, and that the code comes to just that; by a program of this session over the kit's print. No condition. -/
import Derived.Test.YtijbhcalknfijaaM2x0
import Derived.Test.YtijbhcalknfijaaM2x19
namespace Go.Proofs.Ytijbhcalknfijaa.M2
open Go.RowKit Go.Proofs.YtijbhcalknfijaaW.PrintWords Go.Proofs.YtijbhcalknfijaaW.PrintLast Go.Proofs.YtijbhcalknfijaaW.PrintMore
attribute [local go_sem] max2_int min2_int max_two min_two max_three min_three max_four min_four   -- for this text's walks alone
set_option linter.unusedVariables false
set_option linter.unusedSimpArgs false

/-! ### spec_l07Accepts: function 69 -/
def spec_l07Accepts.f (k : Nat) (a0_0 : Int) (a0_1 : Int) (l0_2 : List Int) (l0_3 : List (S67)) (l1 : List Int) : Option (Bool) := (spec_l07Run.f k a0_0 a0_1 l0_2 l0_3 l1).bind fun bt284 => (if bt284.2 = (l1.length : Int) then ((spec_l00Has.f k l0_2 bt284.1).bind fun t287 => (some t287)) else (some false))
theorem spec_l07Accepts.mono : ∀ a0 a1 a2 a3 a4 k, LeO (spec_l07Accepts.f k a0 a1 a2 a3 a4) (spec_l07Accepts.f (k + 1) a0 a1 a2 a3 a4) := by
 intro a0 a1 a2 a3 a4 k
 unfold spec_l07Accepts.f
 repeat' first
   | (with_reducible exact spec_l00Has.mono _ _ _)
   | (with_reducible exact spec_l07Run.mono _ _ _ _ _ _)
   | (with_reducible exact LeO.refl _)
   | (with_reducible exact LeO.none _)
   | (with_reducible refine LeO.ite ?_ ?_)
   | (with_reducible refine LeO.bind ?_ (fun _ => ?_))
   | exact spec_l00Has.mono _ _ _
   | exact spec_l07Run.mono _ _ _ _ _ _
   | exact LeO.none _
   | refine LeO.ite ?_ ?_
   | refine LeO.bind ?_ (fun _ => ?_)
set_option maxHeartbeats 8000000 in
set_option maxRecDepth 100000 in
theorem spec_l07Accepts.calls (k : Nat) (adp0 : Addr) (a0_0 : Int) (a0_1 : Int) (l0_2 : List Int) (l0_3 : List (S67)) (A1 : Option Addr) (c1 : Nat) (l1 : List Int) (r : Bool) (w : World) (hp0 : Kd.C k30 w (some adp0) 1 [(⟨a0_0, a0_1, l0_2, l0_3⟩ : S30)]) (hr1 : Kd.C (Kd.int .i64) w A1 l1.length l1) (hc1 : l1.length ≤ c1) (h : spec_l07Accepts.f k a0_0 a0_1 l0_2 l0_3 l1 = some r) :
  Calls Try.prog 69 #[.pointer (some adp0), .slice A1 l1.length c1] w fun e w' => e = .returned (.bool r) ∧ Drawn0 w w' := by
 have HRp0 := Aside0.mk hp0
 clear hp0
 have HR1 := Aside0.mk hr1
 have HC1 := Aside0.mk hc1
 clear hr1 hc1
 have H : ((spec_l07Run.f k a0_0 a0_1 l0_2 l0_3 l1).bind fun bt284 => (if bt284.2 = (l1.length : Int) then ((spec_l00Has.f k l0_2 bt284.1).bind fun t287 => (some t287)) else (some false))) = some r := h
 clear h
 replace H := Option.bind_eq_some_iff.mp H
 obtain ⟨⟨t284, t285⟩, A30, H⟩ := H
 replace H : (if t285 = (l1.length : Int) then ((spec_l00Has.f k l0_2 t284).bind fun t287 => (some t287)) else (some false)) = some r := H
 have A3 := Aside0.mk A30
 clear A30
 by_cases c4 : t285 = (l1.length : Int)
 ·rw [if_pos c4] at H
  have c4b0 : (t285 == (l1.length : Int)) = true := beq_iff_eq.mpr c4
  have c4b1 : (t285 != (l1.length : Int)) = false := bne_eq_false_iff_eq.mpr c4
  clear c4
  replace H := Option.bind_eq_some_iff.mp H
  obtain ⟨t287, A50, H⟩ := H
  replace H : (some t287) = some r := H
  have A5 := Aside0.mk A50
  clear A50
  obtain rfl := Option.some.inj H
  go_enter Try.func69, Try.ntmps69
  go_wp2_with (first | ((with_reducible refine gate_callee (f := 77) rfl ?_); refine goesL_ (some 10) rfl rfl Try.func77 (by kernel_rfl) rfl #[.pointer (some adp0), .slice A1 l1.length c1] rfl (by (try simp only [List.map_toArray, List.map_cons, List.map_nil]); first | done | rfl | (simp only [List.length_drop, List.length_take]; rfl)) ?_; (with_reducible refine (spec_l07Run.calls k adp0 a0_0 a0_1 l0_2 l0_3 _ _ l1 t284 t285 _ ?side1 ?side2 ?side3 A3.out).mono ?_); (case side1 => repeat (first | exact HRp0.out | (with_reducible refine Kd.C_alloc ?_ _) | (with_reducible refine Kd.C_drewN ?_ _) | (with_reducible refine Kd.C_drew ?_))); (case side2 => repeat (first | exact HR1.out | (with_reducible refine Kd.C_alloc ?_ _) | (with_reducible refine Kd.C_drewN ?_ _) | (with_reducible refine Kd.C_drew ?_))); (case side3 => exact HC1.out); rintro e w' ⟨rfl, ⟨nd, rfl⟩⟩; refine ⟨_, rfl, ?_⟩; have p286 : 0 ≤ (0 : Int) := (by omega); have q286 : 0 < ([(⟨a0_0, a0_1, l0_2, l0_3⟩ : S30)].length : Int) := (by simp); obtain ⟨ad286, A286_2, c286_2, A286_3, c286_3, e286, hx286_0, hx286_1, hx286_2, hx286_3, hl286_2, hi286_2, hl286_3, hi286_3⟩ := at_T30 HRp0.out 0 p286 q286; replace hx286_0 : _ = (some (.int .i64 a0_0) : Option Value) := hx286_0; replace hx286_1 : _ = (some (.int .i64 a0_1) : Option Value) := hx286_1; replace hx286_2 : _ = (some (.slice A286_2 l0_2.length c286_2) : Option Value) := hx286_2; replace hi286_2 : Kd.C (Kd.int .i64) _ _ l0_2.length l0_2 := hi286_2; replace hl286_2 : l0_2.length ≤ _ := hl286_2; replace hx286_3 : _ = (some (.slice A286_3 l0_3.length c286_3) : Option Value) := hx286_3; replace hi286_3 : Kd.C k67 _ _ l0_3.length l0_3 := hi286_3; replace hl286_3 : l0_3.length ≤ _ := hl286_3; obtain rfl : adp0 = ad286 := (by injection e286); have qi286 : (0 < [(⟨a0_0, a0_1, l0_2, l0_3⟩ : S30)].length) = True := eq_true (by simp); (try rw [show ((0 : Int)).toNat = 0 from rfl] at hx286_0); (try rw [show 0 * 4 = 0 from rfl] at hx286_0); (try rw [Addr.add_zero'] at hx286_0); (try rw [show ((0 : Int)).toNat = 0 from rfl] at hx286_1); (try rw [show 0 * 4 = 0 from rfl] at hx286_1); (try rw [Addr.add_zero'] at hx286_1); (try rw [show ((0 : Int)).toNat = 0 from rfl] at hx286_2); (try rw [show 0 * 4 = 0 from rfl] at hx286_2); (try rw [Addr.add_zero'] at hx286_2); (try rw [show ((0 : Int)).toNat = 0 from rfl] at hx286_3); (try rw [show 0 * 4 = 0 from rfl] at hx286_3); (try rw [Addr.add_zero'] at hx286_3); have HR286_2 := Aside0.mk hi286_2; have HC286_2 := Aside0.mk hl286_2; clear hi286_2 hl286_2; have HR286_3 := Aside0.mk hi286_3; have HC286_3 := Aside0.mk hl286_3; clear hi286_3 hl286_3; replace p286 := eq_true p286; replace q286 := eq_true q286) | (go_at_call 80; (with_reducible refine (spec_l00Has.calls k _ _ l0_2 t284 t287 _ ?side1 ?side2 A5.out).mono ?_); (case side1 => repeat (first | exact HR286_2.out | (with_reducible refine Kd.C_alloc ?_ _) | (with_reducible refine Kd.C_drewN ?_ _) | (with_reducible refine Kd.C_drew ?_))); (case side2 => exact HC286_2.out); rintro e w' ⟨rfl, ⟨nd, rfl⟩⟩))
  go_ret
  exact ⟨by first | rfl | (simp; done) | (simp [*]; done), by repeat (first | exact Drawn0.refl _ | apply Drawn0.step)⟩
 ·rw [if_neg c4] at H
  have c4b0 : (t285 == (l1.length : Int)) = false := beq_eq_false_iff_ne.mpr c4
  have c4b1 : (t285 != (l1.length : Int)) = true := bne_iff_ne.mpr c4
  obtain rfl := Option.some.inj H
  go_enter Try.func69, Try.ntmps69
  go_wp2_with (first | ((with_reducible refine gate_callee (f := 77) rfl ?_); refine goesL_ (some 10) rfl rfl Try.func77 (by kernel_rfl) rfl #[.pointer (some adp0), .slice A1 l1.length c1] rfl (by (try simp only [List.map_toArray, List.map_cons, List.map_nil]); first | done | rfl | (simp only [List.length_drop, List.length_take]; rfl)) ?_; (with_reducible refine (spec_l07Run.calls k adp0 a0_0 a0_1 l0_2 l0_3 _ _ l1 t284 t285 _ ?side1 ?side2 ?side3 A3.out).mono ?_); (case side1 => repeat (first | exact HRp0.out | (with_reducible refine Kd.C_alloc ?_ _) | (with_reducible refine Kd.C_drewN ?_ _) | (with_reducible refine Kd.C_drew ?_))); (case side2 => repeat (first | exact HR1.out | (with_reducible refine Kd.C_alloc ?_ _) | (with_reducible refine Kd.C_drewN ?_ _) | (with_reducible refine Kd.C_drew ?_))); (case side3 => exact HC1.out); rintro e w' ⟨rfl, ⟨nd, rfl⟩⟩; refine ⟨_, rfl, ?_⟩))
  go_ret
  exact ⟨by first | rfl | (simp; done) | (simp [*]; done), by repeat (first | exact Drawn0.refl _ | apply Drawn0.step)⟩

end Go.Proofs.Ytijbhcalknfijaa.M2
-- shrunk
