/- What functions of the given program compute, as plain Lean functions, and that the code comes to just that; by a program of this session over the kit's print. No condition. -/
import Derived.Test.YtijbhcalknfijaaM6x0
import Derived.Test.YtijbhcalknfijaaM6x4
import Derived.Test.YtijbhcalknfijaaM6x5
import Derived.Test.YtijbhcalknfijaaM6x6
import Derived.Test.YtijbhcalknfijaaM6x8
namespace Go.Proofs.Ytijbhcalknfijaa.M6
open Go.RowKit Go.Proofs.YtijbhcalknfijaaW.PrintWords Go.Proofs.YtijbhcalknfijaaW.PrintLast Go.Proofs.YtijbhcalknfijaaW.PrintMore
open Go.Proofs.YtijbhcalknfijaaW.PrintLast renaming i64_w → iW
open Go.Proofs.YtijbhcalknfijaaW.PrintWords.Kd renaming C_alloc → cA, C_drewN → cN, C_drew → cD
attribute [local go_sem] max2_int min2_int max_two min_two max_three min_three max_four min_four   -- for this text's walks alone
set_option linter.unusedVariables false
set_option linter.unusedSimpArgs false

/-! ### spec_l05Ok: function 85 -/
def spec_l05Ok.f (k : Nat) (a0_0 : ByteArray) (l0_1 : List Int) (l0_2 : List Int) (a0_3 : Int) (a0_4 : Int) (l0_5 : List (List Int)) : Option (Bool) := (spec_l01Name.f k a0_0).bind fun t148 => (if t148 = true then ((spec_l03Scale.f k l0_1).bind fun t149 => (if t149 = true then ((spec_l03Scale.f k l0_2).bind fun t150 => (if t150 = true then ((spec_l05Tone.f k a0_0 l0_1 l0_2 a0_3 a0_4 l0_5 a0_3).bind fun t151 => (if t151 = true then ((spec_l05Tone.f k a0_0 l0_1 l0_2 a0_3 a0_4 l0_5 a0_4).bind fun t152 => (if t152 = true then (if a0_3 = a0_4 then (some false) else ((spec_l05Pairs.f k l0_5).bind fun t153 => (some t153))) else (some false))) else (some false))) else (some false))) else (some false))) else (some false))
theorem spec_l05Ok.mono : ∀ a0 a1 a2 a3 a4 a5 k, LeO (spec_l05Ok.f k a0 a1 a2 a3 a4 a5) (spec_l05Ok.f (k + 1) a0 a1 a2 a3 a4 a5) := by
 intro a0 a1 a2 a3 a4 a5 k
 unfold spec_l05Ok.f
 repeat' first
   | (with_reducible exact spec_l01Name.mono _ _)
   | (with_reducible exact spec_l03Scale.mono _ _)
   | (with_reducible exact spec_l05Pairs.mono _ _)
   | (with_reducible exact spec_l05Tone.mono _ _ _ _ _ _ _ _)
   | (with_reducible exact LeO.refl _)
   | (with_reducible exact LeO.none _)
   | (with_reducible refine LeO.ite ?_ ?_)
   | (with_reducible refine LeO.bind ?_ (fun _ => ?_))
   | exact spec_l01Name.mono _ _
   | exact spec_l03Scale.mono _ _
   | exact spec_l05Pairs.mono _ _
   | exact spec_l05Tone.mono _ _ _ _ _ _ _ _
   | exact LeO.none _
   | refine LeO.ite ?_ ?_
   | refine LeO.bind ?_ (fun _ => ?_)
set_option maxHeartbeats 8000000 in
set_option maxRecDepth 100000 in
theorem spec_l05Ok.calls (k : Nat) (adp0 : Addr) (a0_0 : ByteArray) (l0_1 : List Int) (l0_2 : List Int) (a0_3 : Int) (a0_4 : Int) (l0_5 : List (List Int)) (r : Bool) (w : World) (hp0 : Kd.C k58 w (some adp0) 1 [(⟨a0_0, l0_1, l0_2, a0_3, a0_4, l0_5⟩ : S58)]) (h : spec_l05Ok.f k a0_0 l0_1 l0_2 a0_3 a0_4 l0_5 = some r) :
  Calls Try.prog 85 #[.pointer (some adp0)] w fun e w' => e = .returned (.bool r) ∧ Drawn0 w w' := by
 have HRp0 := Aside0.mk hp0
 clear hp0
 have H : ((spec_l01Name.f k a0_0).bind fun t148 => (if t148 = true then ((spec_l03Scale.f k l0_1).bind fun t149 => (if t149 = true then ((spec_l03Scale.f k l0_2).bind fun t150 => (if t150 = true then ((spec_l05Tone.f k a0_0 l0_1 l0_2 a0_3 a0_4 l0_5 a0_3).bind fun t151 => (if t151 = true then ((spec_l05Tone.f k a0_0 l0_1 l0_2 a0_3 a0_4 l0_5 a0_4).bind fun t152 => (if t152 = true then (if a0_3 = a0_4 then (some false) else ((spec_l05Pairs.f k l0_5).bind fun t153 => (some t153))) else (some false))) else (some false))) else (some false))) else (some false))) else (some false))) = some r := h
 clear h
 replace H := Option.bind_eq_some_iff.mp H
 obtain ⟨t148, A20, H⟩ := H
 replace H : (if t148 = true then ((spec_l03Scale.f k l0_1).bind fun t149 => (if t149 = true then ((spec_l03Scale.f k l0_2).bind fun t150 => (if t150 = true then ((spec_l05Tone.f k a0_0 l0_1 l0_2 a0_3 a0_4 l0_5 a0_3).bind fun t151 => (if t151 = true then ((spec_l05Tone.f k a0_0 l0_1 l0_2 a0_3 a0_4 l0_5 a0_4).bind fun t152 => (if t152 = true then (if a0_3 = a0_4 then (some false) else ((spec_l05Pairs.f k l0_5).bind fun t153 => (some t153))) else (some false))) else (some false))) else (some false))) else (some false))) else (some false)) = some r := H
 have A2 := Aside0.mk A20
 clear A20
 by_cases c3 : t148 = true
 ·subst c3
  have H1 : ((spec_l03Scale.f k l0_1).bind fun t149 => (if t149 = true then ((spec_l03Scale.f k l0_2).bind fun t150 => (if t150 = true then ((spec_l05Tone.f k a0_0 l0_1 l0_2 a0_3 a0_4 l0_5 a0_3).bind fun t151 => (if t151 = true then ((spec_l05Tone.f k a0_0 l0_1 l0_2 a0_3 a0_4 l0_5 a0_4).bind fun t152 => (if t152 = true then (if a0_3 = a0_4 then (some false) else ((spec_l05Pairs.f k l0_5).bind fun t153 => (some t153))) else (some false))) else (some false))) else (some false))) else (some false))) = some r := by rw [if_pos rfl] at H; exact H
  clear H
  have H := H1
  clear H1
  replace H := Option.bind_eq_some_iff.mp H
  obtain ⟨t149, A40, H⟩ := H
  replace H : (if t149 = true then ((spec_l03Scale.f k l0_2).bind fun t150 => (if t150 = true then ((spec_l05Tone.f k a0_0 l0_1 l0_2 a0_3 a0_4 l0_5 a0_3).bind fun t151 => (if t151 = true then ((spec_l05Tone.f k a0_0 l0_1 l0_2 a0_3 a0_4 l0_5 a0_4).bind fun t152 => (if t152 = true then (if a0_3 = a0_4 then (some false) else ((spec_l05Pairs.f k l0_5).bind fun t153 => (some t153))) else (some false))) else (some false))) else (some false))) else (some false)) = some r := H
  have A4 := Aside0.mk A40
  clear A40
  by_cases c5 : t149 = true
  ·subst c5
   have H1 : ((spec_l03Scale.f k l0_2).bind fun t150 => (if t150 = true then ((spec_l05Tone.f k a0_0 l0_1 l0_2 a0_3 a0_4 l0_5 a0_3).bind fun t151 => (if t151 = true then ((spec_l05Tone.f k a0_0 l0_1 l0_2 a0_3 a0_4 l0_5 a0_4).bind fun t152 => (if t152 = true then (if a0_3 = a0_4 then (some false) else ((spec_l05Pairs.f k l0_5).bind fun t153 => (some t153))) else (some false))) else (some false))) else (some false))) = some r := by rw [if_pos rfl] at H; exact H
   clear H
   have H := H1
   clear H1
   replace H := Option.bind_eq_some_iff.mp H
   obtain ⟨t150, A60, H⟩ := H
   replace H : (if t150 = true then ((spec_l05Tone.f k a0_0 l0_1 l0_2 a0_3 a0_4 l0_5 a0_3).bind fun t151 => (if t151 = true then ((spec_l05Tone.f k a0_0 l0_1 l0_2 a0_3 a0_4 l0_5 a0_4).bind fun t152 => (if t152 = true then (if a0_3 = a0_4 then (some false) else ((spec_l05Pairs.f k l0_5).bind fun t153 => (some t153))) else (some false))) else (some false))) else (some false)) = some r := H
   have A6 := Aside0.mk A60
   clear A60
   by_cases c7 : t150 = true
   ·subst c7
    have H1 : ((spec_l05Tone.f k a0_0 l0_1 l0_2 a0_3 a0_4 l0_5 a0_3).bind fun t151 => (if t151 = true then ((spec_l05Tone.f k a0_0 l0_1 l0_2 a0_3 a0_4 l0_5 a0_4).bind fun t152 => (if t152 = true then (if a0_3 = a0_4 then (some false) else ((spec_l05Pairs.f k l0_5).bind fun t153 => (some t153))) else (some false))) else (some false))) = some r := by rw [if_pos rfl] at H; exact H
    clear H
    have H := H1
    clear H1
    replace H := Option.bind_eq_some_iff.mp H
    obtain ⟨t151, A80, H⟩ := H
    replace H : (if t151 = true then ((spec_l05Tone.f k a0_0 l0_1 l0_2 a0_3 a0_4 l0_5 a0_4).bind fun t152 => (if t152 = true then (if a0_3 = a0_4 then (some false) else ((spec_l05Pairs.f k l0_5).bind fun t153 => (some t153))) else (some false))) else (some false)) = some r := H
    have A8 := Aside0.mk A80
    clear A80
    by_cases c9 : t151 = true
    ·subst c9
     have H1 : ((spec_l05Tone.f k a0_0 l0_1 l0_2 a0_3 a0_4 l0_5 a0_4).bind fun t152 => (if t152 = true then (if a0_3 = a0_4 then (some false) else ((spec_l05Pairs.f k l0_5).bind fun t153 => (some t153))) else (some false))) = some r := by rw [if_pos rfl] at H; exact H
     clear H
     have H := H1
     clear H1
     replace H := Option.bind_eq_some_iff.mp H
     obtain ⟨t152, A100, H⟩ := H
     replace H : (if t152 = true then (if a0_3 = a0_4 then (some false) else ((spec_l05Pairs.f k l0_5).bind fun t153 => (some t153))) else (some false)) = some r := H
     have A10 := Aside0.mk A100
     clear A100
     by_cases c11 : t152 = true
     ·subst c11
      have H1 : (if a0_3 = a0_4 then (some false) else ((spec_l05Pairs.f k l0_5).bind fun t153 => (some t153))) = some r := by rw [if_pos rfl] at H; exact H
      clear H
      have H := H1
      clear H1
      by_cases c12 : a0_3 = a0_4
      ·rw [if_pos c12] at H
       have c12b0 : (a0_3 == a0_4) = true := beq_iff_eq.mpr c12
       have c12b1 : (a0_3 != a0_4) = false := bne_eq_false_iff_eq.mpr c12
       clear c12
       obtain rfl := Option.some.inj H
       have p147 : 0 ≤ (0 : Int) := (by omega)
       have q147 : 0 < ([(⟨a0_0, l0_1, l0_2, a0_3, a0_4, l0_5⟩ : S58)].length : Int) := (by simp)
       obtain ⟨ad147, A147_1, c147_1, A147_2, c147_2, A147_5, c147_5, e147, hx147_0, hx147_1, hx147_2, hx147_3, hx147_4, hx147_5, hl147_1, hi147_1, hl147_2, hi147_2, hl147_5, hi147_5⟩ := at_T58 HRp0.out 0 p147 q147
       replace hx147_0 : _ = (some (.string a0_0) : Option Value) := hx147_0
       replace hx147_1 : _ = (some (.slice A147_1 l0_1.length c147_1) : Option Value) := hx147_1
       replace hi147_1 : Kd.C (Kd.int .i64) _ _ l0_1.length l0_1 := hi147_1
       replace hl147_1 : l0_1.length ≤ _ := hl147_1
       replace hx147_2 : _ = (some (.slice A147_2 l0_2.length c147_2) : Option Value) := hx147_2
       replace hi147_2 : Kd.C (Kd.int .i64) _ _ l0_2.length l0_2 := hi147_2
       replace hl147_2 : l0_2.length ≤ _ := hl147_2
       replace hx147_3 : _ = (some (.int .i64 a0_3) : Option Value) := hx147_3
       replace hx147_4 : _ = (some (.int .i64 a0_4) : Option Value) := hx147_4
       replace hx147_5 : _ = (some (.slice A147_5 l0_5.length c147_5) : Option Value) := hx147_5
       replace hi147_5 : Kd.C (Kd.slice 2 (Kd.int .i64)) _ _ l0_5.length l0_5 := hi147_5
       replace hl147_5 : l0_5.length ≤ _ := hl147_5
       obtain rfl : adp0 = ad147 := (by injection e147)
       have qi147 : (0 < [(⟨a0_0, l0_1, l0_2, a0_3, a0_4, l0_5⟩ : S58)].length) = True := eq_true (by simp)
       (try rw [show ((0 : Int)).toNat = 0 from rfl] at hx147_0)
       (try rw [show 0 * 6 = 0 from rfl] at hx147_0)
       (try rw [Addr.add_zero'] at hx147_0)
       (try rw [show ((0 : Int)).toNat = 0 from rfl] at hx147_1)
       (try rw [show 0 * 6 = 0 from rfl] at hx147_1)
       (try rw [Addr.add_zero'] at hx147_1)
       (try rw [show ((0 : Int)).toNat = 0 from rfl] at hx147_2)
       (try rw [show 0 * 6 = 0 from rfl] at hx147_2)
       (try rw [Addr.add_zero'] at hx147_2)
       (try rw [show ((0 : Int)).toNat = 0 from rfl] at hx147_3)
       (try rw [show 0 * 6 = 0 from rfl] at hx147_3)
       (try rw [Addr.add_zero'] at hx147_3)
       (try rw [show ((0 : Int)).toNat = 0 from rfl] at hx147_4)
       (try rw [show 0 * 6 = 0 from rfl] at hx147_4)
       (try rw [Addr.add_zero'] at hx147_4)
       (try rw [show ((0 : Int)).toNat = 0 from rfl] at hx147_5)
       (try rw [show 0 * 6 = 0 from rfl] at hx147_5)
       (try rw [Addr.add_zero'] at hx147_5)
       have HR147_1 := Aside0.mk hi147_1
       have HC147_1 := Aside0.mk hl147_1
       clear hi147_1 hl147_1
       have HR147_2 := Aside0.mk hi147_2
       have HC147_2 := Aside0.mk hl147_2
       clear hi147_2 hl147_2
       have HR147_5 := Aside0.mk hi147_5
       have HC147_5 := Aside0.mk hl147_5
       clear hi147_5 hl147_5
       replace p147 := eq_true p147
       replace q147 := eq_true q147
       go_enter Try.func85, Try.ntmps85
       go_wp2_with (first | (go_at_call 109; (with_reducible refine (spec_l01Name.calls k a0_0 true _ A2.out).mono ?_); rintro e w' ⟨rfl, ⟨nd, rfl⟩⟩; (try first | exact ⟨rfl, _, World.drewN_drewN _ _ _⟩ | exact ⟨rfl, _, Eq.trans (World.drewN_drewN _ _ _) (congrArg (World.drewN _) (Nat.add_assoc _ _ _))⟩)) | (go_at_call 110; (with_reducible refine (spec_l03Scale.calls k _ _ l0_1 true _ ?side1 ?side2 A4.out).mono ?_); (case side1 => repeat (first | exact HR147_1.out | (with_reducible refine cA ?_ _) | (with_reducible refine cN ?_ _) | (with_reducible refine cD ?_))); (case side2 => exact HC147_1.out); rintro e w' ⟨rfl, ⟨nd, rfl⟩⟩; (try first | exact ⟨rfl, _, World.drewN_drewN _ _ _⟩ | exact ⟨rfl, _, Eq.trans (World.drewN_drewN _ _ _) (congrArg (World.drewN _) (Nat.add_assoc _ _ _))⟩)) | (go_at_call 110; (with_reducible refine (spec_l03Scale.calls k _ _ l0_2 true _ ?side1 ?side2 A6.out).mono ?_); (case side1 => repeat (first | exact HR147_2.out | (with_reducible refine cA ?_ _) | (with_reducible refine cN ?_ _) | (with_reducible refine cD ?_))); (case side2 => exact HC147_2.out); rintro e w' ⟨rfl, ⟨nd, rfl⟩⟩; (try first | exact ⟨rfl, _, World.drewN_drewN _ _ _⟩ | exact ⟨rfl, _, Eq.trans (World.drewN_drewN _ _ _) (congrArg (World.drewN _) (Nat.add_assoc _ _ _))⟩)) | (go_at_call 111; (with_reducible refine (spec_l05Tone.calls k adp0 a0_0 l0_1 l0_2 a0_3 a0_4 l0_5 a0_3 true _ ?side1 A8.out).mono ?_); (case side1 => repeat (first | exact HRp0.out | (with_reducible refine cA ?_ _) | (with_reducible refine cN ?_ _) | (with_reducible refine cD ?_))); rintro e w' ⟨rfl, ⟨nd, rfl⟩⟩; (try first | exact ⟨rfl, _, World.drewN_drewN _ _ _⟩ | exact ⟨rfl, _, Eq.trans (World.drewN_drewN _ _ _) (congrArg (World.drewN _) (Nat.add_assoc _ _ _))⟩)) | (go_at_call 111; (with_reducible refine (spec_l05Tone.calls k adp0 a0_0 l0_1 l0_2 a0_3 a0_4 l0_5 a0_4 true _ ?side1 A10.out).mono ?_); (case side1 => repeat (first | exact HRp0.out | (with_reducible refine cA ?_ _) | (with_reducible refine cN ?_ _) | (with_reducible refine cD ?_))); rintro e w' ⟨rfl, ⟨nd, rfl⟩⟩; (try first | exact ⟨rfl, _, World.drewN_drewN _ _ _⟩ | exact ⟨rfl, _, Eq.trans (World.drewN_drewN _ _ _) (congrArg (World.drewN _) (Nat.add_assoc _ _ _))⟩)))
       repeat (go_quiet (first | (go_at_call 109; (try simp only [iW]); (with_reducible refine (spec_l01Name.calls k a0_0 true _ A2.out).mono ?_); rintro e w' ⟨rfl, ⟨nd, rfl⟩⟩; (try first | exact ⟨rfl, _, World.drewN_drewN _ _ _⟩ | exact ⟨rfl, _, Eq.trans (World.drewN_drewN _ _ _) (congrArg (World.drewN _) (Nat.add_assoc _ _ _))⟩)) | (go_at_call 110; (try simp only [iW]); (with_reducible refine (spec_l03Scale.calls k _ _ l0_1 true _ ?side1 ?side2 A4.out).mono ?_); (case side1 => repeat (first | exact HR147_1.out | (with_reducible refine cA ?_ _) | (with_reducible refine cN ?_ _) | (with_reducible refine cD ?_))); (case side2 => exact HC147_1.out); rintro e w' ⟨rfl, ⟨nd, rfl⟩⟩; (try first | exact ⟨rfl, _, World.drewN_drewN _ _ _⟩ | exact ⟨rfl, _, Eq.trans (World.drewN_drewN _ _ _) (congrArg (World.drewN _) (Nat.add_assoc _ _ _))⟩)) | (go_at_call 110; (try simp only [iW]); (with_reducible refine (spec_l03Scale.calls k _ _ l0_2 true _ ?side1 ?side2 A6.out).mono ?_); (case side1 => repeat (first | exact HR147_2.out | (with_reducible refine cA ?_ _) | (with_reducible refine cN ?_ _) | (with_reducible refine cD ?_))); (case side2 => exact HC147_2.out); rintro e w' ⟨rfl, ⟨nd, rfl⟩⟩; (try first | exact ⟨rfl, _, World.drewN_drewN _ _ _⟩ | exact ⟨rfl, _, Eq.trans (World.drewN_drewN _ _ _) (congrArg (World.drewN _) (Nat.add_assoc _ _ _))⟩)) | (go_at_call 111; (try simp only [iW]); (with_reducible refine (spec_l05Tone.calls k adp0 a0_0 l0_1 l0_2 a0_3 a0_4 l0_5 a0_3 true _ ?side1 A8.out).mono ?_); (case side1 => repeat (first | exact HRp0.out | (with_reducible refine cA ?_ _) | (with_reducible refine cN ?_ _) | (with_reducible refine cD ?_))); rintro e w' ⟨rfl, ⟨nd, rfl⟩⟩; (try first | exact ⟨rfl, _, World.drewN_drewN _ _ _⟩ | exact ⟨rfl, _, Eq.trans (World.drewN_drewN _ _ _) (congrArg (World.drewN _) (Nat.add_assoc _ _ _))⟩)) | (go_at_call 111; (try simp only [iW]); (with_reducible refine (spec_l05Tone.calls k adp0 a0_0 l0_1 l0_2 a0_3 a0_4 l0_5 a0_4 true _ ?side1 A10.out).mono ?_); (case side1 => repeat (first | exact HRp0.out | (with_reducible refine cA ?_ _) | (with_reducible refine cN ?_ _) | (with_reducible refine cD ?_))); rintro e w' ⟨rfl, ⟨nd, rfl⟩⟩; (try first | exact ⟨rfl, _, World.drewN_drewN _ _ _⟩ | exact ⟨rfl, _, Eq.trans (World.drewN_drewN _ _ _) (congrArg (World.drewN _) (Nat.add_assoc _ _ _))⟩))); try go_wp2_with (first | (go_at_call 109; (try simp only [iW]); (with_reducible refine (spec_l01Name.calls k a0_0 true _ A2.out).mono ?_); rintro e w' ⟨rfl, ⟨nd, rfl⟩⟩; (try first | exact ⟨rfl, _, World.drewN_drewN _ _ _⟩ | exact ⟨rfl, _, Eq.trans (World.drewN_drewN _ _ _) (congrArg (World.drewN _) (Nat.add_assoc _ _ _))⟩)) | (go_at_call 110; (try simp only [iW]); (with_reducible refine (spec_l03Scale.calls k _ _ l0_1 true _ ?side1 ?side2 A4.out).mono ?_); (case side1 => repeat (first | exact HR147_1.out | (with_reducible refine cA ?_ _) | (with_reducible refine cN ?_ _) | (with_reducible refine cD ?_))); (case side2 => exact HC147_1.out); rintro e w' ⟨rfl, ⟨nd, rfl⟩⟩; (try first | exact ⟨rfl, _, World.drewN_drewN _ _ _⟩ | exact ⟨rfl, _, Eq.trans (World.drewN_drewN _ _ _) (congrArg (World.drewN _) (Nat.add_assoc _ _ _))⟩)) | (go_at_call 110; (try simp only [iW]); (with_reducible refine (spec_l03Scale.calls k _ _ l0_2 true _ ?side1 ?side2 A6.out).mono ?_); (case side1 => repeat (first | exact HR147_2.out | (with_reducible refine cA ?_ _) | (with_reducible refine cN ?_ _) | (with_reducible refine cD ?_))); (case side2 => exact HC147_2.out); rintro e w' ⟨rfl, ⟨nd, rfl⟩⟩; (try first | exact ⟨rfl, _, World.drewN_drewN _ _ _⟩ | exact ⟨rfl, _, Eq.trans (World.drewN_drewN _ _ _) (congrArg (World.drewN _) (Nat.add_assoc _ _ _))⟩)) | (go_at_call 111; (try simp only [iW]); (with_reducible refine (spec_l05Tone.calls k adp0 a0_0 l0_1 l0_2 a0_3 a0_4 l0_5 a0_3 true _ ?side1 A8.out).mono ?_); (case side1 => repeat (first | exact HRp0.out | (with_reducible refine cA ?_ _) | (with_reducible refine cN ?_ _) | (with_reducible refine cD ?_))); rintro e w' ⟨rfl, ⟨nd, rfl⟩⟩; (try first | exact ⟨rfl, _, World.drewN_drewN _ _ _⟩ | exact ⟨rfl, _, Eq.trans (World.drewN_drewN _ _ _) (congrArg (World.drewN _) (Nat.add_assoc _ _ _))⟩)) | (go_at_call 111; (try simp only [iW]); (with_reducible refine (spec_l05Tone.calls k adp0 a0_0 l0_1 l0_2 a0_3 a0_4 l0_5 a0_4 true _ ?side1 A10.out).mono ?_); (case side1 => repeat (first | exact HRp0.out | (with_reducible refine cA ?_ _) | (with_reducible refine cN ?_ _) | (with_reducible refine cD ?_))); rintro e w' ⟨rfl, ⟨nd, rfl⟩⟩; (try first | exact ⟨rfl, _, World.drewN_drewN _ _ _⟩ | exact ⟨rfl, _, Eq.trans (World.drewN_drewN _ _ _) (congrArg (World.drewN _) (Nat.add_assoc _ _ _))⟩))))
       go_ret
       exact ⟨by first | rfl | (simp; done) | (simp [*]; done), by repeat (first | exact Drawn0.refl _ | apply Drawn0.step)⟩
      ·rw [if_neg c12] at H
       have c12b0 : (a0_3 == a0_4) = false := beq_eq_false_iff_ne.mpr c12
       have c12b1 : (a0_3 != a0_4) = true := bne_iff_ne.mpr c12
       replace H := Option.bind_eq_some_iff.mp H
       obtain ⟨t153, A130, H⟩ := H
       replace H : (some t153) = some r := H
       have A13 := Aside0.mk A130
       clear A130
       obtain rfl := Option.some.inj H
       have p147 : 0 ≤ (0 : Int) := (by omega)
       have q147 : 0 < ([(⟨a0_0, l0_1, l0_2, a0_3, a0_4, l0_5⟩ : S58)].length : Int) := (by simp)
       obtain ⟨ad147, A147_1, c147_1, A147_2, c147_2, A147_5, c147_5, e147, hx147_0, hx147_1, hx147_2, hx147_3, hx147_4, hx147_5, hl147_1, hi147_1, hl147_2, hi147_2, hl147_5, hi147_5⟩ := at_T58 HRp0.out 0 p147 q147
       replace hx147_0 : _ = (some (.string a0_0) : Option Value) := hx147_0
       replace hx147_1 : _ = (some (.slice A147_1 l0_1.length c147_1) : Option Value) := hx147_1
       replace hi147_1 : Kd.C (Kd.int .i64) _ _ l0_1.length l0_1 := hi147_1
       replace hl147_1 : l0_1.length ≤ _ := hl147_1
       replace hx147_2 : _ = (some (.slice A147_2 l0_2.length c147_2) : Option Value) := hx147_2
       replace hi147_2 : Kd.C (Kd.int .i64) _ _ l0_2.length l0_2 := hi147_2
       replace hl147_2 : l0_2.length ≤ _ := hl147_2
       replace hx147_3 : _ = (some (.int .i64 a0_3) : Option Value) := hx147_3
       replace hx147_4 : _ = (some (.int .i64 a0_4) : Option Value) := hx147_4
       replace hx147_5 : _ = (some (.slice A147_5 l0_5.length c147_5) : Option Value) := hx147_5
       replace hi147_5 : Kd.C (Kd.slice 2 (Kd.int .i64)) _ _ l0_5.length l0_5 := hi147_5
       replace hl147_5 : l0_5.length ≤ _ := hl147_5
       obtain rfl : adp0 = ad147 := (by injection e147)
       have qi147 : (0 < [(⟨a0_0, l0_1, l0_2, a0_3, a0_4, l0_5⟩ : S58)].length) = True := eq_true (by simp)
       (try rw [show ((0 : Int)).toNat = 0 from rfl] at hx147_0)
       (try rw [show 0 * 6 = 0 from rfl] at hx147_0)
       (try rw [Addr.add_zero'] at hx147_0)
       (try rw [show ((0 : Int)).toNat = 0 from rfl] at hx147_1)
       (try rw [show 0 * 6 = 0 from rfl] at hx147_1)
       (try rw [Addr.add_zero'] at hx147_1)
       (try rw [show ((0 : Int)).toNat = 0 from rfl] at hx147_2)
       (try rw [show 0 * 6 = 0 from rfl] at hx147_2)
       (try rw [Addr.add_zero'] at hx147_2)
       (try rw [show ((0 : Int)).toNat = 0 from rfl] at hx147_3)
       (try rw [show 0 * 6 = 0 from rfl] at hx147_3)
       (try rw [Addr.add_zero'] at hx147_3)
       (try rw [show ((0 : Int)).toNat = 0 from rfl] at hx147_4)
       (try rw [show 0 * 6 = 0 from rfl] at hx147_4)
       (try rw [Addr.add_zero'] at hx147_4)
       (try rw [show ((0 : Int)).toNat = 0 from rfl] at hx147_5)
       (try rw [show 0 * 6 = 0 from rfl] at hx147_5)
       (try rw [Addr.add_zero'] at hx147_5)
       have HR147_1 := Aside0.mk hi147_1
       have HC147_1 := Aside0.mk hl147_1
       clear hi147_1 hl147_1
       have HR147_2 := Aside0.mk hi147_2
       have HC147_2 := Aside0.mk hl147_2
       clear hi147_2 hl147_2
       have HR147_5 := Aside0.mk hi147_5
       have HC147_5 := Aside0.mk hl147_5
       clear hi147_5 hl147_5
       replace p147 := eq_true p147
       replace q147 := eq_true q147
       go_enter Try.func85, Try.ntmps85
       go_wp2_with (first | (go_at_call 109; (with_reducible refine (spec_l01Name.calls k a0_0 true _ A2.out).mono ?_); rintro e w' ⟨rfl, ⟨nd, rfl⟩⟩; (try first | exact ⟨rfl, _, World.drewN_drewN _ _ _⟩ | exact ⟨rfl, _, Eq.trans (World.drewN_drewN _ _ _) (congrArg (World.drewN _) (Nat.add_assoc _ _ _))⟩)) | (go_at_call 110; (with_reducible refine (spec_l03Scale.calls k _ _ l0_1 true _ ?side1 ?side2 A4.out).mono ?_); (case side1 => repeat (first | exact HR147_1.out | (with_reducible refine cA ?_ _) | (with_reducible refine cN ?_ _) | (with_reducible refine cD ?_))); (case side2 => exact HC147_1.out); rintro e w' ⟨rfl, ⟨nd, rfl⟩⟩; (try first | exact ⟨rfl, _, World.drewN_drewN _ _ _⟩ | exact ⟨rfl, _, Eq.trans (World.drewN_drewN _ _ _) (congrArg (World.drewN _) (Nat.add_assoc _ _ _))⟩)) | (go_at_call 110; (with_reducible refine (spec_l03Scale.calls k _ _ l0_2 true _ ?side1 ?side2 A6.out).mono ?_); (case side1 => repeat (first | exact HR147_2.out | (with_reducible refine cA ?_ _) | (with_reducible refine cN ?_ _) | (with_reducible refine cD ?_))); (case side2 => exact HC147_2.out); rintro e w' ⟨rfl, ⟨nd, rfl⟩⟩; (try first | exact ⟨rfl, _, World.drewN_drewN _ _ _⟩ | exact ⟨rfl, _, Eq.trans (World.drewN_drewN _ _ _) (congrArg (World.drewN _) (Nat.add_assoc _ _ _))⟩)) | (go_at_call 111; (with_reducible refine (spec_l05Tone.calls k adp0 a0_0 l0_1 l0_2 a0_3 a0_4 l0_5 a0_3 true _ ?side1 A8.out).mono ?_); (case side1 => repeat (first | exact HRp0.out | (with_reducible refine cA ?_ _) | (with_reducible refine cN ?_ _) | (with_reducible refine cD ?_))); rintro e w' ⟨rfl, ⟨nd, rfl⟩⟩; (try first | exact ⟨rfl, _, World.drewN_drewN _ _ _⟩ | exact ⟨rfl, _, Eq.trans (World.drewN_drewN _ _ _) (congrArg (World.drewN _) (Nat.add_assoc _ _ _))⟩)) | (go_at_call 111; (with_reducible refine (spec_l05Tone.calls k adp0 a0_0 l0_1 l0_2 a0_3 a0_4 l0_5 a0_4 true _ ?side1 A10.out).mono ?_); (case side1 => repeat (first | exact HRp0.out | (with_reducible refine cA ?_ _) | (with_reducible refine cN ?_ _) | (with_reducible refine cD ?_))); rintro e w' ⟨rfl, ⟨nd, rfl⟩⟩; (try first | exact ⟨rfl, _, World.drewN_drewN _ _ _⟩ | exact ⟨rfl, _, Eq.trans (World.drewN_drewN _ _ _) (congrArg (World.drewN _) (Nat.add_assoc _ _ _))⟩)) | (go_at_call 112; (with_reducible refine (spec_l05Pairs.calls k _ _ l0_5 t153 _ ?side1 ?side2 A13.out).mono ?_); (case side1 => repeat (first | exact HR147_5.out | (with_reducible refine cA ?_ _) | (with_reducible refine cN ?_ _) | (with_reducible refine cD ?_))); (case side2 => exact HC147_5.out); rintro e w' ⟨rfl, ⟨nd, rfl⟩⟩; (try first | exact ⟨rfl, _, World.drewN_drewN _ _ _⟩ | exact ⟨rfl, _, Eq.trans (World.drewN_drewN _ _ _) (congrArg (World.drewN _) (Nat.add_assoc _ _ _))⟩)))
       repeat (go_quiet (first | (go_at_call 109; (try simp only [iW]); (with_reducible refine (spec_l01Name.calls k a0_0 true _ A2.out).mono ?_); rintro e w' ⟨rfl, ⟨nd, rfl⟩⟩; (try first | exact ⟨rfl, _, World.drewN_drewN _ _ _⟩ | exact ⟨rfl, _, Eq.trans (World.drewN_drewN _ _ _) (congrArg (World.drewN _) (Nat.add_assoc _ _ _))⟩)) | (go_at_call 110; (try simp only [iW]); (with_reducible refine (spec_l03Scale.calls k _ _ l0_1 true _ ?side1 ?side2 A4.out).mono ?_); (case side1 => repeat (first | exact HR147_1.out | (with_reducible refine cA ?_ _) | (with_reducible refine cN ?_ _) | (with_reducible refine cD ?_))); (case side2 => exact HC147_1.out); rintro e w' ⟨rfl, ⟨nd, rfl⟩⟩; (try first | exact ⟨rfl, _, World.drewN_drewN _ _ _⟩ | exact ⟨rfl, _, Eq.trans (World.drewN_drewN _ _ _) (congrArg (World.drewN _) (Nat.add_assoc _ _ _))⟩)) | (go_at_call 110; (try simp only [iW]); (with_reducible refine (spec_l03Scale.calls k _ _ l0_2 true _ ?side1 ?side2 A6.out).mono ?_); (case side1 => repeat (first | exact HR147_2.out | (with_reducible refine cA ?_ _) | (with_reducible refine cN ?_ _) | (with_reducible refine cD ?_))); (case side2 => exact HC147_2.out); rintro e w' ⟨rfl, ⟨nd, rfl⟩⟩; (try first | exact ⟨rfl, _, World.drewN_drewN _ _ _⟩ | exact ⟨rfl, _, Eq.trans (World.drewN_drewN _ _ _) (congrArg (World.drewN _) (Nat.add_assoc _ _ _))⟩)) | (go_at_call 111; (try simp only [iW]); (with_reducible refine (spec_l05Tone.calls k adp0 a0_0 l0_1 l0_2 a0_3 a0_4 l0_5 a0_3 true _ ?side1 A8.out).mono ?_); (case side1 => repeat (first | exact HRp0.out | (with_reducible refine cA ?_ _) | (with_reducible refine cN ?_ _) | (with_reducible refine cD ?_))); rintro e w' ⟨rfl, ⟨nd, rfl⟩⟩; (try first | exact ⟨rfl, _, World.drewN_drewN _ _ _⟩ | exact ⟨rfl, _, Eq.trans (World.drewN_drewN _ _ _) (congrArg (World.drewN _) (Nat.add_assoc _ _ _))⟩)) | (go_at_call 111; (try simp only [iW]); (with_reducible refine (spec_l05Tone.calls k adp0 a0_0 l0_1 l0_2 a0_3 a0_4 l0_5 a0_4 true _ ?side1 A10.out).mono ?_); (case side1 => repeat (first | exact HRp0.out | (with_reducible refine cA ?_ _) | (with_reducible refine cN ?_ _) | (with_reducible refine cD ?_))); rintro e w' ⟨rfl, ⟨nd, rfl⟩⟩; (try first | exact ⟨rfl, _, World.drewN_drewN _ _ _⟩ | exact ⟨rfl, _, Eq.trans (World.drewN_drewN _ _ _) (congrArg (World.drewN _) (Nat.add_assoc _ _ _))⟩)) | (go_at_call 112; (try simp only [iW]); (with_reducible refine (spec_l05Pairs.calls k _ _ l0_5 t153 _ ?side1 ?side2 A13.out).mono ?_); (case side1 => repeat (first | exact HR147_5.out | (with_reducible refine cA ?_ _) | (with_reducible refine cN ?_ _) | (with_reducible refine cD ?_))); (case side2 => exact HC147_5.out); rintro e w' ⟨rfl, ⟨nd, rfl⟩⟩; (try first | exact ⟨rfl, _, World.drewN_drewN _ _ _⟩ | exact ⟨rfl, _, Eq.trans (World.drewN_drewN _ _ _) (congrArg (World.drewN _) (Nat.add_assoc _ _ _))⟩))); try go_wp2_with (first | (go_at_call 109; (try simp only [iW]); (with_reducible refine (spec_l01Name.calls k a0_0 true _ A2.out).mono ?_); rintro e w' ⟨rfl, ⟨nd, rfl⟩⟩; (try first | exact ⟨rfl, _, World.drewN_drewN _ _ _⟩ | exact ⟨rfl, _, Eq.trans (World.drewN_drewN _ _ _) (congrArg (World.drewN _) (Nat.add_assoc _ _ _))⟩)) | (go_at_call 110; (try simp only [iW]); (with_reducible refine (spec_l03Scale.calls k _ _ l0_1 true _ ?side1 ?side2 A4.out).mono ?_); (case side1 => repeat (first | exact HR147_1.out | (with_reducible refine cA ?_ _) | (with_reducible refine cN ?_ _) | (with_reducible refine cD ?_))); (case side2 => exact HC147_1.out); rintro e w' ⟨rfl, ⟨nd, rfl⟩⟩; (try first | exact ⟨rfl, _, World.drewN_drewN _ _ _⟩ | exact ⟨rfl, _, Eq.trans (World.drewN_drewN _ _ _) (congrArg (World.drewN _) (Nat.add_assoc _ _ _))⟩)) | (go_at_call 110; (try simp only [iW]); (with_reducible refine (spec_l03Scale.calls k _ _ l0_2 true _ ?side1 ?side2 A6.out).mono ?_); (case side1 => repeat (first | exact HR147_2.out | (with_reducible refine cA ?_ _) | (with_reducible refine cN ?_ _) | (with_reducible refine cD ?_))); (case side2 => exact HC147_2.out); rintro e w' ⟨rfl, ⟨nd, rfl⟩⟩; (try first | exact ⟨rfl, _, World.drewN_drewN _ _ _⟩ | exact ⟨rfl, _, Eq.trans (World.drewN_drewN _ _ _) (congrArg (World.drewN _) (Nat.add_assoc _ _ _))⟩)) | (go_at_call 111; (try simp only [iW]); (with_reducible refine (spec_l05Tone.calls k adp0 a0_0 l0_1 l0_2 a0_3 a0_4 l0_5 a0_3 true _ ?side1 A8.out).mono ?_); (case side1 => repeat (first | exact HRp0.out | (with_reducible refine cA ?_ _) | (with_reducible refine cN ?_ _) | (with_reducible refine cD ?_))); rintro e w' ⟨rfl, ⟨nd, rfl⟩⟩; (try first | exact ⟨rfl, _, World.drewN_drewN _ _ _⟩ | exact ⟨rfl, _, Eq.trans (World.drewN_drewN _ _ _) (congrArg (World.drewN _) (Nat.add_assoc _ _ _))⟩)) | (go_at_call 111; (try simp only [iW]); (with_reducible refine (spec_l05Tone.calls k adp0 a0_0 l0_1 l0_2 a0_3 a0_4 l0_5 a0_4 true _ ?side1 A10.out).mono ?_); (case side1 => repeat (first | exact HRp0.out | (with_reducible refine cA ?_ _) | (with_reducible refine cN ?_ _) | (with_reducible refine cD ?_))); rintro e w' ⟨rfl, ⟨nd, rfl⟩⟩; (try first | exact ⟨rfl, _, World.drewN_drewN _ _ _⟩ | exact ⟨rfl, _, Eq.trans (World.drewN_drewN _ _ _) (congrArg (World.drewN _) (Nat.add_assoc _ _ _))⟩)) | (go_at_call 112; (try simp only [iW]); (with_reducible refine (spec_l05Pairs.calls k _ _ l0_5 t153 _ ?side1 ?side2 A13.out).mono ?_); (case side1 => repeat (first | exact HR147_5.out | (with_reducible refine cA ?_ _) | (with_reducible refine cN ?_ _) | (with_reducible refine cD ?_))); (case side2 => exact HC147_5.out); rintro e w' ⟨rfl, ⟨nd, rfl⟩⟩; (try first | exact ⟨rfl, _, World.drewN_drewN _ _ _⟩ | exact ⟨rfl, _, Eq.trans (World.drewN_drewN _ _ _) (congrArg (World.drewN _) (Nat.add_assoc _ _ _))⟩))))
       go_ret
       exact ⟨by first | rfl | (simp; done) | (simp [*]; done), by repeat (first | exact Drawn0.refl _ | apply Drawn0.step)⟩
     ·replace c11 := Bool.eq_false_iff.mpr c11
      subst c11
      have H1 : (some false) = some r := by rw [if_neg (show ¬ (false = true) by decide)] at H; exact H
      clear H
      have H := H1
      clear H1
      obtain rfl := Option.some.inj H
      have p147 : 0 ≤ (0 : Int) := (by omega)
      have q147 : 0 < ([(⟨a0_0, l0_1, l0_2, a0_3, a0_4, l0_5⟩ : S58)].length : Int) := (by simp)
      obtain ⟨ad147, A147_1, c147_1, A147_2, c147_2, A147_5, c147_5, e147, hx147_0, hx147_1, hx147_2, hx147_3, hx147_4, hx147_5, hl147_1, hi147_1, hl147_2, hi147_2, hl147_5, hi147_5⟩ := at_T58 HRp0.out 0 p147 q147
      replace hx147_0 : _ = (some (.string a0_0) : Option Value) := hx147_0
      replace hx147_1 : _ = (some (.slice A147_1 l0_1.length c147_1) : Option Value) := hx147_1
      replace hi147_1 : Kd.C (Kd.int .i64) _ _ l0_1.length l0_1 := hi147_1
      replace hl147_1 : l0_1.length ≤ _ := hl147_1
      replace hx147_2 : _ = (some (.slice A147_2 l0_2.length c147_2) : Option Value) := hx147_2
      replace hi147_2 : Kd.C (Kd.int .i64) _ _ l0_2.length l0_2 := hi147_2
      replace hl147_2 : l0_2.length ≤ _ := hl147_2
      replace hx147_3 : _ = (some (.int .i64 a0_3) : Option Value) := hx147_3
      replace hx147_4 : _ = (some (.int .i64 a0_4) : Option Value) := hx147_4
      replace hx147_5 : _ = (some (.slice A147_5 l0_5.length c147_5) : Option Value) := hx147_5
      replace hi147_5 : Kd.C (Kd.slice 2 (Kd.int .i64)) _ _ l0_5.length l0_5 := hi147_5
      replace hl147_5 : l0_5.length ≤ _ := hl147_5
      obtain rfl : adp0 = ad147 := (by injection e147)
      have qi147 : (0 < [(⟨a0_0, l0_1, l0_2, a0_3, a0_4, l0_5⟩ : S58)].length) = True := eq_true (by simp)
      (try rw [show ((0 : Int)).toNat = 0 from rfl] at hx147_0)
      (try rw [show 0 * 6 = 0 from rfl] at hx147_0)
      (try rw [Addr.add_zero'] at hx147_0)
      (try rw [show ((0 : Int)).toNat = 0 from rfl] at hx147_1)
      (try rw [show 0 * 6 = 0 from rfl] at hx147_1)
      (try rw [Addr.add_zero'] at hx147_1)
      (try rw [show ((0 : Int)).toNat = 0 from rfl] at hx147_2)
      (try rw [show 0 * 6 = 0 from rfl] at hx147_2)
      (try rw [Addr.add_zero'] at hx147_2)
      (try rw [show ((0 : Int)).toNat = 0 from rfl] at hx147_3)
      (try rw [show 0 * 6 = 0 from rfl] at hx147_3)
      (try rw [Addr.add_zero'] at hx147_3)
      (try rw [show ((0 : Int)).toNat = 0 from rfl] at hx147_4)
      (try rw [show 0 * 6 = 0 from rfl] at hx147_4)
      (try rw [Addr.add_zero'] at hx147_4)
      (try rw [show ((0 : Int)).toNat = 0 from rfl] at hx147_5)
      (try rw [show 0 * 6 = 0 from rfl] at hx147_5)
      (try rw [Addr.add_zero'] at hx147_5)
      have HR147_1 := Aside0.mk hi147_1
      have HC147_1 := Aside0.mk hl147_1
      clear hi147_1 hl147_1
      have HR147_2 := Aside0.mk hi147_2
      have HC147_2 := Aside0.mk hl147_2
      clear hi147_2 hl147_2
      have HR147_5 := Aside0.mk hi147_5
      have HC147_5 := Aside0.mk hl147_5
      clear hi147_5 hl147_5
      replace p147 := eq_true p147
      replace q147 := eq_true q147
      go_enter Try.func85, Try.ntmps85
      go_wp2_with (first | (go_at_call 109; (with_reducible refine (spec_l01Name.calls k a0_0 true _ A2.out).mono ?_); rintro e w' ⟨rfl, ⟨nd, rfl⟩⟩; (try first | exact ⟨rfl, _, World.drewN_drewN _ _ _⟩ | exact ⟨rfl, _, Eq.trans (World.drewN_drewN _ _ _) (congrArg (World.drewN _) (Nat.add_assoc _ _ _))⟩)) | (go_at_call 110; (with_reducible refine (spec_l03Scale.calls k _ _ l0_1 true _ ?side1 ?side2 A4.out).mono ?_); (case side1 => repeat (first | exact HR147_1.out | (with_reducible refine cA ?_ _) | (with_reducible refine cN ?_ _) | (with_reducible refine cD ?_))); (case side2 => exact HC147_1.out); rintro e w' ⟨rfl, ⟨nd, rfl⟩⟩; (try first | exact ⟨rfl, _, World.drewN_drewN _ _ _⟩ | exact ⟨rfl, _, Eq.trans (World.drewN_drewN _ _ _) (congrArg (World.drewN _) (Nat.add_assoc _ _ _))⟩)) | (go_at_call 110; (with_reducible refine (spec_l03Scale.calls k _ _ l0_2 true _ ?side1 ?side2 A6.out).mono ?_); (case side1 => repeat (first | exact HR147_2.out | (with_reducible refine cA ?_ _) | (with_reducible refine cN ?_ _) | (with_reducible refine cD ?_))); (case side2 => exact HC147_2.out); rintro e w' ⟨rfl, ⟨nd, rfl⟩⟩; (try first | exact ⟨rfl, _, World.drewN_drewN _ _ _⟩ | exact ⟨rfl, _, Eq.trans (World.drewN_drewN _ _ _) (congrArg (World.drewN _) (Nat.add_assoc _ _ _))⟩)) | (go_at_call 111; (with_reducible refine (spec_l05Tone.calls k adp0 a0_0 l0_1 l0_2 a0_3 a0_4 l0_5 a0_3 true _ ?side1 A8.out).mono ?_); (case side1 => repeat (first | exact HRp0.out | (with_reducible refine cA ?_ _) | (with_reducible refine cN ?_ _) | (with_reducible refine cD ?_))); rintro e w' ⟨rfl, ⟨nd, rfl⟩⟩; (try first | exact ⟨rfl, _, World.drewN_drewN _ _ _⟩ | exact ⟨rfl, _, Eq.trans (World.drewN_drewN _ _ _) (congrArg (World.drewN _) (Nat.add_assoc _ _ _))⟩)) | (go_at_call 111; (with_reducible refine (spec_l05Tone.calls k adp0 a0_0 l0_1 l0_2 a0_3 a0_4 l0_5 a0_4 false _ ?side1 A10.out).mono ?_); (case side1 => repeat (first | exact HRp0.out | (with_reducible refine cA ?_ _) | (with_reducible refine cN ?_ _) | (with_reducible refine cD ?_))); rintro e w' ⟨rfl, ⟨nd, rfl⟩⟩; (try first | exact ⟨rfl, _, World.drewN_drewN _ _ _⟩ | exact ⟨rfl, _, Eq.trans (World.drewN_drewN _ _ _) (congrArg (World.drewN _) (Nat.add_assoc _ _ _))⟩)))
      repeat (go_quiet (first | (go_at_call 109; (try simp only [iW]); (with_reducible refine (spec_l01Name.calls k a0_0 true _ A2.out).mono ?_); rintro e w' ⟨rfl, ⟨nd, rfl⟩⟩; (try first | exact ⟨rfl, _, World.drewN_drewN _ _ _⟩ | exact ⟨rfl, _, Eq.trans (World.drewN_drewN _ _ _) (congrArg (World.drewN _) (Nat.add_assoc _ _ _))⟩)) | (go_at_call 110; (try simp only [iW]); (with_reducible refine (spec_l03Scale.calls k _ _ l0_1 true _ ?side1 ?side2 A4.out).mono ?_); (case side1 => repeat (first | exact HR147_1.out | (with_reducible refine cA ?_ _) | (with_reducible refine cN ?_ _) | (with_reducible refine cD ?_))); (case side2 => exact HC147_1.out); rintro e w' ⟨rfl, ⟨nd, rfl⟩⟩; (try first | exact ⟨rfl, _, World.drewN_drewN _ _ _⟩ | exact ⟨rfl, _, Eq.trans (World.drewN_drewN _ _ _) (congrArg (World.drewN _) (Nat.add_assoc _ _ _))⟩)) | (go_at_call 110; (try simp only [iW]); (with_reducible refine (spec_l03Scale.calls k _ _ l0_2 true _ ?side1 ?side2 A6.out).mono ?_); (case side1 => repeat (first | exact HR147_2.out | (with_reducible refine cA ?_ _) | (with_reducible refine cN ?_ _) | (with_reducible refine cD ?_))); (case side2 => exact HC147_2.out); rintro e w' ⟨rfl, ⟨nd, rfl⟩⟩; (try first | exact ⟨rfl, _, World.drewN_drewN _ _ _⟩ | exact ⟨rfl, _, Eq.trans (World.drewN_drewN _ _ _) (congrArg (World.drewN _) (Nat.add_assoc _ _ _))⟩)) | (go_at_call 111; (try simp only [iW]); (with_reducible refine (spec_l05Tone.calls k adp0 a0_0 l0_1 l0_2 a0_3 a0_4 l0_5 a0_3 true _ ?side1 A8.out).mono ?_); (case side1 => repeat (first | exact HRp0.out | (with_reducible refine cA ?_ _) | (with_reducible refine cN ?_ _) | (with_reducible refine cD ?_))); rintro e w' ⟨rfl, ⟨nd, rfl⟩⟩; (try first | exact ⟨rfl, _, World.drewN_drewN _ _ _⟩ | exact ⟨rfl, _, Eq.trans (World.drewN_drewN _ _ _) (congrArg (World.drewN _) (Nat.add_assoc _ _ _))⟩)) | (go_at_call 111; (try simp only [iW]); (with_reducible refine (spec_l05Tone.calls k adp0 a0_0 l0_1 l0_2 a0_3 a0_4 l0_5 a0_4 false _ ?side1 A10.out).mono ?_); (case side1 => repeat (first | exact HRp0.out | (with_reducible refine cA ?_ _) | (with_reducible refine cN ?_ _) | (with_reducible refine cD ?_))); rintro e w' ⟨rfl, ⟨nd, rfl⟩⟩; (try first | exact ⟨rfl, _, World.drewN_drewN _ _ _⟩ | exact ⟨rfl, _, Eq.trans (World.drewN_drewN _ _ _) (congrArg (World.drewN _) (Nat.add_assoc _ _ _))⟩))); try go_wp2_with (first | (go_at_call 109; (try simp only [iW]); (with_reducible refine (spec_l01Name.calls k a0_0 true _ A2.out).mono ?_); rintro e w' ⟨rfl, ⟨nd, rfl⟩⟩; (try first | exact ⟨rfl, _, World.drewN_drewN _ _ _⟩ | exact ⟨rfl, _, Eq.trans (World.drewN_drewN _ _ _) (congrArg (World.drewN _) (Nat.add_assoc _ _ _))⟩)) | (go_at_call 110; (try simp only [iW]); (with_reducible refine (spec_l03Scale.calls k _ _ l0_1 true _ ?side1 ?side2 A4.out).mono ?_); (case side1 => repeat (first | exact HR147_1.out | (with_reducible refine cA ?_ _) | (with_reducible refine cN ?_ _) | (with_reducible refine cD ?_))); (case side2 => exact HC147_1.out); rintro e w' ⟨rfl, ⟨nd, rfl⟩⟩; (try first | exact ⟨rfl, _, World.drewN_drewN _ _ _⟩ | exact ⟨rfl, _, Eq.trans (World.drewN_drewN _ _ _) (congrArg (World.drewN _) (Nat.add_assoc _ _ _))⟩)) | (go_at_call 110; (try simp only [iW]); (with_reducible refine (spec_l03Scale.calls k _ _ l0_2 true _ ?side1 ?side2 A6.out).mono ?_); (case side1 => repeat (first | exact HR147_2.out | (with_reducible refine cA ?_ _) | (with_reducible refine cN ?_ _) | (with_reducible refine cD ?_))); (case side2 => exact HC147_2.out); rintro e w' ⟨rfl, ⟨nd, rfl⟩⟩; (try first | exact ⟨rfl, _, World.drewN_drewN _ _ _⟩ | exact ⟨rfl, _, Eq.trans (World.drewN_drewN _ _ _) (congrArg (World.drewN _) (Nat.add_assoc _ _ _))⟩)) | (go_at_call 111; (try simp only [iW]); (with_reducible refine (spec_l05Tone.calls k adp0 a0_0 l0_1 l0_2 a0_3 a0_4 l0_5 a0_3 true _ ?side1 A8.out).mono ?_); (case side1 => repeat (first | exact HRp0.out | (with_reducible refine cA ?_ _) | (with_reducible refine cN ?_ _) | (with_reducible refine cD ?_))); rintro e w' ⟨rfl, ⟨nd, rfl⟩⟩; (try first | exact ⟨rfl, _, World.drewN_drewN _ _ _⟩ | exact ⟨rfl, _, Eq.trans (World.drewN_drewN _ _ _) (congrArg (World.drewN _) (Nat.add_assoc _ _ _))⟩)) | (go_at_call 111; (try simp only [iW]); (with_reducible refine (spec_l05Tone.calls k adp0 a0_0 l0_1 l0_2 a0_3 a0_4 l0_5 a0_4 false _ ?side1 A10.out).mono ?_); (case side1 => repeat (first | exact HRp0.out | (with_reducible refine cA ?_ _) | (with_reducible refine cN ?_ _) | (with_reducible refine cD ?_))); rintro e w' ⟨rfl, ⟨nd, rfl⟩⟩; (try first | exact ⟨rfl, _, World.drewN_drewN _ _ _⟩ | exact ⟨rfl, _, Eq.trans (World.drewN_drewN _ _ _) (congrArg (World.drewN _) (Nat.add_assoc _ _ _))⟩))))
      go_ret
      exact ⟨by first | rfl | (simp; done) | (simp [*]; done), by repeat (first | exact Drawn0.refl _ | apply Drawn0.step)⟩
    ·replace c9 := Bool.eq_false_iff.mpr c9
     subst c9
     have H1 : (some false) = some r := by rw [if_neg (show ¬ (false = true) by decide)] at H; exact H
     clear H
     have H := H1
     clear H1
     obtain rfl := Option.some.inj H
     have p147 : 0 ≤ (0 : Int) := (by omega)
     have q147 : 0 < ([(⟨a0_0, l0_1, l0_2, a0_3, a0_4, l0_5⟩ : S58)].length : Int) := (by simp)
     obtain ⟨ad147, A147_1, c147_1, A147_2, c147_2, A147_5, c147_5, e147, hx147_0, hx147_1, hx147_2, hx147_3, hx147_4, hx147_5, hl147_1, hi147_1, hl147_2, hi147_2, hl147_5, hi147_5⟩ := at_T58 HRp0.out 0 p147 q147
     replace hx147_0 : _ = (some (.string a0_0) : Option Value) := hx147_0
     replace hx147_1 : _ = (some (.slice A147_1 l0_1.length c147_1) : Option Value) := hx147_1
     replace hi147_1 : Kd.C (Kd.int .i64) _ _ l0_1.length l0_1 := hi147_1
     replace hl147_1 : l0_1.length ≤ _ := hl147_1
     replace hx147_2 : _ = (some (.slice A147_2 l0_2.length c147_2) : Option Value) := hx147_2
     replace hi147_2 : Kd.C (Kd.int .i64) _ _ l0_2.length l0_2 := hi147_2
     replace hl147_2 : l0_2.length ≤ _ := hl147_2
     replace hx147_3 : _ = (some (.int .i64 a0_3) : Option Value) := hx147_3
     replace hx147_4 : _ = (some (.int .i64 a0_4) : Option Value) := hx147_4
     replace hx147_5 : _ = (some (.slice A147_5 l0_5.length c147_5) : Option Value) := hx147_5
     replace hi147_5 : Kd.C (Kd.slice 2 (Kd.int .i64)) _ _ l0_5.length l0_5 := hi147_5
     replace hl147_5 : l0_5.length ≤ _ := hl147_5
     obtain rfl : adp0 = ad147 := (by injection e147)
     have qi147 : (0 < [(⟨a0_0, l0_1, l0_2, a0_3, a0_4, l0_5⟩ : S58)].length) = True := eq_true (by simp)
     (try rw [show ((0 : Int)).toNat = 0 from rfl] at hx147_0)
     (try rw [show 0 * 6 = 0 from rfl] at hx147_0)
     (try rw [Addr.add_zero'] at hx147_0)
     (try rw [show ((0 : Int)).toNat = 0 from rfl] at hx147_1)
     (try rw [show 0 * 6 = 0 from rfl] at hx147_1)
     (try rw [Addr.add_zero'] at hx147_1)
     (try rw [show ((0 : Int)).toNat = 0 from rfl] at hx147_2)
     (try rw [show 0 * 6 = 0 from rfl] at hx147_2)
     (try rw [Addr.add_zero'] at hx147_2)
     (try rw [show ((0 : Int)).toNat = 0 from rfl] at hx147_3)
     (try rw [show 0 * 6 = 0 from rfl] at hx147_3)
     (try rw [Addr.add_zero'] at hx147_3)
     (try rw [show ((0 : Int)).toNat = 0 from rfl] at hx147_4)
     (try rw [show 0 * 6 = 0 from rfl] at hx147_4)
     (try rw [Addr.add_zero'] at hx147_4)
     (try rw [show ((0 : Int)).toNat = 0 from rfl] at hx147_5)
     (try rw [show 0 * 6 = 0 from rfl] at hx147_5)
     (try rw [Addr.add_zero'] at hx147_5)
     have HR147_1 := Aside0.mk hi147_1
     have HC147_1 := Aside0.mk hl147_1
     clear hi147_1 hl147_1
     have HR147_2 := Aside0.mk hi147_2
     have HC147_2 := Aside0.mk hl147_2
     clear hi147_2 hl147_2
     have HR147_5 := Aside0.mk hi147_5
     have HC147_5 := Aside0.mk hl147_5
     clear hi147_5 hl147_5
     replace p147 := eq_true p147
     replace q147 := eq_true q147
     go_enter Try.func85, Try.ntmps85
     go_wp2_with (first | (go_at_call 109; (with_reducible refine (spec_l01Name.calls k a0_0 true _ A2.out).mono ?_); rintro e w' ⟨rfl, ⟨nd, rfl⟩⟩; (try first | exact ⟨rfl, _, World.drewN_drewN _ _ _⟩ | exact ⟨rfl, _, Eq.trans (World.drewN_drewN _ _ _) (congrArg (World.drewN _) (Nat.add_assoc _ _ _))⟩)) | (go_at_call 110; (with_reducible refine (spec_l03Scale.calls k _ _ l0_1 true _ ?side1 ?side2 A4.out).mono ?_); (case side1 => repeat (first | exact HR147_1.out | (with_reducible refine cA ?_ _) | (with_reducible refine cN ?_ _) | (with_reducible refine cD ?_))); (case side2 => exact HC147_1.out); rintro e w' ⟨rfl, ⟨nd, rfl⟩⟩; (try first | exact ⟨rfl, _, World.drewN_drewN _ _ _⟩ | exact ⟨rfl, _, Eq.trans (World.drewN_drewN _ _ _) (congrArg (World.drewN _) (Nat.add_assoc _ _ _))⟩)) | (go_at_call 110; (with_reducible refine (spec_l03Scale.calls k _ _ l0_2 true _ ?side1 ?side2 A6.out).mono ?_); (case side1 => repeat (first | exact HR147_2.out | (with_reducible refine cA ?_ _) | (with_reducible refine cN ?_ _) | (with_reducible refine cD ?_))); (case side2 => exact HC147_2.out); rintro e w' ⟨rfl, ⟨nd, rfl⟩⟩; (try first | exact ⟨rfl, _, World.drewN_drewN _ _ _⟩ | exact ⟨rfl, _, Eq.trans (World.drewN_drewN _ _ _) (congrArg (World.drewN _) (Nat.add_assoc _ _ _))⟩)) | (go_at_call 111; (with_reducible refine (spec_l05Tone.calls k adp0 a0_0 l0_1 l0_2 a0_3 a0_4 l0_5 a0_3 false _ ?side1 A8.out).mono ?_); (case side1 => repeat (first | exact HRp0.out | (with_reducible refine cA ?_ _) | (with_reducible refine cN ?_ _) | (with_reducible refine cD ?_))); rintro e w' ⟨rfl, ⟨nd, rfl⟩⟩; (try first | exact ⟨rfl, _, World.drewN_drewN _ _ _⟩ | exact ⟨rfl, _, Eq.trans (World.drewN_drewN _ _ _) (congrArg (World.drewN _) (Nat.add_assoc _ _ _))⟩)))
     repeat (go_quiet (first | (go_at_call 109; (try simp only [iW]); (with_reducible refine (spec_l01Name.calls k a0_0 true _ A2.out).mono ?_); rintro e w' ⟨rfl, ⟨nd, rfl⟩⟩; (try first | exact ⟨rfl, _, World.drewN_drewN _ _ _⟩ | exact ⟨rfl, _, Eq.trans (World.drewN_drewN _ _ _) (congrArg (World.drewN _) (Nat.add_assoc _ _ _))⟩)) | (go_at_call 110; (try simp only [iW]); (with_reducible refine (spec_l03Scale.calls k _ _ l0_1 true _ ?side1 ?side2 A4.out).mono ?_); (case side1 => repeat (first | exact HR147_1.out | (with_reducible refine cA ?_ _) | (with_reducible refine cN ?_ _) | (with_reducible refine cD ?_))); (case side2 => exact HC147_1.out); rintro e w' ⟨rfl, ⟨nd, rfl⟩⟩; (try first | exact ⟨rfl, _, World.drewN_drewN _ _ _⟩ | exact ⟨rfl, _, Eq.trans (World.drewN_drewN _ _ _) (congrArg (World.drewN _) (Nat.add_assoc _ _ _))⟩)) | (go_at_call 110; (try simp only [iW]); (with_reducible refine (spec_l03Scale.calls k _ _ l0_2 true _ ?side1 ?side2 A6.out).mono ?_); (case side1 => repeat (first | exact HR147_2.out | (with_reducible refine cA ?_ _) | (with_reducible refine cN ?_ _) | (with_reducible refine cD ?_))); (case side2 => exact HC147_2.out); rintro e w' ⟨rfl, ⟨nd, rfl⟩⟩; (try first | exact ⟨rfl, _, World.drewN_drewN _ _ _⟩ | exact ⟨rfl, _, Eq.trans (World.drewN_drewN _ _ _) (congrArg (World.drewN _) (Nat.add_assoc _ _ _))⟩)) | (go_at_call 111; (try simp only [iW]); (with_reducible refine (spec_l05Tone.calls k adp0 a0_0 l0_1 l0_2 a0_3 a0_4 l0_5 a0_3 false _ ?side1 A8.out).mono ?_); (case side1 => repeat (first | exact HRp0.out | (with_reducible refine cA ?_ _) | (with_reducible refine cN ?_ _) | (with_reducible refine cD ?_))); rintro e w' ⟨rfl, ⟨nd, rfl⟩⟩; (try first | exact ⟨rfl, _, World.drewN_drewN _ _ _⟩ | exact ⟨rfl, _, Eq.trans (World.drewN_drewN _ _ _) (congrArg (World.drewN _) (Nat.add_assoc _ _ _))⟩))); try go_wp2_with (first | (go_at_call 109; (try simp only [iW]); (with_reducible refine (spec_l01Name.calls k a0_0 true _ A2.out).mono ?_); rintro e w' ⟨rfl, ⟨nd, rfl⟩⟩; (try first | exact ⟨rfl, _, World.drewN_drewN _ _ _⟩ | exact ⟨rfl, _, Eq.trans (World.drewN_drewN _ _ _) (congrArg (World.drewN _) (Nat.add_assoc _ _ _))⟩)) | (go_at_call 110; (try simp only [iW]); (with_reducible refine (spec_l03Scale.calls k _ _ l0_1 true _ ?side1 ?side2 A4.out).mono ?_); (case side1 => repeat (first | exact HR147_1.out | (with_reducible refine cA ?_ _) | (with_reducible refine cN ?_ _) | (with_reducible refine cD ?_))); (case side2 => exact HC147_1.out); rintro e w' ⟨rfl, ⟨nd, rfl⟩⟩; (try first | exact ⟨rfl, _, World.drewN_drewN _ _ _⟩ | exact ⟨rfl, _, Eq.trans (World.drewN_drewN _ _ _) (congrArg (World.drewN _) (Nat.add_assoc _ _ _))⟩)) | (go_at_call 110; (try simp only [iW]); (with_reducible refine (spec_l03Scale.calls k _ _ l0_2 true _ ?side1 ?side2 A6.out).mono ?_); (case side1 => repeat (first | exact HR147_2.out | (with_reducible refine cA ?_ _) | (with_reducible refine cN ?_ _) | (with_reducible refine cD ?_))); (case side2 => exact HC147_2.out); rintro e w' ⟨rfl, ⟨nd, rfl⟩⟩; (try first | exact ⟨rfl, _, World.drewN_drewN _ _ _⟩ | exact ⟨rfl, _, Eq.trans (World.drewN_drewN _ _ _) (congrArg (World.drewN _) (Nat.add_assoc _ _ _))⟩)) | (go_at_call 111; (try simp only [iW]); (with_reducible refine (spec_l05Tone.calls k adp0 a0_0 l0_1 l0_2 a0_3 a0_4 l0_5 a0_3 false _ ?side1 A8.out).mono ?_); (case side1 => repeat (first | exact HRp0.out | (with_reducible refine cA ?_ _) | (with_reducible refine cN ?_ _) | (with_reducible refine cD ?_))); rintro e w' ⟨rfl, ⟨nd, rfl⟩⟩; (try first | exact ⟨rfl, _, World.drewN_drewN _ _ _⟩ | exact ⟨rfl, _, Eq.trans (World.drewN_drewN _ _ _) (congrArg (World.drewN _) (Nat.add_assoc _ _ _))⟩))))
     go_ret
     exact ⟨by first | rfl | (simp; done) | (simp [*]; done), by repeat (first | exact Drawn0.refl _ | apply Drawn0.step)⟩
   ·replace c7 := Bool.eq_false_iff.mpr c7
    subst c7
    have H1 : (some false) = some r := by rw [if_neg (show ¬ (false = true) by decide)] at H; exact H
    clear H
    have H := H1
    clear H1
    obtain rfl := Option.some.inj H
    have p147 : 0 ≤ (0 : Int) := (by omega)
    have q147 : 0 < ([(⟨a0_0, l0_1, l0_2, a0_3, a0_4, l0_5⟩ : S58)].length : Int) := (by simp)
    obtain ⟨ad147, A147_1, c147_1, A147_2, c147_2, A147_5, c147_5, e147, hx147_0, hx147_1, hx147_2, hx147_3, hx147_4, hx147_5, hl147_1, hi147_1, hl147_2, hi147_2, hl147_5, hi147_5⟩ := at_T58 HRp0.out 0 p147 q147
    replace hx147_0 : _ = (some (.string a0_0) : Option Value) := hx147_0
    replace hx147_1 : _ = (some (.slice A147_1 l0_1.length c147_1) : Option Value) := hx147_1
    replace hi147_1 : Kd.C (Kd.int .i64) _ _ l0_1.length l0_1 := hi147_1
    replace hl147_1 : l0_1.length ≤ _ := hl147_1
    replace hx147_2 : _ = (some (.slice A147_2 l0_2.length c147_2) : Option Value) := hx147_2
    replace hi147_2 : Kd.C (Kd.int .i64) _ _ l0_2.length l0_2 := hi147_2
    replace hl147_2 : l0_2.length ≤ _ := hl147_2
    replace hx147_3 : _ = (some (.int .i64 a0_3) : Option Value) := hx147_3
    replace hx147_4 : _ = (some (.int .i64 a0_4) : Option Value) := hx147_4
    replace hx147_5 : _ = (some (.slice A147_5 l0_5.length c147_5) : Option Value) := hx147_5
    replace hi147_5 : Kd.C (Kd.slice 2 (Kd.int .i64)) _ _ l0_5.length l0_5 := hi147_5
    replace hl147_5 : l0_5.length ≤ _ := hl147_5
    obtain rfl : adp0 = ad147 := (by injection e147)
    have qi147 : (0 < [(⟨a0_0, l0_1, l0_2, a0_3, a0_4, l0_5⟩ : S58)].length) = True := eq_true (by simp)
    (try rw [show ((0 : Int)).toNat = 0 from rfl] at hx147_0)
    (try rw [show 0 * 6 = 0 from rfl] at hx147_0)
    (try rw [Addr.add_zero'] at hx147_0)
    (try rw [show ((0 : Int)).toNat = 0 from rfl] at hx147_1)
    (try rw [show 0 * 6 = 0 from rfl] at hx147_1)
    (try rw [Addr.add_zero'] at hx147_1)
    (try rw [show ((0 : Int)).toNat = 0 from rfl] at hx147_2)
    (try rw [show 0 * 6 = 0 from rfl] at hx147_2)
    (try rw [Addr.add_zero'] at hx147_2)
    (try rw [show ((0 : Int)).toNat = 0 from rfl] at hx147_3)
    (try rw [show 0 * 6 = 0 from rfl] at hx147_3)
    (try rw [Addr.add_zero'] at hx147_3)
    (try rw [show ((0 : Int)).toNat = 0 from rfl] at hx147_4)
    (try rw [show 0 * 6 = 0 from rfl] at hx147_4)
    (try rw [Addr.add_zero'] at hx147_4)
    (try rw [show ((0 : Int)).toNat = 0 from rfl] at hx147_5)
    (try rw [show 0 * 6 = 0 from rfl] at hx147_5)
    (try rw [Addr.add_zero'] at hx147_5)
    have HR147_1 := Aside0.mk hi147_1
    have HC147_1 := Aside0.mk hl147_1
    clear hi147_1 hl147_1
    have HR147_2 := Aside0.mk hi147_2
    have HC147_2 := Aside0.mk hl147_2
    clear hi147_2 hl147_2
    have HR147_5 := Aside0.mk hi147_5
    have HC147_5 := Aside0.mk hl147_5
    clear hi147_5 hl147_5
    replace p147 := eq_true p147
    replace q147 := eq_true q147
    go_enter Try.func85, Try.ntmps85
    go_wp2_with (first | (go_at_call 109; (with_reducible refine (spec_l01Name.calls k a0_0 true _ A2.out).mono ?_); rintro e w' ⟨rfl, ⟨nd, rfl⟩⟩; (try first | exact ⟨rfl, _, World.drewN_drewN _ _ _⟩ | exact ⟨rfl, _, Eq.trans (World.drewN_drewN _ _ _) (congrArg (World.drewN _) (Nat.add_assoc _ _ _))⟩)) | (go_at_call 110; (with_reducible refine (spec_l03Scale.calls k _ _ l0_1 true _ ?side1 ?side2 A4.out).mono ?_); (case side1 => repeat (first | exact HR147_1.out | (with_reducible refine cA ?_ _) | (with_reducible refine cN ?_ _) | (with_reducible refine cD ?_))); (case side2 => exact HC147_1.out); rintro e w' ⟨rfl, ⟨nd, rfl⟩⟩; (try first | exact ⟨rfl, _, World.drewN_drewN _ _ _⟩ | exact ⟨rfl, _, Eq.trans (World.drewN_drewN _ _ _) (congrArg (World.drewN _) (Nat.add_assoc _ _ _))⟩)) | (go_at_call 110; (with_reducible refine (spec_l03Scale.calls k _ _ l0_2 false _ ?side1 ?side2 A6.out).mono ?_); (case side1 => repeat (first | exact HR147_2.out | (with_reducible refine cA ?_ _) | (with_reducible refine cN ?_ _) | (with_reducible refine cD ?_))); (case side2 => exact HC147_2.out); rintro e w' ⟨rfl, ⟨nd, rfl⟩⟩; (try first | exact ⟨rfl, _, World.drewN_drewN _ _ _⟩ | exact ⟨rfl, _, Eq.trans (World.drewN_drewN _ _ _) (congrArg (World.drewN _) (Nat.add_assoc _ _ _))⟩)))
    repeat (go_quiet (first | (go_at_call 109; (try simp only [iW]); (with_reducible refine (spec_l01Name.calls k a0_0 true _ A2.out).mono ?_); rintro e w' ⟨rfl, ⟨nd, rfl⟩⟩; (try first | exact ⟨rfl, _, World.drewN_drewN _ _ _⟩ | exact ⟨rfl, _, Eq.trans (World.drewN_drewN _ _ _) (congrArg (World.drewN _) (Nat.add_assoc _ _ _))⟩)) | (go_at_call 110; (try simp only [iW]); (with_reducible refine (spec_l03Scale.calls k _ _ l0_1 true _ ?side1 ?side2 A4.out).mono ?_); (case side1 => repeat (first | exact HR147_1.out | (with_reducible refine cA ?_ _) | (with_reducible refine cN ?_ _) | (with_reducible refine cD ?_))); (case side2 => exact HC147_1.out); rintro e w' ⟨rfl, ⟨nd, rfl⟩⟩; (try first | exact ⟨rfl, _, World.drewN_drewN _ _ _⟩ | exact ⟨rfl, _, Eq.trans (World.drewN_drewN _ _ _) (congrArg (World.drewN _) (Nat.add_assoc _ _ _))⟩)) | (go_at_call 110; (try simp only [iW]); (with_reducible refine (spec_l03Scale.calls k _ _ l0_2 false _ ?side1 ?side2 A6.out).mono ?_); (case side1 => repeat (first | exact HR147_2.out | (with_reducible refine cA ?_ _) | (with_reducible refine cN ?_ _) | (with_reducible refine cD ?_))); (case side2 => exact HC147_2.out); rintro e w' ⟨rfl, ⟨nd, rfl⟩⟩; (try first | exact ⟨rfl, _, World.drewN_drewN _ _ _⟩ | exact ⟨rfl, _, Eq.trans (World.drewN_drewN _ _ _) (congrArg (World.drewN _) (Nat.add_assoc _ _ _))⟩))); try go_wp2_with (first | (go_at_call 109; (try simp only [iW]); (with_reducible refine (spec_l01Name.calls k a0_0 true _ A2.out).mono ?_); rintro e w' ⟨rfl, ⟨nd, rfl⟩⟩; (try first | exact ⟨rfl, _, World.drewN_drewN _ _ _⟩ | exact ⟨rfl, _, Eq.trans (World.drewN_drewN _ _ _) (congrArg (World.drewN _) (Nat.add_assoc _ _ _))⟩)) | (go_at_call 110; (try simp only [iW]); (with_reducible refine (spec_l03Scale.calls k _ _ l0_1 true _ ?side1 ?side2 A4.out).mono ?_); (case side1 => repeat (first | exact HR147_1.out | (with_reducible refine cA ?_ _) | (with_reducible refine cN ?_ _) | (with_reducible refine cD ?_))); (case side2 => exact HC147_1.out); rintro e w' ⟨rfl, ⟨nd, rfl⟩⟩; (try first | exact ⟨rfl, _, World.drewN_drewN _ _ _⟩ | exact ⟨rfl, _, Eq.trans (World.drewN_drewN _ _ _) (congrArg (World.drewN _) (Nat.add_assoc _ _ _))⟩)) | (go_at_call 110; (try simp only [iW]); (with_reducible refine (spec_l03Scale.calls k _ _ l0_2 false _ ?side1 ?side2 A6.out).mono ?_); (case side1 => repeat (first | exact HR147_2.out | (with_reducible refine cA ?_ _) | (with_reducible refine cN ?_ _) | (with_reducible refine cD ?_))); (case side2 => exact HC147_2.out); rintro e w' ⟨rfl, ⟨nd, rfl⟩⟩; (try first | exact ⟨rfl, _, World.drewN_drewN _ _ _⟩ | exact ⟨rfl, _, Eq.trans (World.drewN_drewN _ _ _) (congrArg (World.drewN _) (Nat.add_assoc _ _ _))⟩))))
    go_ret
    exact ⟨by first | rfl | (simp; done) | (simp [*]; done), by repeat (first | exact Drawn0.refl _ | apply Drawn0.step)⟩
  ·replace c5 := Bool.eq_false_iff.mpr c5
   subst c5
   have H1 : (some false) = some r := by rw [if_neg (show ¬ (false = true) by decide)] at H; exact H
   clear H
   have H := H1
   clear H1
   obtain rfl := Option.some.inj H
   have p147 : 0 ≤ (0 : Int) := (by omega)
   have q147 : 0 < ([(⟨a0_0, l0_1, l0_2, a0_3, a0_4, l0_5⟩ : S58)].length : Int) := (by simp)
   obtain ⟨ad147, A147_1, c147_1, A147_2, c147_2, A147_5, c147_5, e147, hx147_0, hx147_1, hx147_2, hx147_3, hx147_4, hx147_5, hl147_1, hi147_1, hl147_2, hi147_2, hl147_5, hi147_5⟩ := at_T58 HRp0.out 0 p147 q147
   replace hx147_0 : _ = (some (.string a0_0) : Option Value) := hx147_0
   replace hx147_1 : _ = (some (.slice A147_1 l0_1.length c147_1) : Option Value) := hx147_1
   replace hi147_1 : Kd.C (Kd.int .i64) _ _ l0_1.length l0_1 := hi147_1
   replace hl147_1 : l0_1.length ≤ _ := hl147_1
   replace hx147_2 : _ = (some (.slice A147_2 l0_2.length c147_2) : Option Value) := hx147_2
   replace hi147_2 : Kd.C (Kd.int .i64) _ _ l0_2.length l0_2 := hi147_2
   replace hl147_2 : l0_2.length ≤ _ := hl147_2
   replace hx147_3 : _ = (some (.int .i64 a0_3) : Option Value) := hx147_3
   replace hx147_4 : _ = (some (.int .i64 a0_4) : Option Value) := hx147_4
   replace hx147_5 : _ = (some (.slice A147_5 l0_5.length c147_5) : Option Value) := hx147_5
   replace hi147_5 : Kd.C (Kd.slice 2 (Kd.int .i64)) _ _ l0_5.length l0_5 := hi147_5
   replace hl147_5 : l0_5.length ≤ _ := hl147_5
   obtain rfl : adp0 = ad147 := (by injection e147)
   have qi147 : (0 < [(⟨a0_0, l0_1, l0_2, a0_3, a0_4, l0_5⟩ : S58)].length) = True := eq_true (by simp)
   (try rw [show ((0 : Int)).toNat = 0 from rfl] at hx147_0)
   (try rw [show 0 * 6 = 0 from rfl] at hx147_0)
   (try rw [Addr.add_zero'] at hx147_0)
   (try rw [show ((0 : Int)).toNat = 0 from rfl] at hx147_1)
   (try rw [show 0 * 6 = 0 from rfl] at hx147_1)
   (try rw [Addr.add_zero'] at hx147_1)
   (try rw [show ((0 : Int)).toNat = 0 from rfl] at hx147_2)
   (try rw [show 0 * 6 = 0 from rfl] at hx147_2)
   (try rw [Addr.add_zero'] at hx147_2)
   (try rw [show ((0 : Int)).toNat = 0 from rfl] at hx147_3)
   (try rw [show 0 * 6 = 0 from rfl] at hx147_3)
   (try rw [Addr.add_zero'] at hx147_3)
   (try rw [show ((0 : Int)).toNat = 0 from rfl] at hx147_4)
   (try rw [show 0 * 6 = 0 from rfl] at hx147_4)
   (try rw [Addr.add_zero'] at hx147_4)
   (try rw [show ((0 : Int)).toNat = 0 from rfl] at hx147_5)
   (try rw [show 0 * 6 = 0 from rfl] at hx147_5)
   (try rw [Addr.add_zero'] at hx147_5)
   have HR147_1 := Aside0.mk hi147_1
   have HC147_1 := Aside0.mk hl147_1
   clear hi147_1 hl147_1
   have HR147_2 := Aside0.mk hi147_2
   have HC147_2 := Aside0.mk hl147_2
   clear hi147_2 hl147_2
   have HR147_5 := Aside0.mk hi147_5
   have HC147_5 := Aside0.mk hl147_5
   clear hi147_5 hl147_5
   replace p147 := eq_true p147
   replace q147 := eq_true q147
   go_enter Try.func85, Try.ntmps85
   go_wp2_with (first | (go_at_call 109; (with_reducible refine (spec_l01Name.calls k a0_0 true _ A2.out).mono ?_); rintro e w' ⟨rfl, ⟨nd, rfl⟩⟩; (try first | exact ⟨rfl, _, World.drewN_drewN _ _ _⟩ | exact ⟨rfl, _, Eq.trans (World.drewN_drewN _ _ _) (congrArg (World.drewN _) (Nat.add_assoc _ _ _))⟩)) | (go_at_call 110; (with_reducible refine (spec_l03Scale.calls k _ _ l0_1 false _ ?side1 ?side2 A4.out).mono ?_); (case side1 => repeat (first | exact HR147_1.out | (with_reducible refine cA ?_ _) | (with_reducible refine cN ?_ _) | (with_reducible refine cD ?_))); (case side2 => exact HC147_1.out); rintro e w' ⟨rfl, ⟨nd, rfl⟩⟩; (try first | exact ⟨rfl, _, World.drewN_drewN _ _ _⟩ | exact ⟨rfl, _, Eq.trans (World.drewN_drewN _ _ _) (congrArg (World.drewN _) (Nat.add_assoc _ _ _))⟩)))
   repeat (go_quiet (first | (go_at_call 109; (try simp only [iW]); (with_reducible refine (spec_l01Name.calls k a0_0 true _ A2.out).mono ?_); rintro e w' ⟨rfl, ⟨nd, rfl⟩⟩; (try first | exact ⟨rfl, _, World.drewN_drewN _ _ _⟩ | exact ⟨rfl, _, Eq.trans (World.drewN_drewN _ _ _) (congrArg (World.drewN _) (Nat.add_assoc _ _ _))⟩)) | (go_at_call 110; (try simp only [iW]); (with_reducible refine (spec_l03Scale.calls k _ _ l0_1 false _ ?side1 ?side2 A4.out).mono ?_); (case side1 => repeat (first | exact HR147_1.out | (with_reducible refine cA ?_ _) | (with_reducible refine cN ?_ _) | (with_reducible refine cD ?_))); (case side2 => exact HC147_1.out); rintro e w' ⟨rfl, ⟨nd, rfl⟩⟩; (try first | exact ⟨rfl, _, World.drewN_drewN _ _ _⟩ | exact ⟨rfl, _, Eq.trans (World.drewN_drewN _ _ _) (congrArg (World.drewN _) (Nat.add_assoc _ _ _))⟩))); try go_wp2_with (first | (go_at_call 109; (try simp only [iW]); (with_reducible refine (spec_l01Name.calls k a0_0 true _ A2.out).mono ?_); rintro e w' ⟨rfl, ⟨nd, rfl⟩⟩; (try first | exact ⟨rfl, _, World.drewN_drewN _ _ _⟩ | exact ⟨rfl, _, Eq.trans (World.drewN_drewN _ _ _) (congrArg (World.drewN _) (Nat.add_assoc _ _ _))⟩)) | (go_at_call 110; (try simp only [iW]); (with_reducible refine (spec_l03Scale.calls k _ _ l0_1 false _ ?side1 ?side2 A4.out).mono ?_); (case side1 => repeat (first | exact HR147_1.out | (with_reducible refine cA ?_ _) | (with_reducible refine cN ?_ _) | (with_reducible refine cD ?_))); (case side2 => exact HC147_1.out); rintro e w' ⟨rfl, ⟨nd, rfl⟩⟩; (try first | exact ⟨rfl, _, World.drewN_drewN _ _ _⟩ | exact ⟨rfl, _, Eq.trans (World.drewN_drewN _ _ _) (congrArg (World.drewN _) (Nat.add_assoc _ _ _))⟩))))
   go_ret
   exact ⟨by first | rfl | (simp; done) | (simp [*]; done), by repeat (first | exact Drawn0.refl _ | apply Drawn0.step)⟩
 ·replace c3 := Bool.eq_false_iff.mpr c3
  subst c3
  have H1 : (some false) = some r := by rw [if_neg (show ¬ (false = true) by decide)] at H; exact H
  clear H
  have H := H1
  clear H1
  obtain rfl := Option.some.inj H
  have p147 : 0 ≤ (0 : Int) := (by omega)
  have q147 : 0 < ([(⟨a0_0, l0_1, l0_2, a0_3, a0_4, l0_5⟩ : S58)].length : Int) := (by simp)
  obtain ⟨ad147, A147_1, c147_1, A147_2, c147_2, A147_5, c147_5, e147, hx147_0, hx147_1, hx147_2, hx147_3, hx147_4, hx147_5, hl147_1, hi147_1, hl147_2, hi147_2, hl147_5, hi147_5⟩ := at_T58 HRp0.out 0 p147 q147
  replace hx147_0 : _ = (some (.string a0_0) : Option Value) := hx147_0
  replace hx147_1 : _ = (some (.slice A147_1 l0_1.length c147_1) : Option Value) := hx147_1
  replace hi147_1 : Kd.C (Kd.int .i64) _ _ l0_1.length l0_1 := hi147_1
  replace hl147_1 : l0_1.length ≤ _ := hl147_1
  replace hx147_2 : _ = (some (.slice A147_2 l0_2.length c147_2) : Option Value) := hx147_2
  replace hi147_2 : Kd.C (Kd.int .i64) _ _ l0_2.length l0_2 := hi147_2
  replace hl147_2 : l0_2.length ≤ _ := hl147_2
  replace hx147_3 : _ = (some (.int .i64 a0_3) : Option Value) := hx147_3
  replace hx147_4 : _ = (some (.int .i64 a0_4) : Option Value) := hx147_4
  replace hx147_5 : _ = (some (.slice A147_5 l0_5.length c147_5) : Option Value) := hx147_5
  replace hi147_5 : Kd.C (Kd.slice 2 (Kd.int .i64)) _ _ l0_5.length l0_5 := hi147_5
  replace hl147_5 : l0_5.length ≤ _ := hl147_5
  obtain rfl : adp0 = ad147 := (by injection e147)
  have qi147 : (0 < [(⟨a0_0, l0_1, l0_2, a0_3, a0_4, l0_5⟩ : S58)].length) = True := eq_true (by simp)
  (try rw [show ((0 : Int)).toNat = 0 from rfl] at hx147_0)
  (try rw [show 0 * 6 = 0 from rfl] at hx147_0)
  (try rw [Addr.add_zero'] at hx147_0)
  (try rw [show ((0 : Int)).toNat = 0 from rfl] at hx147_1)
  (try rw [show 0 * 6 = 0 from rfl] at hx147_1)
  (try rw [Addr.add_zero'] at hx147_1)
  (try rw [show ((0 : Int)).toNat = 0 from rfl] at hx147_2)
  (try rw [show 0 * 6 = 0 from rfl] at hx147_2)
  (try rw [Addr.add_zero'] at hx147_2)
  (try rw [show ((0 : Int)).toNat = 0 from rfl] at hx147_3)
  (try rw [show 0 * 6 = 0 from rfl] at hx147_3)
  (try rw [Addr.add_zero'] at hx147_3)
  (try rw [show ((0 : Int)).toNat = 0 from rfl] at hx147_4)
  (try rw [show 0 * 6 = 0 from rfl] at hx147_4)
  (try rw [Addr.add_zero'] at hx147_4)
  (try rw [show ((0 : Int)).toNat = 0 from rfl] at hx147_5)
  (try rw [show 0 * 6 = 0 from rfl] at hx147_5)
  (try rw [Addr.add_zero'] at hx147_5)
  have HR147_1 := Aside0.mk hi147_1
  have HC147_1 := Aside0.mk hl147_1
  clear hi147_1 hl147_1
  have HR147_2 := Aside0.mk hi147_2
  have HC147_2 := Aside0.mk hl147_2
  clear hi147_2 hl147_2
  have HR147_5 := Aside0.mk hi147_5
  have HC147_5 := Aside0.mk hl147_5
  clear hi147_5 hl147_5
  replace p147 := eq_true p147
  replace q147 := eq_true q147
  go_enter Try.func85, Try.ntmps85
  go_wp2_with (first | (go_at_call 109; (with_reducible refine (spec_l01Name.calls k a0_0 false _ A2.out).mono ?_); rintro e w' ⟨rfl, ⟨nd, rfl⟩⟩; (try first | exact ⟨rfl, _, World.drewN_drewN _ _ _⟩ | exact ⟨rfl, _, Eq.trans (World.drewN_drewN _ _ _) (congrArg (World.drewN _) (Nat.add_assoc _ _ _))⟩)))
  repeat (go_quiet (first | (go_at_call 109; (try simp only [iW]); (with_reducible refine (spec_l01Name.calls k a0_0 false _ A2.out).mono ?_); rintro e w' ⟨rfl, ⟨nd, rfl⟩⟩; (try first | exact ⟨rfl, _, World.drewN_drewN _ _ _⟩ | exact ⟨rfl, _, Eq.trans (World.drewN_drewN _ _ _) (congrArg (World.drewN _) (Nat.add_assoc _ _ _))⟩))); try go_wp2_with (first | (go_at_call 109; (try simp only [iW]); (with_reducible refine (spec_l01Name.calls k a0_0 false _ A2.out).mono ?_); rintro e w' ⟨rfl, ⟨nd, rfl⟩⟩; (try first | exact ⟨rfl, _, World.drewN_drewN _ _ _⟩ | exact ⟨rfl, _, Eq.trans (World.drewN_drewN _ _ _) (congrArg (World.drewN _) (Nat.add_assoc _ _ _))⟩))))
  go_ret
  exact ⟨by first | rfl | (simp; done) | (simp [*]; done), by repeat (first | exact Drawn0.refl _ | apply Drawn0.step)⟩

end Go.Proofs.Ytijbhcalknfijaa.M6
-- shrunk
-- tight
