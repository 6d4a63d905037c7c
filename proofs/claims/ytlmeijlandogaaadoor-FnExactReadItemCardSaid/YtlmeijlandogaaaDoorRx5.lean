/- What functions of the given program compute, as plain Lean functions, and that the code comes to just that; by a program of this session over the kit's print. No condition. -/
import Derived.Test.YtlmeijlandogaaaDoorRx0
import Derived.Test.YtlmeijlandogaaaDoorRx3
import Derived.Test.YtlmeijlandogaaaDoorRx4
namespace Go.Proofs.YtlmeijlandogaaaDoor.R
open Go.RowKit Go.Proofs.YtlmeijlandogaaaDoorW.PrintWords Go.Proofs.YtlmeijlandogaaaDoorW.PrintLast Go.Proofs.YtlmeijlandogaaaDoorW.PrintMore
attribute [local go_sem] max2_int min2_int max_two min_two max_three min_three max_four min_four   -- for this text's walks alone
set_option linter.unusedVariables false
set_option linter.unusedSimpArgs false

/-! ### spec_l08One: function 90 -/
def spec_l08One.f (k : Nat) (a0_0 : ByteArray) (a0_1 : Int) (a0_2 : Int) (a0_3 : Int) (a0_4 : Int) (a0_5 : Int) : Option (Bool) := (spec_l01Name.f k a0_0).bind fun t132 => (if t132 = true then ((spec_l08Minute.f a0_1).bind fun t133 => (if t133 = true then ((spec_l08Minute.f a0_2).bind fun t134 => (if t134 = true then (if a0_1 = a0_2 then (some false) else ((spec_l00In.f a0_3 (-1) 5).bind fun t135 => (if t135 = true then ((spec_l00In.f a0_4 1 240).bind fun t136 => (if t136 = true then ((spec_l00In.f a0_5 0 1000).bind fun t137 => (some t137)) else (some false))) else (some false)))) else (some false))) else (some false))) else (some false))
theorem spec_l08One.mono : ∀ a0 a1 a2 a3 a4 a5 k, LeO (spec_l08One.f k a0 a1 a2 a3 a4 a5) (spec_l08One.f (k + 1) a0 a1 a2 a3 a4 a5) := by
 intro a0 a1 a2 a3 a4 a5 k
 unfold spec_l08One.f
 repeat' first
   | (with_reducible exact spec_l01Name.mono _ _)
   | (with_reducible exact LeO.refl _)
   | (with_reducible exact LeO.none _)
   | (with_reducible refine LeO.ite ?_ ?_)
   | (with_reducible refine LeO.bind ?_ (fun _ => ?_))
   | exact spec_l01Name.mono _ _
   | exact LeO.none _
   | refine LeO.ite ?_ ?_
   | refine LeO.bind ?_ (fun _ => ?_)
set_option maxHeartbeats 8000000 in
set_option maxRecDepth 100000 in
theorem spec_l08One.calls (k : Nat) (adp0 : Addr) (a0_0 : ByteArray) (a0_1 : Int) (a0_2 : Int) (a0_3 : Int) (a0_4 : Int) (a0_5 : Int) (r : Bool) (w : World) (hp0 : Kd.C k50 w (some adp0) 1 [(⟨a0_0, a0_1, a0_2, a0_3, a0_4, a0_5⟩ : S50)]) (h : spec_l08One.f k a0_0 a0_1 a0_2 a0_3 a0_4 a0_5 = some r) :
  Calls Tryd.prog 90 #[.pointer (some adp0)] w fun e w' => e = .returned (.bool r) ∧ Drawn0 w w' := by
 have HRp0 := Aside0.mk hp0
 clear hp0
 have H : ((spec_l01Name.f k a0_0).bind fun t132 => (if t132 = true then ((spec_l08Minute.f a0_1).bind fun t133 => (if t133 = true then ((spec_l08Minute.f a0_2).bind fun t134 => (if t134 = true then (if a0_1 = a0_2 then (some false) else ((spec_l00In.f a0_3 (-1) 5).bind fun t135 => (if t135 = true then ((spec_l00In.f a0_4 1 240).bind fun t136 => (if t136 = true then ((spec_l00In.f a0_5 0 1000).bind fun t137 => (some t137)) else (some false))) else (some false)))) else (some false))) else (some false))) else (some false))) = some r := h
 clear h
 replace H := Option.bind_eq_some_iff.mp H
 obtain ⟨t132, A20, H⟩ := H
 replace H : (if t132 = true then ((spec_l08Minute.f a0_1).bind fun t133 => (if t133 = true then ((spec_l08Minute.f a0_2).bind fun t134 => (if t134 = true then (if a0_1 = a0_2 then (some false) else ((spec_l00In.f a0_3 (-1) 5).bind fun t135 => (if t135 = true then ((spec_l00In.f a0_4 1 240).bind fun t136 => (if t136 = true then ((spec_l00In.f a0_5 0 1000).bind fun t137 => (some t137)) else (some false))) else (some false)))) else (some false))) else (some false))) else (some false)) = some r := H
 have A2 := Aside0.mk A20
 clear A20
 by_cases c3 : t132 = true
 ·subst c3
  have H1 : ((spec_l08Minute.f a0_1).bind fun t133 => (if t133 = true then ((spec_l08Minute.f a0_2).bind fun t134 => (if t134 = true then (if a0_1 = a0_2 then (some false) else ((spec_l00In.f a0_3 (-1) 5).bind fun t135 => (if t135 = true then ((spec_l00In.f a0_4 1 240).bind fun t136 => (if t136 = true then ((spec_l00In.f a0_5 0 1000).bind fun t137 => (some t137)) else (some false))) else (some false)))) else (some false))) else (some false))) = some r := by rw [if_pos rfl] at H; exact H
  clear H
  have H := H1
  clear H1
  replace H := Option.bind_eq_some_iff.mp H
  obtain ⟨t133, A40, H⟩ := H
  replace H : (if t133 = true then ((spec_l08Minute.f a0_2).bind fun t134 => (if t134 = true then (if a0_1 = a0_2 then (some false) else ((spec_l00In.f a0_3 (-1) 5).bind fun t135 => (if t135 = true then ((spec_l00In.f a0_4 1 240).bind fun t136 => (if t136 = true then ((spec_l00In.f a0_5 0 1000).bind fun t137 => (some t137)) else (some false))) else (some false)))) else (some false))) else (some false)) = some r := H
  have A4 := Aside0.mk A40
  clear A40
  by_cases c5 : t133 = true
  ·subst c5
   have H1 : ((spec_l08Minute.f a0_2).bind fun t134 => (if t134 = true then (if a0_1 = a0_2 then (some false) else ((spec_l00In.f a0_3 (-1) 5).bind fun t135 => (if t135 = true then ((spec_l00In.f a0_4 1 240).bind fun t136 => (if t136 = true then ((spec_l00In.f a0_5 0 1000).bind fun t137 => (some t137)) else (some false))) else (some false)))) else (some false))) = some r := by rw [if_pos rfl] at H; exact H
   clear H
   have H := H1
   clear H1
   replace H := Option.bind_eq_some_iff.mp H
   obtain ⟨t134, A60, H⟩ := H
   replace H : (if t134 = true then (if a0_1 = a0_2 then (some false) else ((spec_l00In.f a0_3 (-1) 5).bind fun t135 => (if t135 = true then ((spec_l00In.f a0_4 1 240).bind fun t136 => (if t136 = true then ((spec_l00In.f a0_5 0 1000).bind fun t137 => (some t137)) else (some false))) else (some false)))) else (some false)) = some r := H
   have A6 := Aside0.mk A60
   clear A60
   by_cases c7 : t134 = true
   ·subst c7
    have H1 : (if a0_1 = a0_2 then (some false) else ((spec_l00In.f a0_3 (-1) 5).bind fun t135 => (if t135 = true then ((spec_l00In.f a0_4 1 240).bind fun t136 => (if t136 = true then ((spec_l00In.f a0_5 0 1000).bind fun t137 => (some t137)) else (some false))) else (some false)))) = some r := by rw [if_pos rfl] at H; exact H
    clear H
    have H := H1
    clear H1
    by_cases c8 : a0_1 = a0_2
    ·rw [if_pos c8] at H
     have c8b0 : (a0_1 == a0_2) = true := beq_iff_eq.mpr c8
     have c8b1 : (a0_1 != a0_2) = false := bne_eq_false_iff_eq.mpr c8
     clear c8
     obtain rfl := Option.some.inj H
     have p131 : 0 ≤ (0 : Int) := (by omega)
     have q131 : 0 < ([(⟨a0_0, a0_1, a0_2, a0_3, a0_4, a0_5⟩ : S50)].length : Int) := (by simp)
     obtain ⟨ad131, e131, hx131_0, hx131_1, hx131_2, hx131_3, hx131_4, hx131_5⟩ := at_T50 HRp0.out 0 p131 q131
     replace hx131_0 : _ = (some (.string a0_0) : Option Value) := hx131_0
     replace hx131_1 : _ = (some (.int .i64 a0_1) : Option Value) := hx131_1
     replace hx131_2 : _ = (some (.int .i64 a0_2) : Option Value) := hx131_2
     replace hx131_3 : _ = (some (.int .i64 a0_3) : Option Value) := hx131_3
     replace hx131_4 : _ = (some (.int .i64 a0_4) : Option Value) := hx131_4
     replace hx131_5 : _ = (some (.int .i64 a0_5) : Option Value) := hx131_5
     obtain rfl : adp0 = ad131 := (by injection e131)
     have qi131 : (0 < [(⟨a0_0, a0_1, a0_2, a0_3, a0_4, a0_5⟩ : S50)].length) = True := eq_true (by simp)
     (try rw [show ((0 : Int)).toNat = 0 from rfl] at hx131_0)
     (try rw [show 0 * 6 = 0 from rfl] at hx131_0)
     (try rw [Addr.add_zero'] at hx131_0)
     (try rw [show ((0 : Int)).toNat = 0 from rfl] at hx131_1)
     (try rw [show 0 * 6 = 0 from rfl] at hx131_1)
     (try rw [Addr.add_zero'] at hx131_1)
     (try rw [show ((0 : Int)).toNat = 0 from rfl] at hx131_2)
     (try rw [show 0 * 6 = 0 from rfl] at hx131_2)
     (try rw [Addr.add_zero'] at hx131_2)
     (try rw [show ((0 : Int)).toNat = 0 from rfl] at hx131_3)
     (try rw [show 0 * 6 = 0 from rfl] at hx131_3)
     (try rw [Addr.add_zero'] at hx131_3)
     (try rw [show ((0 : Int)).toNat = 0 from rfl] at hx131_4)
     (try rw [show 0 * 6 = 0 from rfl] at hx131_4)
     (try rw [Addr.add_zero'] at hx131_4)
     (try rw [show ((0 : Int)).toNat = 0 from rfl] at hx131_5)
     (try rw [show 0 * 6 = 0 from rfl] at hx131_5)
     (try rw [Addr.add_zero'] at hx131_5)
     replace p131 := eq_true p131
     replace q131 := eq_true q131
     go_enter Tryd.func90, Tryd.ntmps90
     go_wp2_with (first | (go_at_call 113; (with_reducible refine (spec_l01Name.calls k a0_0 true _ A2.out).mono ?_); rintro e w' ⟨rfl, ⟨nd, rfl⟩⟩; (try first | exact ⟨rfl, _, World.drewN_drewN _ _ _⟩ | exact ⟨rfl, _, Eq.trans (World.drewN_drewN _ _ _) (congrArg (World.drewN _) (Nat.add_assoc _ _ _))⟩)) | (go_at_call 120; (with_reducible refine (spec_l08Minute.calls a0_1 true _ A4.out).mono ?_); rintro e w' ⟨rfl, ⟨nd, rfl⟩⟩; (try first | exact ⟨rfl, _, World.drewN_drewN _ _ _⟩ | exact ⟨rfl, _, Eq.trans (World.drewN_drewN _ _ _) (congrArg (World.drewN _) (Nat.add_assoc _ _ _))⟩)) | (go_at_call 120; (with_reducible refine (spec_l08Minute.calls a0_2 true _ A6.out).mono ?_); rintro e w' ⟨rfl, ⟨nd, rfl⟩⟩; (try first | exact ⟨rfl, _, World.drewN_drewN _ _ _⟩ | exact ⟨rfl, _, Eq.trans (World.drewN_drewN _ _ _) (congrArg (World.drewN _) (Nat.add_assoc _ _ _))⟩)))
     repeat (go_quiet (first | (go_at_call 113; (with_reducible refine (spec_l01Name.calls k a0_0 true _ A2.out).mono ?_); rintro e w' ⟨rfl, ⟨nd, rfl⟩⟩; (try first | exact ⟨rfl, _, World.drewN_drewN _ _ _⟩ | exact ⟨rfl, _, Eq.trans (World.drewN_drewN _ _ _) (congrArg (World.drewN _) (Nat.add_assoc _ _ _))⟩)) | (go_at_call 120; (with_reducible refine (spec_l08Minute.calls a0_1 true _ A4.out).mono ?_); rintro e w' ⟨rfl, ⟨nd, rfl⟩⟩; (try first | exact ⟨rfl, _, World.drewN_drewN _ _ _⟩ | exact ⟨rfl, _, Eq.trans (World.drewN_drewN _ _ _) (congrArg (World.drewN _) (Nat.add_assoc _ _ _))⟩)) | (go_at_call 120; (with_reducible refine (spec_l08Minute.calls a0_2 true _ A6.out).mono ?_); rintro e w' ⟨rfl, ⟨nd, rfl⟩⟩; (try first | exact ⟨rfl, _, World.drewN_drewN _ _ _⟩ | exact ⟨rfl, _, Eq.trans (World.drewN_drewN _ _ _) (congrArg (World.drewN _) (Nat.add_assoc _ _ _))⟩))); try go_wp2_with (first | (go_at_call 113; (with_reducible refine (spec_l01Name.calls k a0_0 true _ A2.out).mono ?_); rintro e w' ⟨rfl, ⟨nd, rfl⟩⟩; (try first | exact ⟨rfl, _, World.drewN_drewN _ _ _⟩ | exact ⟨rfl, _, Eq.trans (World.drewN_drewN _ _ _) (congrArg (World.drewN _) (Nat.add_assoc _ _ _))⟩)) | (go_at_call 120; (with_reducible refine (spec_l08Minute.calls a0_1 true _ A4.out).mono ?_); rintro e w' ⟨rfl, ⟨nd, rfl⟩⟩; (try first | exact ⟨rfl, _, World.drewN_drewN _ _ _⟩ | exact ⟨rfl, _, Eq.trans (World.drewN_drewN _ _ _) (congrArg (World.drewN _) (Nat.add_assoc _ _ _))⟩)) | (go_at_call 120; (with_reducible refine (spec_l08Minute.calls a0_2 true _ A6.out).mono ?_); rintro e w' ⟨rfl, ⟨nd, rfl⟩⟩; (try first | exact ⟨rfl, _, World.drewN_drewN _ _ _⟩ | exact ⟨rfl, _, Eq.trans (World.drewN_drewN _ _ _) (congrArg (World.drewN _) (Nat.add_assoc _ _ _))⟩))))
     go_ret
     exact ⟨by first | rfl | (simp; done) | (simp [*]; done), by repeat (first | exact Drawn0.refl _ | apply Drawn0.step)⟩
    ·rw [if_neg c8] at H
     have c8b0 : (a0_1 == a0_2) = false := beq_eq_false_iff_ne.mpr c8
     have c8b1 : (a0_1 != a0_2) = true := bne_iff_ne.mpr c8
     replace H := Option.bind_eq_some_iff.mp H
     obtain ⟨t135, A90, H⟩ := H
     replace H : (if t135 = true then ((spec_l00In.f a0_4 1 240).bind fun t136 => (if t136 = true then ((spec_l00In.f a0_5 0 1000).bind fun t137 => (some t137)) else (some false))) else (some false)) = some r := H
     have A9 := Aside0.mk A90
     clear A90
     by_cases c10 : t135 = true
     ·subst c10
      have H1 : ((spec_l00In.f a0_4 1 240).bind fun t136 => (if t136 = true then ((spec_l00In.f a0_5 0 1000).bind fun t137 => (some t137)) else (some false))) = some r := by rw [if_pos rfl] at H; exact H
      clear H
      have H := H1
      clear H1
      replace H := Option.bind_eq_some_iff.mp H
      obtain ⟨t136, A110, H⟩ := H
      replace H : (if t136 = true then ((spec_l00In.f a0_5 0 1000).bind fun t137 => (some t137)) else (some false)) = some r := H
      have A11 := Aside0.mk A110
      clear A110
      by_cases c12 : t136 = true
      ·subst c12
       have H1 : ((spec_l00In.f a0_5 0 1000).bind fun t137 => (some t137)) = some r := by rw [if_pos rfl] at H; exact H
       clear H
       have H := H1
       clear H1
       replace H := Option.bind_eq_some_iff.mp H
       obtain ⟨t137, A130, H⟩ := H
       replace H : (some t137) = some r := H
       have A13 := Aside0.mk A130
       clear A130
       obtain rfl := Option.some.inj H
       have p131 : 0 ≤ (0 : Int) := (by omega)
       have q131 : 0 < ([(⟨a0_0, a0_1, a0_2, a0_3, a0_4, a0_5⟩ : S50)].length : Int) := (by simp)
       obtain ⟨ad131, e131, hx131_0, hx131_1, hx131_2, hx131_3, hx131_4, hx131_5⟩ := at_T50 HRp0.out 0 p131 q131
       replace hx131_0 : _ = (some (.string a0_0) : Option Value) := hx131_0
       replace hx131_1 : _ = (some (.int .i64 a0_1) : Option Value) := hx131_1
       replace hx131_2 : _ = (some (.int .i64 a0_2) : Option Value) := hx131_2
       replace hx131_3 : _ = (some (.int .i64 a0_3) : Option Value) := hx131_3
       replace hx131_4 : _ = (some (.int .i64 a0_4) : Option Value) := hx131_4
       replace hx131_5 : _ = (some (.int .i64 a0_5) : Option Value) := hx131_5
       obtain rfl : adp0 = ad131 := (by injection e131)
       have qi131 : (0 < [(⟨a0_0, a0_1, a0_2, a0_3, a0_4, a0_5⟩ : S50)].length) = True := eq_true (by simp)
       (try rw [show ((0 : Int)).toNat = 0 from rfl] at hx131_0)
       (try rw [show 0 * 6 = 0 from rfl] at hx131_0)
       (try rw [Addr.add_zero'] at hx131_0)
       (try rw [show ((0 : Int)).toNat = 0 from rfl] at hx131_1)
       (try rw [show 0 * 6 = 0 from rfl] at hx131_1)
       (try rw [Addr.add_zero'] at hx131_1)
       (try rw [show ((0 : Int)).toNat = 0 from rfl] at hx131_2)
       (try rw [show 0 * 6 = 0 from rfl] at hx131_2)
       (try rw [Addr.add_zero'] at hx131_2)
       (try rw [show ((0 : Int)).toNat = 0 from rfl] at hx131_3)
       (try rw [show 0 * 6 = 0 from rfl] at hx131_3)
       (try rw [Addr.add_zero'] at hx131_3)
       (try rw [show ((0 : Int)).toNat = 0 from rfl] at hx131_4)
       (try rw [show 0 * 6 = 0 from rfl] at hx131_4)
       (try rw [Addr.add_zero'] at hx131_4)
       (try rw [show ((0 : Int)).toNat = 0 from rfl] at hx131_5)
       (try rw [show 0 * 6 = 0 from rfl] at hx131_5)
       (try rw [Addr.add_zero'] at hx131_5)
       replace p131 := eq_true p131
       replace q131 := eq_true q131
       go_enter Tryd.func90, Tryd.ntmps90
       go_wp2_with (first | (go_at_call 113; (with_reducible refine (spec_l01Name.calls k a0_0 true _ A2.out).mono ?_); rintro e w' ⟨rfl, ⟨nd, rfl⟩⟩; (try first | exact ⟨rfl, _, World.drewN_drewN _ _ _⟩ | exact ⟨rfl, _, Eq.trans (World.drewN_drewN _ _ _) (congrArg (World.drewN _) (Nat.add_assoc _ _ _))⟩)) | (go_at_call 120; (with_reducible refine (spec_l08Minute.calls a0_1 true _ A4.out).mono ?_); rintro e w' ⟨rfl, ⟨nd, rfl⟩⟩; (try first | exact ⟨rfl, _, World.drewN_drewN _ _ _⟩ | exact ⟨rfl, _, Eq.trans (World.drewN_drewN _ _ _) (congrArg (World.drewN _) (Nat.add_assoc _ _ _))⟩)) | (go_at_call 120; (with_reducible refine (spec_l08Minute.calls a0_2 true _ A6.out).mono ?_); rintro e w' ⟨rfl, ⟨nd, rfl⟩⟩; (try first | exact ⟨rfl, _, World.drewN_drewN _ _ _⟩ | exact ⟨rfl, _, Eq.trans (World.drewN_drewN _ _ _) (congrArg (World.drewN _) (Nat.add_assoc _ _ _))⟩)) | (go_at_call 66; (with_reducible refine (spec_l00In.calls a0_3 (-1) 5 true _ A9.out).mono ?_); rintro e w' ⟨rfl, ⟨nd, rfl⟩⟩; (try first | exact ⟨rfl, _, World.drewN_drewN _ _ _⟩ | exact ⟨rfl, _, Eq.trans (World.drewN_drewN _ _ _) (congrArg (World.drewN _) (Nat.add_assoc _ _ _))⟩)) | (go_at_call 66; (with_reducible refine (spec_l00In.calls a0_4 1 240 true _ A11.out).mono ?_); rintro e w' ⟨rfl, ⟨nd, rfl⟩⟩; (try first | exact ⟨rfl, _, World.drewN_drewN _ _ _⟩ | exact ⟨rfl, _, Eq.trans (World.drewN_drewN _ _ _) (congrArg (World.drewN _) (Nat.add_assoc _ _ _))⟩)) | (go_at_call 66; (with_reducible refine (spec_l00In.calls a0_5 0 1000 t137 _ A13.out).mono ?_); rintro e w' ⟨rfl, ⟨nd, rfl⟩⟩; (try first | exact ⟨rfl, _, World.drewN_drewN _ _ _⟩ | exact ⟨rfl, _, Eq.trans (World.drewN_drewN _ _ _) (congrArg (World.drewN _) (Nat.add_assoc _ _ _))⟩)))
       repeat (go_quiet (first | (go_at_call 113; (with_reducible refine (spec_l01Name.calls k a0_0 true _ A2.out).mono ?_); rintro e w' ⟨rfl, ⟨nd, rfl⟩⟩; (try first | exact ⟨rfl, _, World.drewN_drewN _ _ _⟩ | exact ⟨rfl, _, Eq.trans (World.drewN_drewN _ _ _) (congrArg (World.drewN _) (Nat.add_assoc _ _ _))⟩)) | (go_at_call 120; (with_reducible refine (spec_l08Minute.calls a0_1 true _ A4.out).mono ?_); rintro e w' ⟨rfl, ⟨nd, rfl⟩⟩; (try first | exact ⟨rfl, _, World.drewN_drewN _ _ _⟩ | exact ⟨rfl, _, Eq.trans (World.drewN_drewN _ _ _) (congrArg (World.drewN _) (Nat.add_assoc _ _ _))⟩)) | (go_at_call 120; (with_reducible refine (spec_l08Minute.calls a0_2 true _ A6.out).mono ?_); rintro e w' ⟨rfl, ⟨nd, rfl⟩⟩; (try first | exact ⟨rfl, _, World.drewN_drewN _ _ _⟩ | exact ⟨rfl, _, Eq.trans (World.drewN_drewN _ _ _) (congrArg (World.drewN _) (Nat.add_assoc _ _ _))⟩)) | (go_at_call 66; (with_reducible refine (spec_l00In.calls a0_3 (-1) 5 true _ A9.out).mono ?_); rintro e w' ⟨rfl, ⟨nd, rfl⟩⟩; (try first | exact ⟨rfl, _, World.drewN_drewN _ _ _⟩ | exact ⟨rfl, _, Eq.trans (World.drewN_drewN _ _ _) (congrArg (World.drewN _) (Nat.add_assoc _ _ _))⟩)) | (go_at_call 66; (with_reducible refine (spec_l00In.calls a0_4 1 240 true _ A11.out).mono ?_); rintro e w' ⟨rfl, ⟨nd, rfl⟩⟩; (try first | exact ⟨rfl, _, World.drewN_drewN _ _ _⟩ | exact ⟨rfl, _, Eq.trans (World.drewN_drewN _ _ _) (congrArg (World.drewN _) (Nat.add_assoc _ _ _))⟩)) | (go_at_call 66; (with_reducible refine (spec_l00In.calls a0_5 0 1000 t137 _ A13.out).mono ?_); rintro e w' ⟨rfl, ⟨nd, rfl⟩⟩; (try first | exact ⟨rfl, _, World.drewN_drewN _ _ _⟩ | exact ⟨rfl, _, Eq.trans (World.drewN_drewN _ _ _) (congrArg (World.drewN _) (Nat.add_assoc _ _ _))⟩))); try go_wp2_with (first | (go_at_call 113; (with_reducible refine (spec_l01Name.calls k a0_0 true _ A2.out).mono ?_); rintro e w' ⟨rfl, ⟨nd, rfl⟩⟩; (try first | exact ⟨rfl, _, World.drewN_drewN _ _ _⟩ | exact ⟨rfl, _, Eq.trans (World.drewN_drewN _ _ _) (congrArg (World.drewN _) (Nat.add_assoc _ _ _))⟩)) | (go_at_call 120; (with_reducible refine (spec_l08Minute.calls a0_1 true _ A4.out).mono ?_); rintro e w' ⟨rfl, ⟨nd, rfl⟩⟩; (try first | exact ⟨rfl, _, World.drewN_drewN _ _ _⟩ | exact ⟨rfl, _, Eq.trans (World.drewN_drewN _ _ _) (congrArg (World.drewN _) (Nat.add_assoc _ _ _))⟩)) | (go_at_call 120; (with_reducible refine (spec_l08Minute.calls a0_2 true _ A6.out).mono ?_); rintro e w' ⟨rfl, ⟨nd, rfl⟩⟩; (try first | exact ⟨rfl, _, World.drewN_drewN _ _ _⟩ | exact ⟨rfl, _, Eq.trans (World.drewN_drewN _ _ _) (congrArg (World.drewN _) (Nat.add_assoc _ _ _))⟩)) | (go_at_call 66; (with_reducible refine (spec_l00In.calls a0_3 (-1) 5 true _ A9.out).mono ?_); rintro e w' ⟨rfl, ⟨nd, rfl⟩⟩; (try first | exact ⟨rfl, _, World.drewN_drewN _ _ _⟩ | exact ⟨rfl, _, Eq.trans (World.drewN_drewN _ _ _) (congrArg (World.drewN _) (Nat.add_assoc _ _ _))⟩)) | (go_at_call 66; (with_reducible refine (spec_l00In.calls a0_4 1 240 true _ A11.out).mono ?_); rintro e w' ⟨rfl, ⟨nd, rfl⟩⟩; (try first | exact ⟨rfl, _, World.drewN_drewN _ _ _⟩ | exact ⟨rfl, _, Eq.trans (World.drewN_drewN _ _ _) (congrArg (World.drewN _) (Nat.add_assoc _ _ _))⟩)) | (go_at_call 66; (with_reducible refine (spec_l00In.calls a0_5 0 1000 t137 _ A13.out).mono ?_); rintro e w' ⟨rfl, ⟨nd, rfl⟩⟩; (try first | exact ⟨rfl, _, World.drewN_drewN _ _ _⟩ | exact ⟨rfl, _, Eq.trans (World.drewN_drewN _ _ _) (congrArg (World.drewN _) (Nat.add_assoc _ _ _))⟩))))
       go_ret
       exact ⟨by first | rfl | (simp; done) | (simp [*]; done), by repeat (first | exact Drawn0.refl _ | apply Drawn0.step)⟩
      ·replace c12 := Bool.eq_false_iff.mpr c12
       subst c12
       have H1 : (some false) = some r := by rw [if_neg (show ¬ (false = true) by decide)] at H; exact H
       clear H
       have H := H1
       clear H1
       obtain rfl := Option.some.inj H
       have p131 : 0 ≤ (0 : Int) := (by omega)
       have q131 : 0 < ([(⟨a0_0, a0_1, a0_2, a0_3, a0_4, a0_5⟩ : S50)].length : Int) := (by simp)
       obtain ⟨ad131, e131, hx131_0, hx131_1, hx131_2, hx131_3, hx131_4, hx131_5⟩ := at_T50 HRp0.out 0 p131 q131
       replace hx131_0 : _ = (some (.string a0_0) : Option Value) := hx131_0
       replace hx131_1 : _ = (some (.int .i64 a0_1) : Option Value) := hx131_1
       replace hx131_2 : _ = (some (.int .i64 a0_2) : Option Value) := hx131_2
       replace hx131_3 : _ = (some (.int .i64 a0_3) : Option Value) := hx131_3
       replace hx131_4 : _ = (some (.int .i64 a0_4) : Option Value) := hx131_4
       replace hx131_5 : _ = (some (.int .i64 a0_5) : Option Value) := hx131_5
       obtain rfl : adp0 = ad131 := (by injection e131)
       have qi131 : (0 < [(⟨a0_0, a0_1, a0_2, a0_3, a0_4, a0_5⟩ : S50)].length) = True := eq_true (by simp)
       (try rw [show ((0 : Int)).toNat = 0 from rfl] at hx131_0)
       (try rw [show 0 * 6 = 0 from rfl] at hx131_0)
       (try rw [Addr.add_zero'] at hx131_0)
       (try rw [show ((0 : Int)).toNat = 0 from rfl] at hx131_1)
       (try rw [show 0 * 6 = 0 from rfl] at hx131_1)
       (try rw [Addr.add_zero'] at hx131_1)
       (try rw [show ((0 : Int)).toNat = 0 from rfl] at hx131_2)
       (try rw [show 0 * 6 = 0 from rfl] at hx131_2)
       (try rw [Addr.add_zero'] at hx131_2)
       (try rw [show ((0 : Int)).toNat = 0 from rfl] at hx131_3)
       (try rw [show 0 * 6 = 0 from rfl] at hx131_3)
       (try rw [Addr.add_zero'] at hx131_3)
       (try rw [show ((0 : Int)).toNat = 0 from rfl] at hx131_4)
       (try rw [show 0 * 6 = 0 from rfl] at hx131_4)
       (try rw [Addr.add_zero'] at hx131_4)
       (try rw [show ((0 : Int)).toNat = 0 from rfl] at hx131_5)
       (try rw [show 0 * 6 = 0 from rfl] at hx131_5)
       (try rw [Addr.add_zero'] at hx131_5)
       replace p131 := eq_true p131
       replace q131 := eq_true q131
       go_enter Tryd.func90, Tryd.ntmps90
       go_wp2_with (first | (go_at_call 113; (with_reducible refine (spec_l01Name.calls k a0_0 true _ A2.out).mono ?_); rintro e w' ⟨rfl, ⟨nd, rfl⟩⟩; (try first | exact ⟨rfl, _, World.drewN_drewN _ _ _⟩ | exact ⟨rfl, _, Eq.trans (World.drewN_drewN _ _ _) (congrArg (World.drewN _) (Nat.add_assoc _ _ _))⟩)) | (go_at_call 120; (with_reducible refine (spec_l08Minute.calls a0_1 true _ A4.out).mono ?_); rintro e w' ⟨rfl, ⟨nd, rfl⟩⟩; (try first | exact ⟨rfl, _, World.drewN_drewN _ _ _⟩ | exact ⟨rfl, _, Eq.trans (World.drewN_drewN _ _ _) (congrArg (World.drewN _) (Nat.add_assoc _ _ _))⟩)) | (go_at_call 120; (with_reducible refine (spec_l08Minute.calls a0_2 true _ A6.out).mono ?_); rintro e w' ⟨rfl, ⟨nd, rfl⟩⟩; (try first | exact ⟨rfl, _, World.drewN_drewN _ _ _⟩ | exact ⟨rfl, _, Eq.trans (World.drewN_drewN _ _ _) (congrArg (World.drewN _) (Nat.add_assoc _ _ _))⟩)) | (go_at_call 66; (with_reducible refine (spec_l00In.calls a0_3 (-1) 5 true _ A9.out).mono ?_); rintro e w' ⟨rfl, ⟨nd, rfl⟩⟩; (try first | exact ⟨rfl, _, World.drewN_drewN _ _ _⟩ | exact ⟨rfl, _, Eq.trans (World.drewN_drewN _ _ _) (congrArg (World.drewN _) (Nat.add_assoc _ _ _))⟩)) | (go_at_call 66; (with_reducible refine (spec_l00In.calls a0_4 1 240 false _ A11.out).mono ?_); rintro e w' ⟨rfl, ⟨nd, rfl⟩⟩; (try first | exact ⟨rfl, _, World.drewN_drewN _ _ _⟩ | exact ⟨rfl, _, Eq.trans (World.drewN_drewN _ _ _) (congrArg (World.drewN _) (Nat.add_assoc _ _ _))⟩)))
       repeat (go_quiet (first | (go_at_call 113; (with_reducible refine (spec_l01Name.calls k a0_0 true _ A2.out).mono ?_); rintro e w' ⟨rfl, ⟨nd, rfl⟩⟩; (try first | exact ⟨rfl, _, World.drewN_drewN _ _ _⟩ | exact ⟨rfl, _, Eq.trans (World.drewN_drewN _ _ _) (congrArg (World.drewN _) (Nat.add_assoc _ _ _))⟩)) | (go_at_call 120; (with_reducible refine (spec_l08Minute.calls a0_1 true _ A4.out).mono ?_); rintro e w' ⟨rfl, ⟨nd, rfl⟩⟩; (try first | exact ⟨rfl, _, World.drewN_drewN _ _ _⟩ | exact ⟨rfl, _, Eq.trans (World.drewN_drewN _ _ _) (congrArg (World.drewN _) (Nat.add_assoc _ _ _))⟩)) | (go_at_call 120; (with_reducible refine (spec_l08Minute.calls a0_2 true _ A6.out).mono ?_); rintro e w' ⟨rfl, ⟨nd, rfl⟩⟩; (try first | exact ⟨rfl, _, World.drewN_drewN _ _ _⟩ | exact ⟨rfl, _, Eq.trans (World.drewN_drewN _ _ _) (congrArg (World.drewN _) (Nat.add_assoc _ _ _))⟩)) | (go_at_call 66; (with_reducible refine (spec_l00In.calls a0_3 (-1) 5 true _ A9.out).mono ?_); rintro e w' ⟨rfl, ⟨nd, rfl⟩⟩; (try first | exact ⟨rfl, _, World.drewN_drewN _ _ _⟩ | exact ⟨rfl, _, Eq.trans (World.drewN_drewN _ _ _) (congrArg (World.drewN _) (Nat.add_assoc _ _ _))⟩)) | (go_at_call 66; (with_reducible refine (spec_l00In.calls a0_4 1 240 false _ A11.out).mono ?_); rintro e w' ⟨rfl, ⟨nd, rfl⟩⟩; (try first | exact ⟨rfl, _, World.drewN_drewN _ _ _⟩ | exact ⟨rfl, _, Eq.trans (World.drewN_drewN _ _ _) (congrArg (World.drewN _) (Nat.add_assoc _ _ _))⟩))); try go_wp2_with (first | (go_at_call 113; (with_reducible refine (spec_l01Name.calls k a0_0 true _ A2.out).mono ?_); rintro e w' ⟨rfl, ⟨nd, rfl⟩⟩; (try first | exact ⟨rfl, _, World.drewN_drewN _ _ _⟩ | exact ⟨rfl, _, Eq.trans (World.drewN_drewN _ _ _) (congrArg (World.drewN _) (Nat.add_assoc _ _ _))⟩)) | (go_at_call 120; (with_reducible refine (spec_l08Minute.calls a0_1 true _ A4.out).mono ?_); rintro e w' ⟨rfl, ⟨nd, rfl⟩⟩; (try first | exact ⟨rfl, _, World.drewN_drewN _ _ _⟩ | exact ⟨rfl, _, Eq.trans (World.drewN_drewN _ _ _) (congrArg (World.drewN _) (Nat.add_assoc _ _ _))⟩)) | (go_at_call 120; (with_reducible refine (spec_l08Minute.calls a0_2 true _ A6.out).mono ?_); rintro e w' ⟨rfl, ⟨nd, rfl⟩⟩; (try first | exact ⟨rfl, _, World.drewN_drewN _ _ _⟩ | exact ⟨rfl, _, Eq.trans (World.drewN_drewN _ _ _) (congrArg (World.drewN _) (Nat.add_assoc _ _ _))⟩)) | (go_at_call 66; (with_reducible refine (spec_l00In.calls a0_3 (-1) 5 true _ A9.out).mono ?_); rintro e w' ⟨rfl, ⟨nd, rfl⟩⟩; (try first | exact ⟨rfl, _, World.drewN_drewN _ _ _⟩ | exact ⟨rfl, _, Eq.trans (World.drewN_drewN _ _ _) (congrArg (World.drewN _) (Nat.add_assoc _ _ _))⟩)) | (go_at_call 66; (with_reducible refine (spec_l00In.calls a0_4 1 240 false _ A11.out).mono ?_); rintro e w' ⟨rfl, ⟨nd, rfl⟩⟩; (try first | exact ⟨rfl, _, World.drewN_drewN _ _ _⟩ | exact ⟨rfl, _, Eq.trans (World.drewN_drewN _ _ _) (congrArg (World.drewN _) (Nat.add_assoc _ _ _))⟩))))
       go_ret
       exact ⟨by first | rfl | (simp; done) | (simp [*]; done), by repeat (first | exact Drawn0.refl _ | apply Drawn0.step)⟩
     ·replace c10 := Bool.eq_false_iff.mpr c10
      subst c10
      have H1 : (some false) = some r := by rw [if_neg (show ¬ (false = true) by decide)] at H; exact H
      clear H
      have H := H1
      clear H1
      obtain rfl := Option.some.inj H
      have p131 : 0 ≤ (0 : Int) := (by omega)
      have q131 : 0 < ([(⟨a0_0, a0_1, a0_2, a0_3, a0_4, a0_5⟩ : S50)].length : Int) := (by simp)
      obtain ⟨ad131, e131, hx131_0, hx131_1, hx131_2, hx131_3, hx131_4, hx131_5⟩ := at_T50 HRp0.out 0 p131 q131
      replace hx131_0 : _ = (some (.string a0_0) : Option Value) := hx131_0
      replace hx131_1 : _ = (some (.int .i64 a0_1) : Option Value) := hx131_1
      replace hx131_2 : _ = (some (.int .i64 a0_2) : Option Value) := hx131_2
      replace hx131_3 : _ = (some (.int .i64 a0_3) : Option Value) := hx131_3
      replace hx131_4 : _ = (some (.int .i64 a0_4) : Option Value) := hx131_4
      replace hx131_5 : _ = (some (.int .i64 a0_5) : Option Value) := hx131_5
      obtain rfl : adp0 = ad131 := (by injection e131)
      have qi131 : (0 < [(⟨a0_0, a0_1, a0_2, a0_3, a0_4, a0_5⟩ : S50)].length) = True := eq_true (by simp)
      (try rw [show ((0 : Int)).toNat = 0 from rfl] at hx131_0)
      (try rw [show 0 * 6 = 0 from rfl] at hx131_0)
      (try rw [Addr.add_zero'] at hx131_0)
      (try rw [show ((0 : Int)).toNat = 0 from rfl] at hx131_1)
      (try rw [show 0 * 6 = 0 from rfl] at hx131_1)
      (try rw [Addr.add_zero'] at hx131_1)
      (try rw [show ((0 : Int)).toNat = 0 from rfl] at hx131_2)
      (try rw [show 0 * 6 = 0 from rfl] at hx131_2)
      (try rw [Addr.add_zero'] at hx131_2)
      (try rw [show ((0 : Int)).toNat = 0 from rfl] at hx131_3)
      (try rw [show 0 * 6 = 0 from rfl] at hx131_3)
      (try rw [Addr.add_zero'] at hx131_3)
      (try rw [show ((0 : Int)).toNat = 0 from rfl] at hx131_4)
      (try rw [show 0 * 6 = 0 from rfl] at hx131_4)
      (try rw [Addr.add_zero'] at hx131_4)
      (try rw [show ((0 : Int)).toNat = 0 from rfl] at hx131_5)
      (try rw [show 0 * 6 = 0 from rfl] at hx131_5)
      (try rw [Addr.add_zero'] at hx131_5)
      replace p131 := eq_true p131
      replace q131 := eq_true q131
      go_enter Tryd.func90, Tryd.ntmps90
      go_wp2_with (first | (go_at_call 113; (with_reducible refine (spec_l01Name.calls k a0_0 true _ A2.out).mono ?_); rintro e w' ⟨rfl, ⟨nd, rfl⟩⟩; (try first | exact ⟨rfl, _, World.drewN_drewN _ _ _⟩ | exact ⟨rfl, _, Eq.trans (World.drewN_drewN _ _ _) (congrArg (World.drewN _) (Nat.add_assoc _ _ _))⟩)) | (go_at_call 120; (with_reducible refine (spec_l08Minute.calls a0_1 true _ A4.out).mono ?_); rintro e w' ⟨rfl, ⟨nd, rfl⟩⟩; (try first | exact ⟨rfl, _, World.drewN_drewN _ _ _⟩ | exact ⟨rfl, _, Eq.trans (World.drewN_drewN _ _ _) (congrArg (World.drewN _) (Nat.add_assoc _ _ _))⟩)) | (go_at_call 120; (with_reducible refine (spec_l08Minute.calls a0_2 true _ A6.out).mono ?_); rintro e w' ⟨rfl, ⟨nd, rfl⟩⟩; (try first | exact ⟨rfl, _, World.drewN_drewN _ _ _⟩ | exact ⟨rfl, _, Eq.trans (World.drewN_drewN _ _ _) (congrArg (World.drewN _) (Nat.add_assoc _ _ _))⟩)) | (go_at_call 66; (with_reducible refine (spec_l00In.calls a0_3 (-1) 5 false _ A9.out).mono ?_); rintro e w' ⟨rfl, ⟨nd, rfl⟩⟩; (try first | exact ⟨rfl, _, World.drewN_drewN _ _ _⟩ | exact ⟨rfl, _, Eq.trans (World.drewN_drewN _ _ _) (congrArg (World.drewN _) (Nat.add_assoc _ _ _))⟩)))
      repeat (go_quiet (first | (go_at_call 113; (with_reducible refine (spec_l01Name.calls k a0_0 true _ A2.out).mono ?_); rintro e w' ⟨rfl, ⟨nd, rfl⟩⟩; (try first | exact ⟨rfl, _, World.drewN_drewN _ _ _⟩ | exact ⟨rfl, _, Eq.trans (World.drewN_drewN _ _ _) (congrArg (World.drewN _) (Nat.add_assoc _ _ _))⟩)) | (go_at_call 120; (with_reducible refine (spec_l08Minute.calls a0_1 true _ A4.out).mono ?_); rintro e w' ⟨rfl, ⟨nd, rfl⟩⟩; (try first | exact ⟨rfl, _, World.drewN_drewN _ _ _⟩ | exact ⟨rfl, _, Eq.trans (World.drewN_drewN _ _ _) (congrArg (World.drewN _) (Nat.add_assoc _ _ _))⟩)) | (go_at_call 120; (with_reducible refine (spec_l08Minute.calls a0_2 true _ A6.out).mono ?_); rintro e w' ⟨rfl, ⟨nd, rfl⟩⟩; (try first | exact ⟨rfl, _, World.drewN_drewN _ _ _⟩ | exact ⟨rfl, _, Eq.trans (World.drewN_drewN _ _ _) (congrArg (World.drewN _) (Nat.add_assoc _ _ _))⟩)) | (go_at_call 66; (with_reducible refine (spec_l00In.calls a0_3 (-1) 5 false _ A9.out).mono ?_); rintro e w' ⟨rfl, ⟨nd, rfl⟩⟩; (try first | exact ⟨rfl, _, World.drewN_drewN _ _ _⟩ | exact ⟨rfl, _, Eq.trans (World.drewN_drewN _ _ _) (congrArg (World.drewN _) (Nat.add_assoc _ _ _))⟩))); try go_wp2_with (first | (go_at_call 113; (with_reducible refine (spec_l01Name.calls k a0_0 true _ A2.out).mono ?_); rintro e w' ⟨rfl, ⟨nd, rfl⟩⟩; (try first | exact ⟨rfl, _, World.drewN_drewN _ _ _⟩ | exact ⟨rfl, _, Eq.trans (World.drewN_drewN _ _ _) (congrArg (World.drewN _) (Nat.add_assoc _ _ _))⟩)) | (go_at_call 120; (with_reducible refine (spec_l08Minute.calls a0_1 true _ A4.out).mono ?_); rintro e w' ⟨rfl, ⟨nd, rfl⟩⟩; (try first | exact ⟨rfl, _, World.drewN_drewN _ _ _⟩ | exact ⟨rfl, _, Eq.trans (World.drewN_drewN _ _ _) (congrArg (World.drewN _) (Nat.add_assoc _ _ _))⟩)) | (go_at_call 120; (with_reducible refine (spec_l08Minute.calls a0_2 true _ A6.out).mono ?_); rintro e w' ⟨rfl, ⟨nd, rfl⟩⟩; (try first | exact ⟨rfl, _, World.drewN_drewN _ _ _⟩ | exact ⟨rfl, _, Eq.trans (World.drewN_drewN _ _ _) (congrArg (World.drewN _) (Nat.add_assoc _ _ _))⟩)) | (go_at_call 66; (with_reducible refine (spec_l00In.calls a0_3 (-1) 5 false _ A9.out).mono ?_); rintro e w' ⟨rfl, ⟨nd, rfl⟩⟩; (try first | exact ⟨rfl, _, World.drewN_drewN _ _ _⟩ | exact ⟨rfl, _, Eq.trans (World.drewN_drewN _ _ _) (congrArg (World.drewN _) (Nat.add_assoc _ _ _))⟩))))
      go_ret
      exact ⟨by first | rfl | (simp; done) | (simp [*]; done), by repeat (first | exact Drawn0.refl _ | apply Drawn0.step)⟩
   ·replace c7 := Bool.eq_false_iff.mpr c7
    subst c7
    have H1 : (some false) = some r := by rw [if_neg (show ¬ (false = true) by decide)] at H; exact H
    clear H
    have H := H1
    clear H1
    obtain rfl := Option.some.inj H
    have p131 : 0 ≤ (0 : Int) := (by omega)
    have q131 : 0 < ([(⟨a0_0, a0_1, a0_2, a0_3, a0_4, a0_5⟩ : S50)].length : Int) := (by simp)
    obtain ⟨ad131, e131, hx131_0, hx131_1, hx131_2, hx131_3, hx131_4, hx131_5⟩ := at_T50 HRp0.out 0 p131 q131
    replace hx131_0 : _ = (some (.string a0_0) : Option Value) := hx131_0
    replace hx131_1 : _ = (some (.int .i64 a0_1) : Option Value) := hx131_1
    replace hx131_2 : _ = (some (.int .i64 a0_2) : Option Value) := hx131_2
    replace hx131_3 : _ = (some (.int .i64 a0_3) : Option Value) := hx131_3
    replace hx131_4 : _ = (some (.int .i64 a0_4) : Option Value) := hx131_4
    replace hx131_5 : _ = (some (.int .i64 a0_5) : Option Value) := hx131_5
    obtain rfl : adp0 = ad131 := (by injection e131)
    have qi131 : (0 < [(⟨a0_0, a0_1, a0_2, a0_3, a0_4, a0_5⟩ : S50)].length) = True := eq_true (by simp)
    (try rw [show ((0 : Int)).toNat = 0 from rfl] at hx131_0)
    (try rw [show 0 * 6 = 0 from rfl] at hx131_0)
    (try rw [Addr.add_zero'] at hx131_0)
    (try rw [show ((0 : Int)).toNat = 0 from rfl] at hx131_1)
    (try rw [show 0 * 6 = 0 from rfl] at hx131_1)
    (try rw [Addr.add_zero'] at hx131_1)
    (try rw [show ((0 : Int)).toNat = 0 from rfl] at hx131_2)
    (try rw [show 0 * 6 = 0 from rfl] at hx131_2)
    (try rw [Addr.add_zero'] at hx131_2)
    (try rw [show ((0 : Int)).toNat = 0 from rfl] at hx131_3)
    (try rw [show 0 * 6 = 0 from rfl] at hx131_3)
    (try rw [Addr.add_zero'] at hx131_3)
    (try rw [show ((0 : Int)).toNat = 0 from rfl] at hx131_4)
    (try rw [show 0 * 6 = 0 from rfl] at hx131_4)
    (try rw [Addr.add_zero'] at hx131_4)
    (try rw [show ((0 : Int)).toNat = 0 from rfl] at hx131_5)
    (try rw [show 0 * 6 = 0 from rfl] at hx131_5)
    (try rw [Addr.add_zero'] at hx131_5)
    replace p131 := eq_true p131
    replace q131 := eq_true q131
    go_enter Tryd.func90, Tryd.ntmps90
    go_wp2_with (first | (go_at_call 113; (with_reducible refine (spec_l01Name.calls k a0_0 true _ A2.out).mono ?_); rintro e w' ⟨rfl, ⟨nd, rfl⟩⟩; (try first | exact ⟨rfl, _, World.drewN_drewN _ _ _⟩ | exact ⟨rfl, _, Eq.trans (World.drewN_drewN _ _ _) (congrArg (World.drewN _) (Nat.add_assoc _ _ _))⟩)) | (go_at_call 120; (with_reducible refine (spec_l08Minute.calls a0_1 true _ A4.out).mono ?_); rintro e w' ⟨rfl, ⟨nd, rfl⟩⟩; (try first | exact ⟨rfl, _, World.drewN_drewN _ _ _⟩ | exact ⟨rfl, _, Eq.trans (World.drewN_drewN _ _ _) (congrArg (World.drewN _) (Nat.add_assoc _ _ _))⟩)) | (go_at_call 120; (with_reducible refine (spec_l08Minute.calls a0_2 false _ A6.out).mono ?_); rintro e w' ⟨rfl, ⟨nd, rfl⟩⟩; (try first | exact ⟨rfl, _, World.drewN_drewN _ _ _⟩ | exact ⟨rfl, _, Eq.trans (World.drewN_drewN _ _ _) (congrArg (World.drewN _) (Nat.add_assoc _ _ _))⟩)))
    repeat (go_quiet (first | (go_at_call 113; (with_reducible refine (spec_l01Name.calls k a0_0 true _ A2.out).mono ?_); rintro e w' ⟨rfl, ⟨nd, rfl⟩⟩; (try first | exact ⟨rfl, _, World.drewN_drewN _ _ _⟩ | exact ⟨rfl, _, Eq.trans (World.drewN_drewN _ _ _) (congrArg (World.drewN _) (Nat.add_assoc _ _ _))⟩)) | (go_at_call 120; (with_reducible refine (spec_l08Minute.calls a0_1 true _ A4.out).mono ?_); rintro e w' ⟨rfl, ⟨nd, rfl⟩⟩; (try first | exact ⟨rfl, _, World.drewN_drewN _ _ _⟩ | exact ⟨rfl, _, Eq.trans (World.drewN_drewN _ _ _) (congrArg (World.drewN _) (Nat.add_assoc _ _ _))⟩)) | (go_at_call 120; (with_reducible refine (spec_l08Minute.calls a0_2 false _ A6.out).mono ?_); rintro e w' ⟨rfl, ⟨nd, rfl⟩⟩; (try first | exact ⟨rfl, _, World.drewN_drewN _ _ _⟩ | exact ⟨rfl, _, Eq.trans (World.drewN_drewN _ _ _) (congrArg (World.drewN _) (Nat.add_assoc _ _ _))⟩))); try go_wp2_with (first | (go_at_call 113; (with_reducible refine (spec_l01Name.calls k a0_0 true _ A2.out).mono ?_); rintro e w' ⟨rfl, ⟨nd, rfl⟩⟩; (try first | exact ⟨rfl, _, World.drewN_drewN _ _ _⟩ | exact ⟨rfl, _, Eq.trans (World.drewN_drewN _ _ _) (congrArg (World.drewN _) (Nat.add_assoc _ _ _))⟩)) | (go_at_call 120; (with_reducible refine (spec_l08Minute.calls a0_1 true _ A4.out).mono ?_); rintro e w' ⟨rfl, ⟨nd, rfl⟩⟩; (try first | exact ⟨rfl, _, World.drewN_drewN _ _ _⟩ | exact ⟨rfl, _, Eq.trans (World.drewN_drewN _ _ _) (congrArg (World.drewN _) (Nat.add_assoc _ _ _))⟩)) | (go_at_call 120; (with_reducible refine (spec_l08Minute.calls a0_2 false _ A6.out).mono ?_); rintro e w' ⟨rfl, ⟨nd, rfl⟩⟩; (try first | exact ⟨rfl, _, World.drewN_drewN _ _ _⟩ | exact ⟨rfl, _, Eq.trans (World.drewN_drewN _ _ _) (congrArg (World.drewN _) (Nat.add_assoc _ _ _))⟩))))
    go_ret
    exact ⟨by first | rfl | (simp; done) | (simp [*]; done), by repeat (first | exact Drawn0.refl _ | apply Drawn0.step)⟩
  ·replace c5 := Bool.eq_false_iff.mpr c5
   subst c5
   have H1 : (some false) = some r := by rw [if_neg (show ¬ (false = true) by decide)] at H; exact H
   clear H
   have H := H1
   clear H1
   obtain rfl := Option.some.inj H
   have p131 : 0 ≤ (0 : Int) := (by omega)
   have q131 : 0 < ([(⟨a0_0, a0_1, a0_2, a0_3, a0_4, a0_5⟩ : S50)].length : Int) := (by simp)
   obtain ⟨ad131, e131, hx131_0, hx131_1, hx131_2, hx131_3, hx131_4, hx131_5⟩ := at_T50 HRp0.out 0 p131 q131
   replace hx131_0 : _ = (some (.string a0_0) : Option Value) := hx131_0
   replace hx131_1 : _ = (some (.int .i64 a0_1) : Option Value) := hx131_1
   replace hx131_2 : _ = (some (.int .i64 a0_2) : Option Value) := hx131_2
   replace hx131_3 : _ = (some (.int .i64 a0_3) : Option Value) := hx131_3
   replace hx131_4 : _ = (some (.int .i64 a0_4) : Option Value) := hx131_4
   replace hx131_5 : _ = (some (.int .i64 a0_5) : Option Value) := hx131_5
   obtain rfl : adp0 = ad131 := (by injection e131)
   have qi131 : (0 < [(⟨a0_0, a0_1, a0_2, a0_3, a0_4, a0_5⟩ : S50)].length) = True := eq_true (by simp)
   (try rw [show ((0 : Int)).toNat = 0 from rfl] at hx131_0)
   (try rw [show 0 * 6 = 0 from rfl] at hx131_0)
   (try rw [Addr.add_zero'] at hx131_0)
   (try rw [show ((0 : Int)).toNat = 0 from rfl] at hx131_1)
   (try rw [show 0 * 6 = 0 from rfl] at hx131_1)
   (try rw [Addr.add_zero'] at hx131_1)
   (try rw [show ((0 : Int)).toNat = 0 from rfl] at hx131_2)
   (try rw [show 0 * 6 = 0 from rfl] at hx131_2)
   (try rw [Addr.add_zero'] at hx131_2)
   (try rw [show ((0 : Int)).toNat = 0 from rfl] at hx131_3)
   (try rw [show 0 * 6 = 0 from rfl] at hx131_3)
   (try rw [Addr.add_zero'] at hx131_3)
   (try rw [show ((0 : Int)).toNat = 0 from rfl] at hx131_4)
   (try rw [show 0 * 6 = 0 from rfl] at hx131_4)
   (try rw [Addr.add_zero'] at hx131_4)
   (try rw [show ((0 : Int)).toNat = 0 from rfl] at hx131_5)
   (try rw [show 0 * 6 = 0 from rfl] at hx131_5)
   (try rw [Addr.add_zero'] at hx131_5)
   replace p131 := eq_true p131
   replace q131 := eq_true q131
   go_enter Tryd.func90, Tryd.ntmps90
   go_wp2_with (first | (go_at_call 113; (with_reducible refine (spec_l01Name.calls k a0_0 true _ A2.out).mono ?_); rintro e w' ⟨rfl, ⟨nd, rfl⟩⟩; (try first | exact ⟨rfl, _, World.drewN_drewN _ _ _⟩ | exact ⟨rfl, _, Eq.trans (World.drewN_drewN _ _ _) (congrArg (World.drewN _) (Nat.add_assoc _ _ _))⟩)) | (go_at_call 120; (with_reducible refine (spec_l08Minute.calls a0_1 false _ A4.out).mono ?_); rintro e w' ⟨rfl, ⟨nd, rfl⟩⟩; (try first | exact ⟨rfl, _, World.drewN_drewN _ _ _⟩ | exact ⟨rfl, _, Eq.trans (World.drewN_drewN _ _ _) (congrArg (World.drewN _) (Nat.add_assoc _ _ _))⟩)))
   repeat (go_quiet (first | (go_at_call 113; (with_reducible refine (spec_l01Name.calls k a0_0 true _ A2.out).mono ?_); rintro e w' ⟨rfl, ⟨nd, rfl⟩⟩; (try first | exact ⟨rfl, _, World.drewN_drewN _ _ _⟩ | exact ⟨rfl, _, Eq.trans (World.drewN_drewN _ _ _) (congrArg (World.drewN _) (Nat.add_assoc _ _ _))⟩)) | (go_at_call 120; (with_reducible refine (spec_l08Minute.calls a0_1 false _ A4.out).mono ?_); rintro e w' ⟨rfl, ⟨nd, rfl⟩⟩; (try first | exact ⟨rfl, _, World.drewN_drewN _ _ _⟩ | exact ⟨rfl, _, Eq.trans (World.drewN_drewN _ _ _) (congrArg (World.drewN _) (Nat.add_assoc _ _ _))⟩))); try go_wp2_with (first | (go_at_call 113; (with_reducible refine (spec_l01Name.calls k a0_0 true _ A2.out).mono ?_); rintro e w' ⟨rfl, ⟨nd, rfl⟩⟩; (try first | exact ⟨rfl, _, World.drewN_drewN _ _ _⟩ | exact ⟨rfl, _, Eq.trans (World.drewN_drewN _ _ _) (congrArg (World.drewN _) (Nat.add_assoc _ _ _))⟩)) | (go_at_call 120; (with_reducible refine (spec_l08Minute.calls a0_1 false _ A4.out).mono ?_); rintro e w' ⟨rfl, ⟨nd, rfl⟩⟩; (try first | exact ⟨rfl, _, World.drewN_drewN _ _ _⟩ | exact ⟨rfl, _, Eq.trans (World.drewN_drewN _ _ _) (congrArg (World.drewN _) (Nat.add_assoc _ _ _))⟩))))
   go_ret
   exact ⟨by first | rfl | (simp; done) | (simp [*]; done), by repeat (first | exact Drawn0.refl _ | apply Drawn0.step)⟩
 ·replace c3 := Bool.eq_false_iff.mpr c3
  subst c3
  have H1 : (some false) = some r := by rw [if_neg (show ¬ (false = true) by decide)] at H; exact H
  clear H
  have H := H1
  clear H1
  obtain rfl := Option.some.inj H
  have p131 : 0 ≤ (0 : Int) := (by omega)
  have q131 : 0 < ([(⟨a0_0, a0_1, a0_2, a0_3, a0_4, a0_5⟩ : S50)].length : Int) := (by simp)
  obtain ⟨ad131, e131, hx131_0, hx131_1, hx131_2, hx131_3, hx131_4, hx131_5⟩ := at_T50 HRp0.out 0 p131 q131
  replace hx131_0 : _ = (some (.string a0_0) : Option Value) := hx131_0
  replace hx131_1 : _ = (some (.int .i64 a0_1) : Option Value) := hx131_1
  replace hx131_2 : _ = (some (.int .i64 a0_2) : Option Value) := hx131_2
  replace hx131_3 : _ = (some (.int .i64 a0_3) : Option Value) := hx131_3
  replace hx131_4 : _ = (some (.int .i64 a0_4) : Option Value) := hx131_4
  replace hx131_5 : _ = (some (.int .i64 a0_5) : Option Value) := hx131_5
  obtain rfl : adp0 = ad131 := (by injection e131)
  have qi131 : (0 < [(⟨a0_0, a0_1, a0_2, a0_3, a0_4, a0_5⟩ : S50)].length) = True := eq_true (by simp)
  (try rw [show ((0 : Int)).toNat = 0 from rfl] at hx131_0)
  (try rw [show 0 * 6 = 0 from rfl] at hx131_0)
  (try rw [Addr.add_zero'] at hx131_0)
  (try rw [show ((0 : Int)).toNat = 0 from rfl] at hx131_1)
  (try rw [show 0 * 6 = 0 from rfl] at hx131_1)
  (try rw [Addr.add_zero'] at hx131_1)
  (try rw [show ((0 : Int)).toNat = 0 from rfl] at hx131_2)
  (try rw [show 0 * 6 = 0 from rfl] at hx131_2)
  (try rw [Addr.add_zero'] at hx131_2)
  (try rw [show ((0 : Int)).toNat = 0 from rfl] at hx131_3)
  (try rw [show 0 * 6 = 0 from rfl] at hx131_3)
  (try rw [Addr.add_zero'] at hx131_3)
  (try rw [show ((0 : Int)).toNat = 0 from rfl] at hx131_4)
  (try rw [show 0 * 6 = 0 from rfl] at hx131_4)
  (try rw [Addr.add_zero'] at hx131_4)
  (try rw [show ((0 : Int)).toNat = 0 from rfl] at hx131_5)
  (try rw [show 0 * 6 = 0 from rfl] at hx131_5)
  (try rw [Addr.add_zero'] at hx131_5)
  replace p131 := eq_true p131
  replace q131 := eq_true q131
  go_enter Tryd.func90, Tryd.ntmps90
  go_wp2_with (first | (go_at_call 113; (with_reducible refine (spec_l01Name.calls k a0_0 false _ A2.out).mono ?_); rintro e w' ⟨rfl, ⟨nd, rfl⟩⟩; (try first | exact ⟨rfl, _, World.drewN_drewN _ _ _⟩ | exact ⟨rfl, _, Eq.trans (World.drewN_drewN _ _ _) (congrArg (World.drewN _) (Nat.add_assoc _ _ _))⟩)))
  repeat (go_quiet (first | (go_at_call 113; (with_reducible refine (spec_l01Name.calls k a0_0 false _ A2.out).mono ?_); rintro e w' ⟨rfl, ⟨nd, rfl⟩⟩; (try first | exact ⟨rfl, _, World.drewN_drewN _ _ _⟩ | exact ⟨rfl, _, Eq.trans (World.drewN_drewN _ _ _) (congrArg (World.drewN _) (Nat.add_assoc _ _ _))⟩))); try go_wp2_with (first | (go_at_call 113; (with_reducible refine (spec_l01Name.calls k a0_0 false _ A2.out).mono ?_); rintro e w' ⟨rfl, ⟨nd, rfl⟩⟩; (try first | exact ⟨rfl, _, World.drewN_drewN _ _ _⟩ | exact ⟨rfl, _, Eq.trans (World.drewN_drewN _ _ _) (congrArg (World.drewN _) (Nat.add_assoc _ _ _))⟩))))
  go_ret
  exact ⟨by first | rfl | (simp; done) | (simp [*]; done), by repeat (first | exact Drawn0.refl _ | apply Drawn0.step)⟩

end Go.Proofs.YtlmeijlandogaaaDoor.R
-- shrunk
-- tight
