/- What functions of the given program compute, as plain Lean functions, and that the code comes to just that; by a program of this session over the kit's print. No condition. -/
import Derived.Test.YtijbhcalknfijaaM6x0
import Derived.Test.YtijbhcalknfijaaM6x6
import Derived.Test.YtijbhcalknfijaaM6x10
import Derived.Test.YtijbhcalknfijaaM6x11
namespace Go.Proofs.Ytijbhcalknfijaa.M6
open Go.RowKit Go.Proofs.YtijbhcalknfijaaW.PrintWords Go.Proofs.YtijbhcalknfijaaW.PrintLast Go.Proofs.YtijbhcalknfijaaW.PrintMore
open Go.Proofs.YtijbhcalknfijaaW.PrintWords renaming gate_callee → gC
open Go.Proofs.YtijbhcalknfijaaW.PrintLast renaming i64_w → iW, i32_w → jW
open Go.Proofs.YtijbhcalknfijaaW.PrintWords.Kd renaming C_alloc → cA, C_drewN → cN, C_drew → cD
open List renaming setIfInBounds_toArray → sI, set_cons_zero → sZ, set_cons_succ → sS
attribute [local go_sem] max2_int min2_int max_two min_two max_three min_three max_four min_four   -- for this text's walks alone
set_option linter.unusedVariables false
set_option linter.unusedSimpArgs false

/-! ### spec_l05Reason: function 121 -/
mutual
def spec_l05Reason.j0 : Nat → Int → Int → Int → Int → Bool → ByteArray → List Int → List Int → Int → Int → List (List Int) → Option (Int)
 | 0, _, _, _, _, _, _, _, _, _, _, _ => none
 | k + 1, x1, x2, x7, x8, x23, x1000, x1001, x1002, x1003, x1004, x1005 => if x23 = true then (some 1) else ((spec_l00Max.f (wrap64 (x1 - x2)) (wrap64 (x2 - x1))).bind fun t164 => (if t164 > 12 then (some 2) else (if x2 > x1 then ((spec_l00Has.f k x1001 x8).bind fun t166 => (spec_l05Reason.j1 k x1 x2 x7 x8 (!t166) x1000 x1001 x1002 x1003 x1004 x1005)) else (spec_l05Reason.j1 k x1 x2 x7 x8 false x1000 x1001 x1002 x1003 x1004 x1005))))
def spec_l05Reason.j1 : Nat → Int → Int → Int → Int → Bool → ByteArray → List Int → List Int → Int → Int → List (List Int) → Option (Int)
 | 0, _, _, _, _, _, _, _, _, _, _, _ => none
 | k + 1, x1, x2, x7, x8, x43, x1000, x1001, x1002, x1003, x1004, x1005 => if x43 = true then (some 3) else (if x2 < x1 then ((spec_l00Has.f k x1002 x8).bind fun t168 => (spec_l05Reason.j2 k x7 x8 (!t168) x1000 x1001 x1002 x1003 x1004 x1005)) else (spec_l05Reason.j2 k x7 x8 false x1000 x1001 x1002 x1003 x1004 x1005))
def spec_l05Reason.j2 : Nat → Int → Int → Bool → ByteArray → List Int → List Int → Int → Int → List (List Int) → Option (Int)
 | 0, _, _, _, _, _, _, _, _, _ => none
 | k + 1, x7, x8, x55, x1000, x1001, x1002, x1003, x1004, x1005 => if x55 = true then (some 4) else (spec_l05Reason.l0 k x7 x8 0 x1000 x1001 x1002 x1003 x1004 x1005)
def spec_l05Reason.l0 : Nat → Int → Int → Int → ByteArray → List Int → List Int → Int → Int → List (List Int) → Option (Int)
 | 0, _, _, _, _, _, _, _, _, _ => none
 | k + 1, x7, x8, x9, x1000, x1001, x1002, x1003, x1004, x1005 => if x9 < (x1005.length : Int) then (if 0 ≤ x9 then (if 0 < ((rd_L1 x1005 x9).length : Int) then (if (rd (rd_L1 x1005 x9) 0) = x7 then (if 1 < ((rd_L1 x1005 x9).length : Int) then (if (rd (rd_L1 x1005 x9) 1) = x8 then (some 5) else (spec_l05Reason.l0 k x7 x8 (wrap64 (x9 + 1)) x1000 x1001 x1002 x1003 x1004 x1005)) else (none)) else (spec_l05Reason.l0 k x7 x8 (wrap64 (x9 + 1)) x1000 x1001 x1002 x1003 x1004 x1005)) else (none)) else (none)) else (some 0)
end
def spec_l05Reason.f (k : Nat) (a0_0 : ByteArray) (l0_1 : List Int) (l0_2 : List Int) (a0_3 : Int) (a0_4 : Int) (l0_5 : List (List Int)) (a1 : Int) (a2 : Int) : Option (Int) := (spec_l03Tone.f a1).bind fun t160 => ((spec_l03Tone.f a2).bind fun t161 => ((spec_l05Tone.f k a0_0 l0_1 l0_2 a0_3 a0_4 l0_5 t160).bind fun t162 => (if t162 = true then ((spec_l05Tone.f k a0_0 l0_1 l0_2 a0_3 a0_4 l0_5 t161).bind fun t163 => (spec_l05Reason.j0 k a1 a2 t160 t161 (!t163) a0_0 l0_1 l0_2 a0_3 a0_4 l0_5)) else (spec_l05Reason.j0 k a1 a2 t160 t161 true a0_0 l0_1 l0_2 a0_3 a0_4 l0_5))))
theorem spec_l05Reason.mono_l : ∀ k, (∀ y0 y1 y2 y3 y4 y5 y6 y7 y8 y9 y10, LeO (spec_l05Reason.j0 k y0 y1 y2 y3 y4 y5 y6 y7 y8 y9 y10) (spec_l05Reason.j0 (k + 1) y0 y1 y2 y3 y4 y5 y6 y7 y8 y9 y10)) ∧ (∀ y0 y1 y2 y3 y4 y5 y6 y7 y8 y9 y10, LeO (spec_l05Reason.j1 k y0 y1 y2 y3 y4 y5 y6 y7 y8 y9 y10) (spec_l05Reason.j1 (k + 1) y0 y1 y2 y3 y4 y5 y6 y7 y8 y9 y10)) ∧ (∀ y0 y1 y2 y3 y4 y5 y6 y7 y8, LeO (spec_l05Reason.j2 k y0 y1 y2 y3 y4 y5 y6 y7 y8) (spec_l05Reason.j2 (k + 1) y0 y1 y2 y3 y4 y5 y6 y7 y8)) ∧ (∀ y0 y1 y2 y3 y4 y5 y6 y7 y8, LeO (spec_l05Reason.l0 k y0 y1 y2 y3 y4 y5 y6 y7 y8) (spec_l05Reason.l0 (k + 1) y0 y1 y2 y3 y4 y5 y6 y7 y8))
 | 0 => ⟨fun _ _ _ _ _ _ _ _ _ _ _ r h => by simp [spec_l05Reason.j0] at h, fun _ _ _ _ _ _ _ _ _ _ _ r h => by simp [spec_l05Reason.j1] at h, fun _ _ _ _ _ _ _ _ _ r h => by simp [spec_l05Reason.j2] at h, fun _ _ _ _ _ _ _ _ _ r h => by simp [spec_l05Reason.l0] at h⟩
 | k + 1 => by
  obtain ⟨ih0, ih1, ih2, ih3⟩ := spec_l05Reason.mono_l k
  refine ⟨?_, ?_, ?_, ?_⟩
  ·intro y0 y1 y2 y3 y4 y5 y6 y7 y8 y9 y10
   unfold spec_l05Reason.j0
   repeat' first
   | (with_reducible exact ih0 _ _ _ _ _ _ _ _ _ _ _)
   | (with_reducible exact ih1 _ _ _ _ _ _ _ _ _ _ _)
   | (with_reducible exact ih2 _ _ _ _ _ _ _ _ _)
   | (with_reducible exact ih3 _ _ _ _ _ _ _ _ _)
   | (with_reducible exact spec_l00Has.mono _ _ _)
   | (with_reducible exact spec_l05Tone.mono _ _ _ _ _ _ _ _)
   | (with_reducible exact LeO.refl _)
   | (with_reducible exact LeO.none _)
   | (with_reducible refine LeO.ite ?_ ?_)
   | (with_reducible refine LeO.bind ?_ (fun _ => ?_))
   | exact ih0 _ _ _ _ _ _ _ _ _ _ _
   | exact ih1 _ _ _ _ _ _ _ _ _ _ _
   | exact ih2 _ _ _ _ _ _ _ _ _
   | exact ih3 _ _ _ _ _ _ _ _ _
   | exact spec_l00Has.mono _ _ _
   | exact spec_l05Tone.mono _ _ _ _ _ _ _ _
   | exact LeO.none _
   | refine LeO.ite ?_ ?_
   | refine LeO.bind ?_ (fun _ => ?_)
  ·intro y0 y1 y2 y3 y4 y5 y6 y7 y8 y9 y10
   unfold spec_l05Reason.j1
   repeat' first
   | (with_reducible exact ih0 _ _ _ _ _ _ _ _ _ _ _)
   | (with_reducible exact ih1 _ _ _ _ _ _ _ _ _ _ _)
   | (with_reducible exact ih2 _ _ _ _ _ _ _ _ _)
   | (with_reducible exact ih3 _ _ _ _ _ _ _ _ _)
   | (with_reducible exact spec_l00Has.mono _ _ _)
   | (with_reducible exact spec_l05Tone.mono _ _ _ _ _ _ _ _)
   | (with_reducible exact LeO.refl _)
   | (with_reducible exact LeO.none _)
   | (with_reducible refine LeO.ite ?_ ?_)
   | (with_reducible refine LeO.bind ?_ (fun _ => ?_))
   | exact ih0 _ _ _ _ _ _ _ _ _ _ _
   | exact ih1 _ _ _ _ _ _ _ _ _ _ _
   | exact ih2 _ _ _ _ _ _ _ _ _
   | exact ih3 _ _ _ _ _ _ _ _ _
   | exact spec_l00Has.mono _ _ _
   | exact spec_l05Tone.mono _ _ _ _ _ _ _ _
   | exact LeO.none _
   | refine LeO.ite ?_ ?_
   | refine LeO.bind ?_ (fun _ => ?_)
  ·intro y0 y1 y2 y3 y4 y5 y6 y7 y8
   unfold spec_l05Reason.j2
   repeat' first
   | (with_reducible exact ih0 _ _ _ _ _ _ _ _ _ _ _)
   | (with_reducible exact ih1 _ _ _ _ _ _ _ _ _ _ _)
   | (with_reducible exact ih2 _ _ _ _ _ _ _ _ _)
   | (with_reducible exact ih3 _ _ _ _ _ _ _ _ _)
   | (with_reducible exact spec_l00Has.mono _ _ _)
   | (with_reducible exact spec_l05Tone.mono _ _ _ _ _ _ _ _)
   | (with_reducible exact LeO.refl _)
   | (with_reducible exact LeO.none _)
   | (with_reducible refine LeO.ite ?_ ?_)
   | (with_reducible refine LeO.bind ?_ (fun _ => ?_))
   | exact ih0 _ _ _ _ _ _ _ _ _ _ _
   | exact ih1 _ _ _ _ _ _ _ _ _ _ _
   | exact ih2 _ _ _ _ _ _ _ _ _
   | exact ih3 _ _ _ _ _ _ _ _ _
   | exact spec_l00Has.mono _ _ _
   | exact spec_l05Tone.mono _ _ _ _ _ _ _ _
   | exact LeO.none _
   | refine LeO.ite ?_ ?_
   | refine LeO.bind ?_ (fun _ => ?_)
  ·intro y0 y1 y2 y3 y4 y5 y6 y7 y8
   unfold spec_l05Reason.l0
   repeat' first
   | (with_reducible exact ih0 _ _ _ _ _ _ _ _ _ _ _)
   | (with_reducible exact ih1 _ _ _ _ _ _ _ _ _ _ _)
   | (with_reducible exact ih2 _ _ _ _ _ _ _ _ _)
   | (with_reducible exact ih3 _ _ _ _ _ _ _ _ _)
   | (with_reducible exact spec_l00Has.mono _ _ _)
   | (with_reducible exact spec_l05Tone.mono _ _ _ _ _ _ _ _)
   | (with_reducible exact LeO.refl _)
   | (with_reducible exact LeO.none _)
   | (with_reducible refine LeO.ite ?_ ?_)
   | (with_reducible refine LeO.bind ?_ (fun _ => ?_))
   | exact ih0 _ _ _ _ _ _ _ _ _ _ _
   | exact ih1 _ _ _ _ _ _ _ _ _ _ _
   | exact ih2 _ _ _ _ _ _ _ _ _
   | exact ih3 _ _ _ _ _ _ _ _ _
   | exact spec_l00Has.mono _ _ _
   | exact spec_l05Tone.mono _ _ _ _ _ _ _ _
   | exact LeO.none _
   | refine LeO.ite ?_ ?_
   | refine LeO.bind ?_ (fun _ => ?_)
theorem spec_l05Reason.mono : ∀ a0 a1 a2 a3 a4 a5 a6 a7 k, LeO (spec_l05Reason.f k a0 a1 a2 a3 a4 a5 a6 a7) (spec_l05Reason.f (k + 1) a0 a1 a2 a3 a4 a5 a6 a7) := by
 intro a0 a1 a2 a3 a4 a5 a6 a7 k
 obtain ⟨ih0, ih1, ih2, ih3⟩ := spec_l05Reason.mono_l k
 unfold spec_l05Reason.f
 repeat' first
   | (with_reducible exact ih0 _ _ _ _ _ _ _ _ _ _ _)
   | (with_reducible exact ih1 _ _ _ _ _ _ _ _ _ _ _)
   | (with_reducible exact ih2 _ _ _ _ _ _ _ _ _)
   | (with_reducible exact ih3 _ _ _ _ _ _ _ _ _)
   | (with_reducible exact spec_l00Has.mono _ _ _)
   | (with_reducible exact spec_l05Tone.mono _ _ _ _ _ _ _ _)
   | (with_reducible exact LeO.refl _)
   | (with_reducible exact LeO.none _)
   | (with_reducible refine LeO.ite ?_ ?_)
   | (with_reducible refine LeO.bind ?_ (fun _ => ?_))
   | exact ih0 _ _ _ _ _ _ _ _ _ _ _
   | exact ih1 _ _ _ _ _ _ _ _ _ _ _
   | exact ih2 _ _ _ _ _ _ _ _ _
   | exact ih3 _ _ _ _ _ _ _ _ _
   | exact spec_l00Has.mono _ _ _
   | exact spec_l05Tone.mono _ _ _ _ _ _ _ _
   | exact LeO.none _
   | refine LeO.ite ?_ ?_
   | refine LeO.bind ?_ (fun _ => ?_)
set_option maxHeartbeats 8000000 in
set_option maxRecDepth 100000 in
theorem spec_l05Reason.calls (k : Nat) (adp0 : Addr) (a0_0 : ByteArray) (l0_1 : List Int) (l0_2 : List Int) (a0_3 : Int) (a0_4 : Int) (l0_5 : List (List Int)) (a1 : Int) (a2 : Int) (r : Int) (w : World) (hp0 : Kd.C k58 w (some adp0) 1 [(⟨a0_0, l0_1, l0_2, a0_3, a0_4, l0_5⟩ : S58)]) (h : spec_l05Reason.f k a0_0 l0_1 l0_2 a0_3 a0_4 l0_5 a1 a2 = some r) :
  Calls Try.prog 121 #[.pointer (some adp0), .int .i64 a1, .int .i64 a2] w fun e w' => e = .returned (.int .i64 r) ∧ Drawn0 w w' := by
 have HRp0 := Aside0.mk hp0
 clear hp0
 have H : ((spec_l03Tone.f a1).bind fun t160 => ((spec_l03Tone.f a2).bind fun t161 => ((spec_l05Tone.f k a0_0 l0_1 l0_2 a0_3 a0_4 l0_5 t160).bind fun t162 => (if t162 = true then ((spec_l05Tone.f k a0_0 l0_1 l0_2 a0_3 a0_4 l0_5 t161).bind fun t163 => (spec_l05Reason.j0 k a1 a2 t160 t161 (!t163) a0_0 l0_1 l0_2 a0_3 a0_4 l0_5)) else (spec_l05Reason.j0 k a1 a2 t160 t161 true a0_0 l0_1 l0_2 a0_3 a0_4 l0_5))))) = some r := h
 clear h
 replace H := Option.bind_eq_some_iff.mp H
 obtain ⟨t160, A40, H⟩ := H
 replace H : ((spec_l03Tone.f a2).bind fun t161 => ((spec_l05Tone.f k a0_0 l0_1 l0_2 a0_3 a0_4 l0_5 t160).bind fun t162 => (if t162 = true then ((spec_l05Tone.f k a0_0 l0_1 l0_2 a0_3 a0_4 l0_5 t161).bind fun t163 => (spec_l05Reason.j0 k a1 a2 t160 t161 (!t163) a0_0 l0_1 l0_2 a0_3 a0_4 l0_5)) else (spec_l05Reason.j0 k a1 a2 t160 t161 true a0_0 l0_1 l0_2 a0_3 a0_4 l0_5)))) = some r := H
 have A4 := Aside0.mk A40
 clear A40
 replace H := Option.bind_eq_some_iff.mp H
 obtain ⟨t161, A50, H⟩ := H
 replace H : ((spec_l05Tone.f k a0_0 l0_1 l0_2 a0_3 a0_4 l0_5 t160).bind fun t162 => (if t162 = true then ((spec_l05Tone.f k a0_0 l0_1 l0_2 a0_3 a0_4 l0_5 t161).bind fun t163 => (spec_l05Reason.j0 k a1 a2 t160 t161 (!t163) a0_0 l0_1 l0_2 a0_3 a0_4 l0_5)) else (spec_l05Reason.j0 k a1 a2 t160 t161 true a0_0 l0_1 l0_2 a0_3 a0_4 l0_5))) = some r := H
 have A5 := Aside0.mk A50
 clear A50
 have HC6 := Aside0.mk H
 clear H
 go_enter Try.func121, Try.ntmps121
 go_upto_region 3 with (first | ((with_reducible refine gC (f := 120) rfl ?_); refine goesL_ (some 11) rfl rfl Try.func120 (by kernel_rfl) rfl #[.int .i64 a1] rfl (by (try simp only [List.map_toArray, List.map_cons, List.map_nil]); first | done | rfl | (simp only [List.length_drop, List.length_take]; rfl)) ?_; (with_reducible refine (spec_l03Tone.calls a1 t160 _ A4.out).mono ?_); rintro e w' ⟨rfl, ⟨nd, rfl⟩⟩; refine ⟨_, rfl, ?_⟩) | ((with_reducible refine gC (f := 120) rfl ?_); refine goesL_ (some 13) rfl rfl Try.func120 (by kernel_rfl) rfl #[.int .i64 a2] rfl (by (try simp only [List.map_toArray, List.map_cons, List.map_nil]); first | done | rfl | (simp only [List.length_drop, List.length_take]; rfl)) ?_; (with_reducible refine (spec_l03Tone.calls a2 t161 _ A5.out).mono ?_); rintro e w' ⟨rfl, ⟨nd, rfl⟩⟩; refine ⟨_, rfl, ?_⟩))
 (try simp only [Act.put, sI, sZ, sS])
 go_cut [23] (fun v23 wc => ∃ (kq : Nat) (x23_5 : Bool), v23 = .bool x23_5 ∧ Aside0 (spec_l05Reason.j0 kq a1 a2 t160 t161 x23_5 a0_0 l0_1 l0_2 a0_3 a0_4 l0_5 = some r) ∧ Aside0 (kq ≤ k) ∧ Drawn0 w wc)
 case first =>
  have H := HC6.out
  clear HC6
  replace H := Option.bind_eq_some_iff.mp H
  obtain ⟨t162, A70, H⟩ := H
  replace H : (if t162 = true then ((spec_l05Tone.f k a0_0 l0_1 l0_2 a0_3 a0_4 l0_5 t161).bind fun t163 => (spec_l05Reason.j0 k a1 a2 t160 t161 (!t163) a0_0 l0_1 l0_2 a0_3 a0_4 l0_5)) else (spec_l05Reason.j0 k a1 a2 t160 t161 true a0_0 l0_1 l0_2 a0_3 a0_4 l0_5)) = some r := H
  have A7 := Aside0.mk A70
  clear A70
  by_cases c8 : t162 = true
  ·subst c8
   have H1 : ((spec_l05Tone.f k a0_0 l0_1 l0_2 a0_3 a0_4 l0_5 t161).bind fun t163 => (spec_l05Reason.j0 k a1 a2 t160 t161 (!t163) a0_0 l0_1 l0_2 a0_3 a0_4 l0_5)) = some r := by rw [if_pos rfl] at H; exact H
   clear H
   have H := H1
   clear H1
   replace H := Option.bind_eq_some_iff.mp H
   obtain ⟨t163, A90, H⟩ := H
   replace H : (spec_l05Reason.j0 k a1 a2 t160 t161 (!t163) a0_0 l0_1 l0_2 a0_3 a0_4 l0_5) = some r := H
   have A9 := Aside0.mk A90
   clear A90
   have H' := Aside0.mk H
   clear H
   go_wp2_with (first | ((with_reducible refine gC (f := 111) rfl ?_); refine goesL_ (some 16) rfl rfl Try.func111 (by kernel_rfl) rfl #[.pointer (some adp0), .int .i64 t160] rfl (by (try simp only [List.map_toArray, List.map_cons, List.map_nil]); first | done | rfl | (simp only [List.length_drop, List.length_take]; rfl)) ?_; (with_reducible refine (spec_l05Tone.calls k adp0 a0_0 l0_1 l0_2 a0_3 a0_4 l0_5 t160 true _ ?side1 A7.out).mono ?_); (case side1 => repeat (first | exact HRp0.out | (with_reducible refine cA ?_ _) | (with_reducible refine cN ?_ _) | (with_reducible refine cD ?_))); rintro e w' ⟨rfl, ⟨nd, rfl⟩⟩; refine ⟨_, rfl, ?_⟩) | (go_at_call 111; (with_reducible refine (spec_l05Tone.calls k adp0 a0_0 l0_1 l0_2 a0_3 a0_4 l0_5 t161 t163 _ ?side1 A9.out).mono ?_); (case side1 => repeat (first | exact HRp0.out | (with_reducible refine cA ?_ _) | (with_reducible refine cN ?_ _) | (with_reducible refine cD ?_))); rintro e w' ⟨rfl, ⟨nd, rfl⟩⟩))
   go_meet
   case rel => exact ⟨_, (!t163), (by first | rfl | (simp; done) | (simp [*]; done)), H', ⟨by first | omega | exact Nat.le_refl _⟩, by repeat (first | exact Drawn0.refl _ | apply Drawn0.step)⟩
  ·replace c8 := Bool.eq_false_iff.mpr c8
   subst c8
   have H1 : (spec_l05Reason.j0 k a1 a2 t160 t161 true a0_0 l0_1 l0_2 a0_3 a0_4 l0_5) = some r := by rw [if_neg (show ¬ (false = true) by decide)] at H; exact H
   clear H
   have H := H1
   clear H1
   have H' := Aside0.mk H
   clear H
   go_wp2_with (first | ((with_reducible refine gC (f := 111) rfl ?_); refine goesL_ (some 16) rfl rfl Try.func111 (by kernel_rfl) rfl #[.pointer (some adp0), .int .i64 t160] rfl (by (try simp only [List.map_toArray, List.map_cons, List.map_nil]); first | done | rfl | (simp only [List.length_drop, List.length_take]; rfl)) ?_; (with_reducible refine (spec_l05Tone.calls k adp0 a0_0 l0_1 l0_2 a0_3 a0_4 l0_5 t160 false _ ?side1 A7.out).mono ?_); (case side1 => repeat (first | exact HRp0.out | (with_reducible refine cA ?_ _) | (with_reducible refine cN ?_ _) | (with_reducible refine cD ?_))); rintro e w' ⟨rfl, ⟨nd, rfl⟩⟩; refine ⟨_, rfl, ?_⟩))
   go_meet
   case rel => exact ⟨_, (true), (by first | rfl | (simp; done) | (simp [*]; done)), H', ⟨by first | omega | exact Nat.le_refl _⟩, by repeat (first | exact Drawn0.refl _ | apply Drawn0.step)⟩
 case rest =>
  clear HC6
  try clear c1
  try clear p2
  try clear c8
  obtain ⟨kq, x23_5, rfl, HA, HJ5, ⟨mc5, rfl⟩⟩ := hcut
  cases kq with
  | zero => exact absurd HA.out (by simp [spec_l05Reason.j0])
  | succ kj5 =>
   have H := HA.out
   clear HA
   simp only [spec_l05Reason.j0] at H
   by_cases c10 : x23_5 = true
   ·subst c10
    have H1 : (some 1) = some r := by rw [if_pos rfl] at H; exact H
    clear H
    have H := H1
    clear H1
    obtain rfl := Option.some.inj H
    go_wp2
    go_ret
    exact ⟨by first | rfl | (simp; done) | (simp [*]; done), by repeat (first | exact Drawn0.refl _ | apply Drawn0.step)⟩
   ·replace c10 := Bool.eq_false_iff.mpr c10
    subst c10
    have H1 : ((spec_l00Max.f (wrap64 (a1 - a2)) (wrap64 (a2 - a1))).bind fun t164 => (if t164 > 12 then (some 2) else (if a2 > a1 then ((spec_l00Has.f kj5 l0_1 t161).bind fun t166 => (spec_l05Reason.j1 kj5 a1 a2 t160 t161 (!t166) a0_0 l0_1 l0_2 a0_3 a0_4 l0_5)) else (spec_l05Reason.j1 kj5 a1 a2 t160 t161 false a0_0 l0_1 l0_2 a0_3 a0_4 l0_5)))) = some r := by rw [if_neg (show ¬ (false = true) by decide)] at H; exact H
    clear H
    have H := H1
    clear H1
    replace H := Option.bind_eq_some_iff.mp H
    obtain ⟨t164, A110, H⟩ := H
    replace H : (if t164 > 12 then (some 2) else (if a2 > a1 then ((spec_l00Has.f kj5 l0_1 t161).bind fun t166 => (spec_l05Reason.j1 kj5 a1 a2 t160 t161 (!t166) a0_0 l0_1 l0_2 a0_3 a0_4 l0_5)) else (spec_l05Reason.j1 kj5 a1 a2 t160 t161 false a0_0 l0_1 l0_2 a0_3 a0_4 l0_5))) = some r := H
    have A11 := Aside0.mk A110
    clear A110
    by_cases c12 : t164 > 12
    ·rw [if_pos c12] at H
     have c12b0 : decide (12 < t164) = true := decide_eq_true c12
     clear c12
     obtain rfl := Option.some.inj H
     go_wp2_with (first | ((with_reducible refine gC (f := 132) rfl ?_); refine goesL_ (some 30) rfl rfl Try.func132 (by kernel_rfl) rfl #[.int .i64 (wrap64 (a1 - a2)), .int .i64 (wrap64 (a2 - a1))] rfl (by (try simp only [List.map_toArray, List.map_cons, List.map_nil]); first | done | rfl | (simp only [List.length_drop, List.length_take]; rfl)) ?_; (with_reducible refine (spec_l00Max.calls (wrap64 (a1 - a2)) (wrap64 (a2 - a1)) t164 _ A11.out).mono ?_); rintro e w' ⟨rfl, ⟨nd, rfl⟩⟩; refine ⟨_, rfl, ?_⟩))
     go_ret
     exact ⟨by first | rfl | (simp; done) | (simp [*]; done), by repeat (first | exact Drawn0.refl _ | apply Drawn0.step)⟩
    ·rw [if_neg c12] at H
     have c12b0 : decide (12 < t164) = false := decide_eq_false c12
     clear c12
     have HC13 := Aside0.mk H
     clear H
     go_upto_region 7 with (first | ((with_reducible refine gC (f := 132) rfl ?_); refine goesL_ (some 30) rfl rfl Try.func132 (by kernel_rfl) rfl #[.int .i64 (wrap64 (a1 - a2)), .int .i64 (wrap64 (a2 - a1))] rfl (by (try simp only [List.map_toArray, List.map_cons, List.map_nil]); first | done | rfl | (simp only [List.length_drop, List.length_take]; rfl)) ?_; (with_reducible refine (spec_l00Max.calls (wrap64 (a1 - a2)) (wrap64 (a2 - a1)) t164 _ A11.out).mono ?_); rintro e w' ⟨rfl, ⟨nd, rfl⟩⟩; refine ⟨_, rfl, ?_⟩))
     (try simp only [Act.put, sI, sZ, sS])
     go_cut [43] (fun v43 wc => ∃ (kq : Nat) (x43_12 : Bool), v43 = .bool x43_12 ∧ Aside0 (spec_l05Reason.j1 kq a1 a2 t160 t161 x43_12 a0_0 l0_1 l0_2 a0_3 a0_4 l0_5 = some r) ∧ Aside0 (kq ≤ kj5) ∧ Drawn0 w wc)
     case first =>
      have H := HC13.out
      clear HC13
      by_cases c14 : a2 > a1
      ·rw [if_pos c14] at H
       have c14b0 : decide (a1 < a2) = true := decide_eq_true c14
       clear c14
       (first | rw [c14b0] | (simp only [iW, jW]; rw [c14b0]) | skip)
       replace H := Option.bind_eq_some_iff.mp H
       obtain ⟨t166, A150, H⟩ := H
       replace H : (spec_l05Reason.j1 kj5 a1 a2 t160 t161 (!t166) a0_0 l0_1 l0_2 a0_3 a0_4 l0_5) = some r := H
       have A15 := Aside0.mk A150
       clear A150
       have H' := Aside0.mk H
       clear H
       have p165 : 0 ≤ (0 : Int) := (by omega)
       have q165 : 0 < ([(⟨a0_0, l0_1, l0_2, a0_3, a0_4, l0_5⟩ : S58)].length : Int) := (by simp)
       obtain ⟨ad165, A165_1, c165_1, A165_2, c165_2, A165_5, c165_5, e165, hx165_0, hx165_1, hx165_2, hx165_3, hx165_4, hx165_5, hl165_1, hi165_1, hl165_2, hi165_2, hl165_5, hi165_5⟩ := at_T58 HRp0.out 0 p165 q165
       replace hx165_0 : _ = (some (.string a0_0) : Option Value) := hx165_0
       replace hx165_1 : _ = (some (.slice A165_1 l0_1.length c165_1) : Option Value) := hx165_1
       replace hi165_1 : Kd.C (Kd.int .i64) _ _ l0_1.length l0_1 := hi165_1
       replace hl165_1 : l0_1.length ≤ _ := hl165_1
       replace hx165_2 : _ = (some (.slice A165_2 l0_2.length c165_2) : Option Value) := hx165_2
       replace hi165_2 : Kd.C (Kd.int .i64) _ _ l0_2.length l0_2 := hi165_2
       replace hl165_2 : l0_2.length ≤ _ := hl165_2
       replace hx165_3 : _ = (some (.int .i64 a0_3) : Option Value) := hx165_3
       replace hx165_4 : _ = (some (.int .i64 a0_4) : Option Value) := hx165_4
       replace hx165_5 : _ = (some (.slice A165_5 l0_5.length c165_5) : Option Value) := hx165_5
       replace hi165_5 : Kd.C (Kd.slice 2 (Kd.int .i64)) _ _ l0_5.length l0_5 := hi165_5
       replace hl165_5 : l0_5.length ≤ _ := hl165_5
       obtain rfl : adp0 = ad165 := (by injection e165)
       have qi165 : (0 < [(⟨a0_0, l0_1, l0_2, a0_3, a0_4, l0_5⟩ : S58)].length) = True := eq_true (by simp)
       (try rw [show ((0 : Int)).toNat = 0 from rfl] at hx165_0)
       (try rw [show 0 * 6 = 0 from rfl] at hx165_0)
       (try rw [Addr.add_zero'] at hx165_0)
       (try rw [show ((0 : Int)).toNat = 0 from rfl] at hx165_1)
       (try rw [show 0 * 6 = 0 from rfl] at hx165_1)
       (try rw [Addr.add_zero'] at hx165_1)
       (try rw [show ((0 : Int)).toNat = 0 from rfl] at hx165_2)
       (try rw [show 0 * 6 = 0 from rfl] at hx165_2)
       (try rw [Addr.add_zero'] at hx165_2)
       (try rw [show ((0 : Int)).toNat = 0 from rfl] at hx165_3)
       (try rw [show 0 * 6 = 0 from rfl] at hx165_3)
       (try rw [Addr.add_zero'] at hx165_3)
       (try rw [show ((0 : Int)).toNat = 0 from rfl] at hx165_4)
       (try rw [show 0 * 6 = 0 from rfl] at hx165_4)
       (try rw [Addr.add_zero'] at hx165_4)
       (try rw [show ((0 : Int)).toNat = 0 from rfl] at hx165_5)
       (try rw [show 0 * 6 = 0 from rfl] at hx165_5)
       (try rw [Addr.add_zero'] at hx165_5)
       have HR165_1 := Aside0.mk hi165_1
       have HC165_1 := Aside0.mk hl165_1
       clear hi165_1 hl165_1
       have HR165_2 := Aside0.mk hi165_2
       have HC165_2 := Aside0.mk hl165_2
       clear hi165_2 hl165_2
       have HR165_5 := Aside0.mk hi165_5
       have HC165_5 := Aside0.mk hl165_5
       clear hi165_5 hl165_5
       replace p165 := eq_true p165
       replace q165 := eq_true q165
       go_wp2_with (first | (go_at_call 80; (with_reducible refine (spec_l00Has.calls kj5 _ _ l0_1 t161 t166 _ ?side1 ?side2 A15.out).mono ?_); (case side1 => repeat (first | exact HR165_1.out | (with_reducible refine cA ?_ _) | (with_reducible refine cN ?_ _) | (with_reducible refine cD ?_))); (case side2 => exact HC165_1.out); rintro e w' ⟨rfl, ⟨nd, rfl⟩⟩))
       go_meet
       case rel => exact ⟨_, (!t166), (by first | rfl | (simp; done) | (simp [*]; done)), H', ⟨by have := HJ5.out; first | omega | exact Nat.le_refl _⟩, by repeat (first | exact Drawn0.refl _ | apply Drawn0.step)⟩
      ·rw [if_neg c14] at H
       have c14b0 : decide (a1 < a2) = false := decide_eq_false c14
       clear c14
       (first | rw [c14b0] | (simp only [iW, jW]; rw [c14b0]) | skip)
       have H' := Aside0.mk H
       clear H
       go_wp2
       go_meet
       case rel => exact ⟨_, (false), (by first | rfl | (simp; done) | (simp [*]; done)), H', ⟨by have := HJ5.out; first | omega | exact Nat.le_refl _⟩, by repeat (first | exact Drawn0.refl _ | apply Drawn0.step)⟩
     case rest =>
      clear HC13
      try clear c1
      try clear p1
      try clear q1
      try clear hx1
      try clear qi1
      try clear p2
      try clear c5
      try clear p6
      try clear c8
      try clear c10
      try clear c11
      try clear c12
      try clear c12b0
      try clear c13
      try clear c14
      try clear c14b0
      try clear hx165_0
      try clear hx165_1
      try clear hx165_2
      try clear hx165_3
      try clear hx165_4
      try clear hx165_5
      try clear p165
      try clear p2
      try clear q165
      obtain ⟨kq, x43_12, rfl, HA, HJ12, ⟨mc12, rfl⟩⟩ := hcut
      cases kq with
      | zero => exact absurd HA.out (by simp [spec_l05Reason.j1])
      | succ kj12 =>
       have H := HA.out
       clear HA
       simp only [spec_l05Reason.j1] at H
       by_cases c16 : x43_12 = true
       ·subst c16
        have H1 : (some 3) = some r := by rw [if_pos rfl] at H; exact H
        clear H
        have H := H1
        clear H1
        obtain rfl := Option.some.inj H
        go_wp2
        go_ret
        exact ⟨by first | rfl | (simp; done) | (simp [*]; done), by repeat (first | exact Drawn0.refl _ | apply Drawn0.step)⟩
       ·replace c16 := Bool.eq_false_iff.mpr c16
        subst c16
        have H1 : (if a2 < a1 then ((spec_l00Has.f kj12 l0_2 t161).bind fun t168 => (spec_l05Reason.j2 kj12 t160 t161 (!t168) a0_0 l0_1 l0_2 a0_3 a0_4 l0_5)) else (spec_l05Reason.j2 kj12 t160 t161 false a0_0 l0_1 l0_2 a0_3 a0_4 l0_5)) = some r := by rw [if_neg (show ¬ (false = true) by decide)] at H; exact H
        clear H
        have H := H1
        clear H1
        have HC17 := Aside0.mk H
        clear H
        go_upto_region 9 with (fail)
        go_cut [55] (fun v55 wc => ∃ (kq : Nat) (x55_16 : Bool), v55 = .bool x55_16 ∧ Aside0 (spec_l05Reason.j2 kq t160 t161 x55_16 a0_0 l0_1 l0_2 a0_3 a0_4 l0_5 = some r) ∧ Aside0 (kq ≤ kj12) ∧ Drawn0 w wc)
        case first =>
         have H := HC17.out
         clear HC17
         by_cases c18 : a2 < a1
         ·rw [if_pos c18] at H
          have c18b0 : decide (a2 < a1) = true := decide_eq_true c18
          clear c18
          (first | rw [c18b0] | (simp only [iW, jW]; rw [c18b0]) | skip)
          replace H := Option.bind_eq_some_iff.mp H
          obtain ⟨t168, A190, H⟩ := H
          replace H : (spec_l05Reason.j2 kj12 t160 t161 (!t168) a0_0 l0_1 l0_2 a0_3 a0_4 l0_5) = some r := H
          have A19 := Aside0.mk A190
          clear A190
          have H' := Aside0.mk H
          clear H
          have p167 : 0 ≤ (0 : Int) := (by omega)
          have q167 : 0 < ([(⟨a0_0, l0_1, l0_2, a0_3, a0_4, l0_5⟩ : S58)].length : Int) := (by simp)
          obtain ⟨ad167, A167_1, c167_1, A167_2, c167_2, A167_5, c167_5, e167, hx167_0, hx167_1, hx167_2, hx167_3, hx167_4, hx167_5, hl167_1, hi167_1, hl167_2, hi167_2, hl167_5, hi167_5⟩ := at_T58 HRp0.out 0 p167 q167
          replace hx167_0 : _ = (some (.string a0_0) : Option Value) := hx167_0
          replace hx167_1 : _ = (some (.slice A167_1 l0_1.length c167_1) : Option Value) := hx167_1
          replace hi167_1 : Kd.C (Kd.int .i64) _ _ l0_1.length l0_1 := hi167_1
          replace hl167_1 : l0_1.length ≤ _ := hl167_1
          replace hx167_2 : _ = (some (.slice A167_2 l0_2.length c167_2) : Option Value) := hx167_2
          replace hi167_2 : Kd.C (Kd.int .i64) _ _ l0_2.length l0_2 := hi167_2
          replace hl167_2 : l0_2.length ≤ _ := hl167_2
          replace hx167_3 : _ = (some (.int .i64 a0_3) : Option Value) := hx167_3
          replace hx167_4 : _ = (some (.int .i64 a0_4) : Option Value) := hx167_4
          replace hx167_5 : _ = (some (.slice A167_5 l0_5.length c167_5) : Option Value) := hx167_5
          replace hi167_5 : Kd.C (Kd.slice 2 (Kd.int .i64)) _ _ l0_5.length l0_5 := hi167_5
          replace hl167_5 : l0_5.length ≤ _ := hl167_5
          obtain rfl : adp0 = ad167 := (by injection e167)
          have qi167 : (0 < [(⟨a0_0, l0_1, l0_2, a0_3, a0_4, l0_5⟩ : S58)].length) = True := eq_true (by simp)
          (try rw [show ((0 : Int)).toNat = 0 from rfl] at hx167_0)
          (try rw [show 0 * 6 = 0 from rfl] at hx167_0)
          (try rw [Addr.add_zero'] at hx167_0)
          (try rw [show ((0 : Int)).toNat = 0 from rfl] at hx167_1)
          (try rw [show 0 * 6 = 0 from rfl] at hx167_1)
          (try rw [Addr.add_zero'] at hx167_1)
          (try rw [show ((0 : Int)).toNat = 0 from rfl] at hx167_2)
          (try rw [show 0 * 6 = 0 from rfl] at hx167_2)
          (try rw [Addr.add_zero'] at hx167_2)
          (try rw [show ((0 : Int)).toNat = 0 from rfl] at hx167_3)
          (try rw [show 0 * 6 = 0 from rfl] at hx167_3)
          (try rw [Addr.add_zero'] at hx167_3)
          (try rw [show ((0 : Int)).toNat = 0 from rfl] at hx167_4)
          (try rw [show 0 * 6 = 0 from rfl] at hx167_4)
          (try rw [Addr.add_zero'] at hx167_4)
          (try rw [show ((0 : Int)).toNat = 0 from rfl] at hx167_5)
          (try rw [show 0 * 6 = 0 from rfl] at hx167_5)
          (try rw [Addr.add_zero'] at hx167_5)
          have HR167_1 := Aside0.mk hi167_1
          have HC167_1 := Aside0.mk hl167_1
          clear hi167_1 hl167_1
          have HR167_2 := Aside0.mk hi167_2
          have HC167_2 := Aside0.mk hl167_2
          clear hi167_2 hl167_2
          have HR167_5 := Aside0.mk hi167_5
          have HC167_5 := Aside0.mk hl167_5
          clear hi167_5 hl167_5
          replace p167 := eq_true p167
          replace q167 := eq_true q167
          go_wp2_with (first | (go_at_call 80; (with_reducible refine (spec_l00Has.calls kj12 _ _ l0_2 t161 t168 _ ?side1 ?side2 A19.out).mono ?_); (case side1 => repeat (first | exact HR167_2.out | (with_reducible refine cA ?_ _) | (with_reducible refine cN ?_ _) | (with_reducible refine cD ?_))); (case side2 => exact HC167_2.out); rintro e w' ⟨rfl, ⟨nd, rfl⟩⟩))
          go_meet
          case rel => exact ⟨_, (!t168), (by first | rfl | (simp; done) | (simp [*]; done)), H', ⟨by have := HJ5.out; have := HJ12.out; first | omega | exact Nat.le_refl _⟩, by repeat (first | exact Drawn0.refl _ | apply Drawn0.step)⟩
         ·rw [if_neg c18] at H
          have c18b0 : decide (a2 < a1) = false := decide_eq_false c18
          clear c18
          (first | rw [c18b0] | (simp only [iW, jW]; rw [c18b0]) | skip)
          have H' := Aside0.mk H
          clear H
          go_wp2
          go_meet
          case rel => exact ⟨_, (false), (by first | rfl | (simp; done) | (simp [*]; done)), H', ⟨by have := HJ5.out; have := HJ12.out; first | omega | exact Nat.le_refl _⟩, by repeat (first | exact Drawn0.refl _ | apply Drawn0.step)⟩
        case rest =>
         clear HC17
         try clear c1
         try clear p1
         try clear q1
         try clear hx1
         try clear qi1
         try clear p2
         try clear c5
         try clear p6
         try clear c8
         try clear c10
         try clear c11
         try clear c12
         try clear c12b0
         try clear c13
         try clear c14
         try clear c14b0
         try clear c16
         try clear p16
         try clear q16
         try clear hx16
         try clear qi16
         try clear c18
         try clear c18b0
         try clear hx165_0
         try clear hx165_1
         try clear hx165_2
         try clear hx165_3
         try clear hx165_4
         try clear hx165_5
         try clear hx167_0
         try clear hx167_1
         try clear hx167_2
         try clear hx167_3
         try clear hx167_4
         try clear hx167_5
         try clear p1
         try clear p165
         try clear p167
         try clear p2
         try clear p6
         try clear q1
         try clear q165
         try clear q167
         obtain ⟨kq, x55_16, rfl, HA, HJ16, ⟨mc16, rfl⟩⟩ := hcut
         cases kq with
         | zero => exact absurd HA.out (by simp [spec_l05Reason.j2])
         | succ kj16 =>
          have H := HA.out
          clear HA
          simp only [spec_l05Reason.j2] at H
          by_cases c20 : x55_16 = true
          ·subst c20
           have H1 : (some 4) = some r := by rw [if_pos rfl] at H; exact H
           clear H
           have H := H1
           clear H1
           obtain rfl := Option.some.inj H
           go_wp2
           go_ret
           exact ⟨by first | rfl | (simp; done) | (simp [*]; done), by repeat (first | exact Drawn0.refl _ | apply Drawn0.step)⟩
          ·replace c20 := Bool.eq_false_iff.mpr c20
           subst c20
           have H1 : (spec_l05Reason.l0 kj16 t160 t161 0 a0_0 l0_1 l0_2 a0_3 a0_4 l0_5) = some r := by rw [if_neg (show ¬ (false = true) by decide)] at H; exact H
           clear H
           have H := H1
           clear H1
           have H' := Aside0.mk H
           clear H
           go_wp2
           go_loopg [9] kj16 (fun kq v9 w' => ∃ (x9_4 : Int), v9 = .int .i64 x9_4 ∧ Aside0 (spec_l05Reason.l0 kq t160 t161 x9_4 a0_0 l0_1 l0_2 a0_3 a0_4 l0_5 = some r) ∧ Aside0 (kq ≤ kj16) ∧ Drawn0 w w')
           case atStart => exact ⟨(0), (by first | rfl | (simp; done) | (simp [*]; done)), H', ⟨Nat.le_refl _⟩, by repeat (first | exact Drawn0.refl _ | apply Drawn0.step)⟩
           case round =>
            clear H'
            try clear c1
            try clear p1
            try clear q1
            try clear hx1
            try clear qi1
            try clear c2
            try clear p2
            try clear c5
            try clear p6
            try clear c8
            try clear c10
            try clear c11
            try clear c12
            try clear c12b0
            try clear c13
            try clear c14
            try clear c14b0
            try clear c16
            try clear p16
            try clear q16
            try clear hx16
            try clear qi16
            try clear c18
            try clear c18b0
            try clear c20
            try clear hx165_0
            try clear hx165_1
            try clear hx165_2
            try clear hx165_3
            try clear hx165_4
            try clear hx165_5
            try clear hx167_0
            try clear hx167_1
            try clear hx167_2
            try clear hx167_3
            try clear hx167_4
            try clear hx167_5
            try clear p1
            try clear p16
            try clear p165
            try clear p167
            try clear p2
            try clear p6
            try clear q1
            try clear q16
            try clear q165
            try clear q167
            obtain ⟨x9_4, rfl, HA, HK4, ⟨m4, rfl⟩⟩ := hrel
            cases gk with
            | zero => exact absurd HA.out (by simp [spec_l05Reason.l0])
            | succ k4 =>
             have H := HA.out
             clear HA
             simp only [spec_l05Reason.l0] at H
             by_cases c21 : x9_4 < (l0_5.length : Int)
             ·rw [if_pos c21] at H
              have c21b0 : decide (x9_4 < (l0_5.length : Int)) = true := decide_eq_true c21
              clear c21
              by_cases c22 : 0 ≤ x9_4
              ·rw [if_pos c22] at H
               have c22b0 : decide (0 ≤ x9_4) = true := decide_eq_true c22
               clear c22
               by_cases c23 : 0 < ((rd_L1 l0_5 x9_4).length : Int)
               ·rw [if_pos c23] at H
                have c23b0 : decide (0 < ((rd_L1 l0_5 x9_4).length : Int)) = true := decide_eq_true c23
                have c23b1 : decide (0 < (rd_L1 l0_5 x9_4).length) = true := decide_eq_true (by omega)
                clear c23
                by_cases c24 : (rd (rd_L1 l0_5 x9_4) 0) = t160
                ·rw [if_pos c24] at H
                 have c24b0 : ((rd (rd_L1 l0_5 x9_4) 0) == t160) = true := beq_iff_eq.mpr c24
                 have c24b1 : ((rd (rd_L1 l0_5 x9_4) 0) != t160) = false := bne_eq_false_iff_eq.mpr c24
                 clear c24
                 by_cases c25 : 1 < ((rd_L1 l0_5 x9_4).length : Int)
                 ·rw [if_pos c25] at H
                  have c25b0 : decide (1 < ((rd_L1 l0_5 x9_4).length : Int)) = true := decide_eq_true c25
                  have c25b1 : decide (1 < (rd_L1 l0_5 x9_4).length) = true := decide_eq_true (by omega)
                  clear c25
                  by_cases c26 : (rd (rd_L1 l0_5 x9_4) 1) = t161
                  ·rw [if_pos c26] at H
                   have c26b0 : ((rd (rd_L1 l0_5 x9_4) 1) == t161) = true := beq_iff_eq.mpr c26
                   have c26b1 : ((rd (rd_L1 l0_5 x9_4) 1) != t161) = false := bne_eq_false_iff_eq.mpr c26
                   clear c26
                   obtain rfl := Option.some.inj H
                   have p169 : 0 ≤ (0 : Int) := (by omega)
                   have q169 : 0 < ([(⟨a0_0, l0_1, l0_2, a0_3, a0_4, l0_5⟩ : S58)].length : Int) := (by simp)
                   obtain ⟨ad169, A169_1, c169_1, A169_2, c169_2, A169_5, c169_5, e169, hx169_0, hx169_1, hx169_2, hx169_3, hx169_4, hx169_5, hl169_1, hi169_1, hl169_2, hi169_2, hl169_5, hi169_5⟩ := at_T58 HRp0.out 0 p169 q169
                   replace hx169_0 : _ = (some (.string a0_0) : Option Value) := hx169_0
                   replace hx169_1 : _ = (some (.slice A169_1 l0_1.length c169_1) : Option Value) := hx169_1
                   replace hi169_1 : Kd.C (Kd.int .i64) _ _ l0_1.length l0_1 := hi169_1
                   replace hl169_1 : l0_1.length ≤ _ := hl169_1
                   replace hx169_2 : _ = (some (.slice A169_2 l0_2.length c169_2) : Option Value) := hx169_2
                   replace hi169_2 : Kd.C (Kd.int .i64) _ _ l0_2.length l0_2 := hi169_2
                   replace hl169_2 : l0_2.length ≤ _ := hl169_2
                   replace hx169_3 : _ = (some (.int .i64 a0_3) : Option Value) := hx169_3
                   replace hx169_4 : _ = (some (.int .i64 a0_4) : Option Value) := hx169_4
                   replace hx169_5 : _ = (some (.slice A169_5 l0_5.length c169_5) : Option Value) := hx169_5
                   replace hi169_5 : Kd.C (Kd.slice 2 (Kd.int .i64)) _ _ l0_5.length l0_5 := hi169_5
                   replace hl169_5 : l0_5.length ≤ _ := hl169_5
                   obtain rfl : adp0 = ad169 := (by injection e169)
                   have qi169 : (0 < [(⟨a0_0, l0_1, l0_2, a0_3, a0_4, l0_5⟩ : S58)].length) = True := eq_true (by simp)
                   (try rw [show ((0 : Int)).toNat = 0 from rfl] at hx169_0)
                   (try rw [show 0 * 6 = 0 from rfl] at hx169_0)
                   (try rw [Addr.add_zero'] at hx169_0)
                   (try rw [show ((0 : Int)).toNat = 0 from rfl] at hx169_1)
                   (try rw [show 0 * 6 = 0 from rfl] at hx169_1)
                   (try rw [Addr.add_zero'] at hx169_1)
                   (try rw [show ((0 : Int)).toNat = 0 from rfl] at hx169_2)
                   (try rw [show 0 * 6 = 0 from rfl] at hx169_2)
                   (try rw [Addr.add_zero'] at hx169_2)
                   (try rw [show ((0 : Int)).toNat = 0 from rfl] at hx169_3)
                   (try rw [show 0 * 6 = 0 from rfl] at hx169_3)
                   (try rw [Addr.add_zero'] at hx169_3)
                   (try rw [show ((0 : Int)).toNat = 0 from rfl] at hx169_4)
                   (try rw [show 0 * 6 = 0 from rfl] at hx169_4)
                   (try rw [Addr.add_zero'] at hx169_4)
                   (try rw [show ((0 : Int)).toNat = 0 from rfl] at hx169_5)
                   (try rw [show 0 * 6 = 0 from rfl] at hx169_5)
                   (try rw [Addr.add_zero'] at hx169_5)
                   have HR169_1 := Aside0.mk hi169_1
                   have HC169_1 := Aside0.mk hl169_1
                   clear hi169_1 hl169_1
                   have HR169_2 := Aside0.mk hi169_2
                   have HC169_2 := Aside0.mk hl169_2
                   clear hi169_2 hl169_2
                   have HR169_5 := Aside0.mk hi169_5
                   have HC169_5 := Aside0.mk hl169_5
                   clear hi169_5 hl169_5
                   replace p169 := eq_true p169
                   replace q169 := eq_true q169
                   have p170 : 0 ≤ (x9_4 : Int) := of_decide_eq_true (by first | (with_reducible assumption) | assumption)
                   have q170 : x9_4 < (l0_5.length : Int) := of_decide_eq_true (by first | (with_reducible assumption) | assumption)
                   obtain ⟨ad170, A170_0, c170_0, e170, hx170_0, hl170_0, hi170_0⟩ := at_L1 HR169_5.out x9_4 p170 q170
                   cases e170
                   have HR170_0 := Aside0.mk hi170_0
                   have HC170_0 := Aside0.mk hl170_0
                   clear hi170_0 hl170_0
                   replace p170 := eq_true p170
                   replace q170 := eq_true q170
                   have p171 : 0 ≤ (0 : Int) := (by omega)
                   have q171 : 0 < ((rd_L1 l0_5 x9_4).length : Int) := of_decide_eq_true (by first | (with_reducible assumption) | assumption)
                   obtain ⟨ad171, e171, hx171_0⟩ := Kd.at_int HR170_0.out 0 p171 q171
                   cases e171
                   have qi171 : (0 < (rd_L1 l0_5 x9_4).length) = True := eq_true (by omega)
                   (try rw [show ((0 : Int)).toNat = 0 from rfl] at hx171_0)
                   (try rw [Addr.add_zero'] at hx171_0)
                   replace p171 := eq_true p171
                   replace q171 := eq_true q171
                   have p172 : 0 ≤ (x9_4 : Int) := of_decide_eq_true (by first | (with_reducible assumption) | assumption)
                   have q172 : x9_4 < (l0_5.length : Int) := of_decide_eq_true (by first | (with_reducible assumption) | assumption)
                   obtain ⟨ad172, A172_0, c172_0, e172, hx172_0, hl172_0, hi172_0⟩ := at_L1 HR169_5.out x9_4 p172 q172
                   obtain rfl : ad170 = ad172 := (by injection e172)
                   have HR172_0 := Aside0.mk hi172_0
                   have HC172_0 := Aside0.mk hl172_0
                   clear hi172_0 hl172_0
                   replace p172 := eq_true p172
                   replace q172 := eq_true q172
                   have ea_ := Option.some.inj (hx170_0.symm.trans hx172_0)
                   injection ea_ with ea_ en_ ec_
                   subst ea_
                   subst ec_
                   clear en_
                   have p173 : 0 ≤ (1 : Int) := (by omega)
                   have q173 : 1 < ((rd_L1 l0_5 x9_4).length : Int) := of_decide_eq_true (by first | (with_reducible assumption) | assumption)
                   obtain ⟨ad173, e173, hx173_0⟩ := Kd.at_int HR172_0.out 1 p173 q173
                   cases e173
                   (try simp only [show (1 : Int).toNat = 1 from rfl, Nat.reduceMul, Nat.reduceEqDiff, Go.Addr.add, ↓reduceIte] at hx173_0)
                   have qi173 : (1 < (rd_L1 l0_5 x9_4).length) = True := eq_true (by omega)
                   (try rw [show ((1 : Int)).toNat = 1 from rfl] at hx173_0)
                   replace p173 := eq_true p173
                   replace q173 := eq_true q173
                   go_wp2
                   go_ret
                   exact ⟨by first | rfl | (simp; done) | (simp [*]; done), by repeat (first | exact Drawn0.refl _ | apply Drawn0.step)⟩
                  ·rw [if_neg c26] at H
                   have c26b0 : ((rd (rd_L1 l0_5 x9_4) 1) == t161) = false := beq_eq_false_iff_ne.mpr c26
                   have c26b1 : ((rd (rd_L1 l0_5 x9_4) 1) != t161) = true := bne_iff_ne.mpr c26
                   have H' := Aside0.mk H
                   clear H
                   have p169 : 0 ≤ (0 : Int) := (by omega)
                   have q169 : 0 < ([(⟨a0_0, l0_1, l0_2, a0_3, a0_4, l0_5⟩ : S58)].length : Int) := (by simp)
                   obtain ⟨ad169, A169_1, c169_1, A169_2, c169_2, A169_5, c169_5, e169, hx169_0, hx169_1, hx169_2, hx169_3, hx169_4, hx169_5, hl169_1, hi169_1, hl169_2, hi169_2, hl169_5, hi169_5⟩ := at_T58 HRp0.out 0 p169 q169
                   replace hx169_0 : _ = (some (.string a0_0) : Option Value) := hx169_0
                   replace hx169_1 : _ = (some (.slice A169_1 l0_1.length c169_1) : Option Value) := hx169_1
                   replace hi169_1 : Kd.C (Kd.int .i64) _ _ l0_1.length l0_1 := hi169_1
                   replace hl169_1 : l0_1.length ≤ _ := hl169_1
                   replace hx169_2 : _ = (some (.slice A169_2 l0_2.length c169_2) : Option Value) := hx169_2
                   replace hi169_2 : Kd.C (Kd.int .i64) _ _ l0_2.length l0_2 := hi169_2
                   replace hl169_2 : l0_2.length ≤ _ := hl169_2
                   replace hx169_3 : _ = (some (.int .i64 a0_3) : Option Value) := hx169_3
                   replace hx169_4 : _ = (some (.int .i64 a0_4) : Option Value) := hx169_4
                   replace hx169_5 : _ = (some (.slice A169_5 l0_5.length c169_5) : Option Value) := hx169_5
                   replace hi169_5 : Kd.C (Kd.slice 2 (Kd.int .i64)) _ _ l0_5.length l0_5 := hi169_5
                   replace hl169_5 : l0_5.length ≤ _ := hl169_5
                   obtain rfl : adp0 = ad169 := (by injection e169)
                   have qi169 : (0 < [(⟨a0_0, l0_1, l0_2, a0_3, a0_4, l0_5⟩ : S58)].length) = True := eq_true (by simp)
                   (try rw [show ((0 : Int)).toNat = 0 from rfl] at hx169_0)
                   (try rw [show 0 * 6 = 0 from rfl] at hx169_0)
                   (try rw [Addr.add_zero'] at hx169_0)
                   (try rw [show ((0 : Int)).toNat = 0 from rfl] at hx169_1)
                   (try rw [show 0 * 6 = 0 from rfl] at hx169_1)
                   (try rw [Addr.add_zero'] at hx169_1)
                   (try rw [show ((0 : Int)).toNat = 0 from rfl] at hx169_2)
                   (try rw [show 0 * 6 = 0 from rfl] at hx169_2)
                   (try rw [Addr.add_zero'] at hx169_2)
                   (try rw [show ((0 : Int)).toNat = 0 from rfl] at hx169_3)
                   (try rw [show 0 * 6 = 0 from rfl] at hx169_3)
                   (try rw [Addr.add_zero'] at hx169_3)
                   (try rw [show ((0 : Int)).toNat = 0 from rfl] at hx169_4)
                   (try rw [show 0 * 6 = 0 from rfl] at hx169_4)
                   (try rw [Addr.add_zero'] at hx169_4)
                   (try rw [show ((0 : Int)).toNat = 0 from rfl] at hx169_5)
                   (try rw [show 0 * 6 = 0 from rfl] at hx169_5)
                   (try rw [Addr.add_zero'] at hx169_5)
                   have HR169_1 := Aside0.mk hi169_1
                   have HC169_1 := Aside0.mk hl169_1
                   clear hi169_1 hl169_1
                   have HR169_2 := Aside0.mk hi169_2
                   have HC169_2 := Aside0.mk hl169_2
                   clear hi169_2 hl169_2
                   have HR169_5 := Aside0.mk hi169_5
                   have HC169_5 := Aside0.mk hl169_5
                   clear hi169_5 hl169_5
                   replace p169 := eq_true p169
                   replace q169 := eq_true q169
                   have p170 : 0 ≤ (x9_4 : Int) := of_decide_eq_true (by first | (with_reducible assumption) | assumption)
                   have q170 : x9_4 < (l0_5.length : Int) := of_decide_eq_true (by first | (with_reducible assumption) | assumption)
                   obtain ⟨ad170, A170_0, c170_0, e170, hx170_0, hl170_0, hi170_0⟩ := at_L1 HR169_5.out x9_4 p170 q170
                   cases e170
                   have HR170_0 := Aside0.mk hi170_0
                   have HC170_0 := Aside0.mk hl170_0
                   clear hi170_0 hl170_0
                   replace p170 := eq_true p170
                   replace q170 := eq_true q170
                   have p171 : 0 ≤ (0 : Int) := (by omega)
                   have q171 : 0 < ((rd_L1 l0_5 x9_4).length : Int) := of_decide_eq_true (by first | (with_reducible assumption) | assumption)
                   obtain ⟨ad171, e171, hx171_0⟩ := Kd.at_int HR170_0.out 0 p171 q171
                   cases e171
                   have qi171 : (0 < (rd_L1 l0_5 x9_4).length) = True := eq_true (by omega)
                   (try rw [show ((0 : Int)).toNat = 0 from rfl] at hx171_0)
                   (try rw [Addr.add_zero'] at hx171_0)
                   replace p171 := eq_true p171
                   replace q171 := eq_true q171
                   have p172 : 0 ≤ (x9_4 : Int) := of_decide_eq_true (by first | (with_reducible assumption) | assumption)
                   have q172 : x9_4 < (l0_5.length : Int) := of_decide_eq_true (by first | (with_reducible assumption) | assumption)
                   obtain ⟨ad172, A172_0, c172_0, e172, hx172_0, hl172_0, hi172_0⟩ := at_L1 HR169_5.out x9_4 p172 q172
                   obtain rfl : ad170 = ad172 := (by injection e172)
                   have HR172_0 := Aside0.mk hi172_0
                   have HC172_0 := Aside0.mk hl172_0
                   clear hi172_0 hl172_0
                   replace p172 := eq_true p172
                   replace q172 := eq_true q172
                   have ea_ := Option.some.inj (hx170_0.symm.trans hx172_0)
                   injection ea_ with ea_ en_ ec_
                   subst ea_
                   subst ec_
                   clear en_
                   have p173 : 0 ≤ (1 : Int) := (by omega)
                   have q173 : 1 < ((rd_L1 l0_5 x9_4).length : Int) := of_decide_eq_true (by first | (with_reducible assumption) | assumption)
                   obtain ⟨ad173, e173, hx173_0⟩ := Kd.at_int HR172_0.out 1 p173 q173
                   cases e173
                   (try simp only [show (1 : Int).toNat = 1 from rfl, Nat.reduceMul, Nat.reduceEqDiff, Go.Addr.add, ↓reduceIte] at hx173_0)
                   have qi173 : (1 < (rd_L1 l0_5 x9_4).length) = True := eq_true (by omega)
                   (try rw [show ((1 : Int)).toNat = 1 from rfl] at hx173_0)
                   replace p173 := eq_true p173
                   replace q173 := eq_true q173
                   go_wp2
                   go_roundg k4
                   case measure => have := HJ5.out; have := HJ12.out; have := HJ16.out; have := HK4.out; omega
                   case rel => exact ⟨(wrap64 (x9_4 + 1)), (by first | rfl | (simp; done) | (simp [*]; done)), H', ⟨by have := HJ5.out; have := HJ12.out; have := HJ16.out; have := HK4.out; omega⟩, by repeat (first | exact Drawn0.refl _ | apply Drawn0.step)⟩
                 ·rw [if_neg c25] at H
                  exact absurd H (by simp)
                ·rw [if_neg c24] at H
                 have c24b0 : ((rd (rd_L1 l0_5 x9_4) 0) == t160) = false := beq_eq_false_iff_ne.mpr c24
                 have c24b1 : ((rd (rd_L1 l0_5 x9_4) 0) != t160) = true := bne_iff_ne.mpr c24
                 have H' := Aside0.mk H
                 clear H
                 have p169 : 0 ≤ (0 : Int) := (by omega)
                 have q169 : 0 < ([(⟨a0_0, l0_1, l0_2, a0_3, a0_4, l0_5⟩ : S58)].length : Int) := (by simp)
                 obtain ⟨ad169, A169_1, c169_1, A169_2, c169_2, A169_5, c169_5, e169, hx169_0, hx169_1, hx169_2, hx169_3, hx169_4, hx169_5, hl169_1, hi169_1, hl169_2, hi169_2, hl169_5, hi169_5⟩ := at_T58 HRp0.out 0 p169 q169
                 replace hx169_0 : _ = (some (.string a0_0) : Option Value) := hx169_0
                 replace hx169_1 : _ = (some (.slice A169_1 l0_1.length c169_1) : Option Value) := hx169_1
                 replace hi169_1 : Kd.C (Kd.int .i64) _ _ l0_1.length l0_1 := hi169_1
                 replace hl169_1 : l0_1.length ≤ _ := hl169_1
                 replace hx169_2 : _ = (some (.slice A169_2 l0_2.length c169_2) : Option Value) := hx169_2
                 replace hi169_2 : Kd.C (Kd.int .i64) _ _ l0_2.length l0_2 := hi169_2
                 replace hl169_2 : l0_2.length ≤ _ := hl169_2
                 replace hx169_3 : _ = (some (.int .i64 a0_3) : Option Value) := hx169_3
                 replace hx169_4 : _ = (some (.int .i64 a0_4) : Option Value) := hx169_4
                 replace hx169_5 : _ = (some (.slice A169_5 l0_5.length c169_5) : Option Value) := hx169_5
                 replace hi169_5 : Kd.C (Kd.slice 2 (Kd.int .i64)) _ _ l0_5.length l0_5 := hi169_5
                 replace hl169_5 : l0_5.length ≤ _ := hl169_5
                 obtain rfl : adp0 = ad169 := (by injection e169)
                 have qi169 : (0 < [(⟨a0_0, l0_1, l0_2, a0_3, a0_4, l0_5⟩ : S58)].length) = True := eq_true (by simp)
                 (try rw [show ((0 : Int)).toNat = 0 from rfl] at hx169_0)
                 (try rw [show 0 * 6 = 0 from rfl] at hx169_0)
                 (try rw [Addr.add_zero'] at hx169_0)
                 (try rw [show ((0 : Int)).toNat = 0 from rfl] at hx169_1)
                 (try rw [show 0 * 6 = 0 from rfl] at hx169_1)
                 (try rw [Addr.add_zero'] at hx169_1)
                 (try rw [show ((0 : Int)).toNat = 0 from rfl] at hx169_2)
                 (try rw [show 0 * 6 = 0 from rfl] at hx169_2)
                 (try rw [Addr.add_zero'] at hx169_2)
                 (try rw [show ((0 : Int)).toNat = 0 from rfl] at hx169_3)
                 (try rw [show 0 * 6 = 0 from rfl] at hx169_3)
                 (try rw [Addr.add_zero'] at hx169_3)
                 (try rw [show ((0 : Int)).toNat = 0 from rfl] at hx169_4)
                 (try rw [show 0 * 6 = 0 from rfl] at hx169_4)
                 (try rw [Addr.add_zero'] at hx169_4)
                 (try rw [show ((0 : Int)).toNat = 0 from rfl] at hx169_5)
                 (try rw [show 0 * 6 = 0 from rfl] at hx169_5)
                 (try rw [Addr.add_zero'] at hx169_5)
                 have HR169_1 := Aside0.mk hi169_1
                 have HC169_1 := Aside0.mk hl169_1
                 clear hi169_1 hl169_1
                 have HR169_2 := Aside0.mk hi169_2
                 have HC169_2 := Aside0.mk hl169_2
                 clear hi169_2 hl169_2
                 have HR169_5 := Aside0.mk hi169_5
                 have HC169_5 := Aside0.mk hl169_5
                 clear hi169_5 hl169_5
                 replace p169 := eq_true p169
                 replace q169 := eq_true q169
                 have p170 : 0 ≤ (x9_4 : Int) := of_decide_eq_true (by first | (with_reducible assumption) | assumption)
                 have q170 : x9_4 < (l0_5.length : Int) := of_decide_eq_true (by first | (with_reducible assumption) | assumption)
                 obtain ⟨ad170, A170_0, c170_0, e170, hx170_0, hl170_0, hi170_0⟩ := at_L1 HR169_5.out x9_4 p170 q170
                 cases e170
                 have HR170_0 := Aside0.mk hi170_0
                 have HC170_0 := Aside0.mk hl170_0
                 clear hi170_0 hl170_0
                 replace p170 := eq_true p170
                 replace q170 := eq_true q170
                 have p171 : 0 ≤ (0 : Int) := (by omega)
                 have q171 : 0 < ((rd_L1 l0_5 x9_4).length : Int) := of_decide_eq_true (by first | (with_reducible assumption) | assumption)
                 obtain ⟨ad171, e171, hx171_0⟩ := Kd.at_int HR170_0.out 0 p171 q171
                 cases e171
                 have qi171 : (0 < (rd_L1 l0_5 x9_4).length) = True := eq_true (by omega)
                 (try rw [show ((0 : Int)).toNat = 0 from rfl] at hx171_0)
                 (try rw [Addr.add_zero'] at hx171_0)
                 replace p171 := eq_true p171
                 replace q171 := eq_true q171
                 go_wp2
                 go_roundg k4
                 case measure => have := HJ5.out; have := HJ12.out; have := HJ16.out; have := HK4.out; omega
                 case rel => exact ⟨(wrap64 (x9_4 + 1)), (by first | rfl | (simp; done) | (simp [*]; done)), H', ⟨by have := HJ5.out; have := HJ12.out; have := HJ16.out; have := HK4.out; omega⟩, by repeat (first | exact Drawn0.refl _ | apply Drawn0.step)⟩
               ·rw [if_neg c23] at H
                exact absurd H (by simp)
              ·rw [if_neg c22] at H
               exact absurd H (by simp)
             ·rw [if_neg c21] at H
              have c21b0 : decide (x9_4 < (l0_5.length : Int)) = false := decide_eq_false c21
              clear c21
              obtain rfl := Option.some.inj H
              have p169 : 0 ≤ (0 : Int) := (by omega)
              have q169 : 0 < ([(⟨a0_0, l0_1, l0_2, a0_3, a0_4, l0_5⟩ : S58)].length : Int) := (by simp)
              obtain ⟨ad169, A169_1, c169_1, A169_2, c169_2, A169_5, c169_5, e169, hx169_0, hx169_1, hx169_2, hx169_3, hx169_4, hx169_5, hl169_1, hi169_1, hl169_2, hi169_2, hl169_5, hi169_5⟩ := at_T58 HRp0.out 0 p169 q169
              replace hx169_0 : _ = (some (.string a0_0) : Option Value) := hx169_0
              replace hx169_1 : _ = (some (.slice A169_1 l0_1.length c169_1) : Option Value) := hx169_1
              replace hi169_1 : Kd.C (Kd.int .i64) _ _ l0_1.length l0_1 := hi169_1
              replace hl169_1 : l0_1.length ≤ _ := hl169_1
              replace hx169_2 : _ = (some (.slice A169_2 l0_2.length c169_2) : Option Value) := hx169_2
              replace hi169_2 : Kd.C (Kd.int .i64) _ _ l0_2.length l0_2 := hi169_2
              replace hl169_2 : l0_2.length ≤ _ := hl169_2
              replace hx169_3 : _ = (some (.int .i64 a0_3) : Option Value) := hx169_3
              replace hx169_4 : _ = (some (.int .i64 a0_4) : Option Value) := hx169_4
              replace hx169_5 : _ = (some (.slice A169_5 l0_5.length c169_5) : Option Value) := hx169_5
              replace hi169_5 : Kd.C (Kd.slice 2 (Kd.int .i64)) _ _ l0_5.length l0_5 := hi169_5
              replace hl169_5 : l0_5.length ≤ _ := hl169_5
              obtain rfl : adp0 = ad169 := (by injection e169)
              have qi169 : (0 < [(⟨a0_0, l0_1, l0_2, a0_3, a0_4, l0_5⟩ : S58)].length) = True := eq_true (by simp)
              (try rw [show ((0 : Int)).toNat = 0 from rfl] at hx169_0)
              (try rw [show 0 * 6 = 0 from rfl] at hx169_0)
              (try rw [Addr.add_zero'] at hx169_0)
              (try rw [show ((0 : Int)).toNat = 0 from rfl] at hx169_1)
              (try rw [show 0 * 6 = 0 from rfl] at hx169_1)
              (try rw [Addr.add_zero'] at hx169_1)
              (try rw [show ((0 : Int)).toNat = 0 from rfl] at hx169_2)
              (try rw [show 0 * 6 = 0 from rfl] at hx169_2)
              (try rw [Addr.add_zero'] at hx169_2)
              (try rw [show ((0 : Int)).toNat = 0 from rfl] at hx169_3)
              (try rw [show 0 * 6 = 0 from rfl] at hx169_3)
              (try rw [Addr.add_zero'] at hx169_3)
              (try rw [show ((0 : Int)).toNat = 0 from rfl] at hx169_4)
              (try rw [show 0 * 6 = 0 from rfl] at hx169_4)
              (try rw [Addr.add_zero'] at hx169_4)
              (try rw [show ((0 : Int)).toNat = 0 from rfl] at hx169_5)
              (try rw [show 0 * 6 = 0 from rfl] at hx169_5)
              (try rw [Addr.add_zero'] at hx169_5)
              have HR169_1 := Aside0.mk hi169_1
              have HC169_1 := Aside0.mk hl169_1
              clear hi169_1 hl169_1
              have HR169_2 := Aside0.mk hi169_2
              have HC169_2 := Aside0.mk hl169_2
              clear hi169_2 hl169_2
              have HR169_5 := Aside0.mk hi169_5
              have HC169_5 := Aside0.mk hl169_5
              clear hi169_5 hl169_5
              replace p169 := eq_true p169
              replace q169 := eq_true q169
              go_wp2
              go_ret
              exact ⟨by first | rfl | (simp; done) | (simp [*]; done), by repeat (first | exact Drawn0.refl _ | apply Drawn0.step)⟩

end Go.Proofs.Ytijbhcalknfijaa.M6
-- shrunk
-- tight
