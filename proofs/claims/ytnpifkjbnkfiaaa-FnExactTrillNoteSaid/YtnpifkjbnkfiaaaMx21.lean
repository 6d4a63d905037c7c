/- What functions of the given program compute, as plain Lean functions, and that the code comes to just that; by a program of this session over the kit's print. No condition. -/
import Derived.Test.YtnpifkjbnkfiaaaMx0
import Derived.Test.YtnpifkjbnkfiaaaMx1
namespace Go.Proofs.Ytnpifkjbnkfiaaa.M
open Go.RowKit Go.Proofs.YtnpifkjbnkfiaaaW.PrintWords Go.Proofs.YtnpifkjbnkfiaaaW.PrintLast Go.Proofs.YtnpifkjbnkfiaaaW.PrintMore
attribute [local go_sem] max2_int min2_int max_two min_two max_three min_three max_four min_four   -- for this text's walks alone
set_option linter.unusedVariables false
set_option linter.unusedSimpArgs false

/-! ### spec_l10Ask: function 57 -/
def spec_l10Ask.j0 : Nat → List (S52) → Int → Int → Bool → Option (Int)
  | 0, _, _, _, _ => none
  | k + 1, x0, x1, x3, x27 => if x27 = true then (some 2) else (if 0 ≤ x1 then (if x1 < (x0.length : Int) then (if x3 ≥ ((rd_T52 x0 x1).f1) then (some 6) else (some 0)) else (none)) else (none))
def spec_l10Ask.f (k : Nat) (l0 : List (S52)) (a1 : Int) (a2 : Int) (a3 : Int) : Option (Int) := (spec_l09Ok.f k l0).bind fun t358 => (if t358 = true then ((spec_l00In.f a1 0 (wrap64 ((l0.length : Int) - 1))).bind fun t359 => (if t359 = true then ((spec_l03Pitch.f a2).bind fun t360 => (if t360 = true then ((spec_l09Length.f a3).bind fun t361 => (spec_l10Ask.j0 k l0 a1 a3 (!t361))) else (spec_l10Ask.j0 k l0 a1 a3 true))) else (spec_l10Ask.j0 k l0 a1 a3 true))) else (some 1))
theorem spec_l10Ask.mono_l : ∀ k, (∀ y0 y1 y2 y3, LeO (spec_l10Ask.j0 k y0 y1 y2 y3) (spec_l10Ask.j0 (k + 1) y0 y1 y2 y3))
  | 0 => fun _ _ _ _ r h => by simp [spec_l10Ask.j0] at h
  | k + 1 => by
    have ih0 := spec_l10Ask.mono_l k
    · intro y0 y1 y2 y3
      unfold spec_l10Ask.j0
      repeat' first
      | (with_reducible exact ih0 _ _ _ _)
      | (with_reducible exact spec_l09Ok.mono _ _)
      | (with_reducible exact LeO.refl _)
      | (with_reducible exact LeO.none _)
      | (with_reducible refine LeO.ite ?_ ?_)
      | (with_reducible refine LeO.bind ?_ (fun _ => ?_))
      | exact ih0 _ _ _ _
      | exact spec_l09Ok.mono _ _
      | exact LeO.none _
      | refine LeO.ite ?_ ?_
      | refine LeO.bind ?_ (fun _ => ?_)
theorem spec_l10Ask.mono : ∀ a0 a1 a2 a3 k, LeO (spec_l10Ask.f k a0 a1 a2 a3) (spec_l10Ask.f (k + 1) a0 a1 a2 a3) := by
  intro a0 a1 a2 a3 k
  have ih0 := spec_l10Ask.mono_l k
  unfold spec_l10Ask.f
  repeat' first
      | (with_reducible exact ih0 _ _ _ _)
      | (with_reducible exact spec_l09Ok.mono _ _)
      | (with_reducible exact LeO.refl _)
      | (with_reducible exact LeO.none _)
      | (with_reducible refine LeO.ite ?_ ?_)
      | (with_reducible refine LeO.bind ?_ (fun _ => ?_))
      | exact ih0 _ _ _ _
      | exact spec_l09Ok.mono _ _
      | exact LeO.none _
      | refine LeO.ite ?_ ?_
      | refine LeO.bind ?_ (fun _ => ?_)
set_option maxHeartbeats 8000000 in
set_option maxRecDepth 100000 in
theorem spec_l10Ask.calls (k : Nat) (A0 : Option Addr) (c0 : Nat) (l0 : List (S52)) (a1 : Int) (a2 : Int) (a3 : Int) (r : Int) (w : World) (hr0 : Kd.C k52 w A0 l0.length l0) (hc0 : l0.length ≤ c0) (h : spec_l10Ask.f k l0 a1 a2 a3 = some r) :
    Calls Try.prog 57 #[.slice A0 l0.length c0, .int .i64 a1, .int .i64 a2, .int .i64 a3] w fun e w' => e = .returned (.int .i64 r) ∧ Drawn0 w w' := by
  have HR0 := Aside0.mk hr0
  have HC0 := Aside0.mk hc0
  clear hr0 hc0
  have H : ((spec_l09Ok.f k l0).bind fun t358 => (if t358 = true then ((spec_l00In.f a1 0 (wrap64 ((l0.length : Int) - 1))).bind fun t359 => (if t359 = true then ((spec_l03Pitch.f a2).bind fun t360 => (if t360 = true then ((spec_l09Length.f a3).bind fun t361 => (spec_l10Ask.j0 k l0 a1 a3 (!t361))) else (spec_l10Ask.j0 k l0 a1 a3 true))) else (spec_l10Ask.j0 k l0 a1 a3 true))) else (some 1))) = some r := h
  clear h
  replace H := Option.bind_eq_some_iff.mp H
  obtain ⟨t358, A50, H⟩ := H
  replace H : (if t358 = true then ((spec_l00In.f a1 0 (wrap64 ((l0.length : Int) - 1))).bind fun t359 => (if t359 = true then ((spec_l03Pitch.f a2).bind fun t360 => (if t360 = true then ((spec_l09Length.f a3).bind fun t361 => (spec_l10Ask.j0 k l0 a1 a3 (!t361))) else (spec_l10Ask.j0 k l0 a1 a3 true))) else (spec_l10Ask.j0 k l0 a1 a3 true))) else (some 1)) = some r := H
  have A5 := Aside0.mk A50
  clear A50
  by_cases c6 : t358 = true
  · subst c6
    have H1 : ((spec_l00In.f a1 0 (wrap64 ((l0.length : Int) - 1))).bind fun t359 => (if t359 = true then ((spec_l03Pitch.f a2).bind fun t360 => (if t360 = true then ((spec_l09Length.f a3).bind fun t361 => (spec_l10Ask.j0 k l0 a1 a3 (!t361))) else (spec_l10Ask.j0 k l0 a1 a3 true))) else (spec_l10Ask.j0 k l0 a1 a3 true))) = some r := by rw [if_pos rfl] at H; exact H
    clear H
    have H := H1
    clear H1
    have HC7 := Aside0.mk H
    clear H
    go_enter Try.func57, Try.ntmps57
    go_upto_region 3 with (first | ((with_reducible refine gate_callee (f := 37) rfl ?_); refine goesL_ (some 10) rfl rfl Try.func37 (by kernel_rfl) rfl #[.slice A0 l0.length c0] rfl (by (try simp only [List.map_toArray, List.map_cons, List.map_nil]); first | done | rfl | (simp only [List.length_drop, List.length_take]; rfl)) ?_; (with_reducible refine (spec_l09Ok.calls k _ _ l0 true _ ?side1 ?side2 A5.out).mono ?_); (case side1 => repeat (first | exact HR0.out | (with_reducible refine Kd.C_alloc ?_ _) | (with_reducible refine Kd.C_drewN ?_ _) | (with_reducible refine Kd.C_drew ?_))); (case side2 => exact HC0.out); rintro e w' ⟨rfl, ⟨nd, rfl⟩⟩; refine ⟨_, rfl, ?_⟩))
    (try simp only [Act.put, List.setIfInBounds_toArray, List.set_cons_zero, List.set_cons_succ])
    go_cut [27] (fun v27 wc => ∃ (kq : Nat) (x27_6 : Bool), v27 = .bool x27_6 ∧ Aside0 (spec_l10Ask.j0 kq l0 a1 a3 x27_6 = some r) ∧ Aside0 (kq ≤ k) ∧ Drawn0 w wc)
    case first =>
      have H := HC7.out
      clear HC7
      replace H := Option.bind_eq_some_iff.mp H
      obtain ⟨t359, A80, H⟩ := H
      replace H : (if t359 = true then ((spec_l03Pitch.f a2).bind fun t360 => (if t360 = true then ((spec_l09Length.f a3).bind fun t361 => (spec_l10Ask.j0 k l0 a1 a3 (!t361))) else (spec_l10Ask.j0 k l0 a1 a3 true))) else (spec_l10Ask.j0 k l0 a1 a3 true)) = some r := H
      have A8 := Aside0.mk A80
      clear A80
      by_cases c9 : t359 = true
      · subst c9
        have H1 : ((spec_l03Pitch.f a2).bind fun t360 => (if t360 = true then ((spec_l09Length.f a3).bind fun t361 => (spec_l10Ask.j0 k l0 a1 a3 (!t361))) else (spec_l10Ask.j0 k l0 a1 a3 true))) = some r := by rw [if_pos rfl] at H; exact H
        clear H
        have H := H1
        clear H1
        replace H := Option.bind_eq_some_iff.mp H
        obtain ⟨t360, A100, H⟩ := H
        replace H : (if t360 = true then ((spec_l09Length.f a3).bind fun t361 => (spec_l10Ask.j0 k l0 a1 a3 (!t361))) else (spec_l10Ask.j0 k l0 a1 a3 true)) = some r := H
        have A10 := Aside0.mk A100
        clear A100
        by_cases c11 : t360 = true
        · subst c11
          have H1 : ((spec_l09Length.f a3).bind fun t361 => (spec_l10Ask.j0 k l0 a1 a3 (!t361))) = some r := by rw [if_pos rfl] at H; exact H
          clear H
          have H := H1
          clear H1
          replace H := Option.bind_eq_some_iff.mp H
          obtain ⟨t361, A120, H⟩ := H
          replace H : (spec_l10Ask.j0 k l0 a1 a3 (!t361)) = some r := H
          have A12 := Aside0.mk A120
          clear A120
          have H' := Aside0.mk H
          clear H
          go_wp2_with (first | ((with_reducible refine gate_callee (f := 63) rfl ?_); refine goesL_ (some 16) rfl rfl Try.func63 (by kernel_rfl) rfl #[.int .i64 a1, .int .i64 0, .int .i64 (wrap64 ((l0.length : Int) - 1))] rfl (by (try simp only [List.map_toArray, List.map_cons, List.map_nil]); first | done | rfl | (simp only [List.length_drop, List.length_take]; rfl)) ?_; (with_reducible refine (spec_l00In.calls a1 0 (wrap64 ((l0.length : Int) - 1)) true _ A8.out).mono ?_); rintro e w' ⟨rfl, ⟨nd, rfl⟩⟩; refine ⟨_, rfl, ?_⟩) | (go_at_call 38; (with_reducible refine (spec_l03Pitch.calls a2 true _ A10.out).mono ?_); rintro e w' ⟨rfl, ⟨nd, rfl⟩⟩) | (go_at_call 51; (with_reducible refine (spec_l09Length.calls a3 t361 _ A12.out).mono ?_); rintro e w' ⟨rfl, ⟨nd, rfl⟩⟩))
          go_meet
          case rel => exact ⟨_, (!t361), (by first | rfl | (simp; done) | (simp [*]; done)), H', ⟨by first | omega | exact Nat.le_refl _⟩, by repeat (first | exact Drawn0.refl _ | apply Drawn0.step)⟩
        · replace c11 := Bool.eq_false_iff.mpr c11
          subst c11
          have H1 : (spec_l10Ask.j0 k l0 a1 a3 true) = some r := by rw [if_neg (show ¬ (false = true) by decide)] at H; exact H
          clear H
          have H := H1
          clear H1
          have H' := Aside0.mk H
          clear H
          go_wp2_with (first | ((with_reducible refine gate_callee (f := 63) rfl ?_); refine goesL_ (some 16) rfl rfl Try.func63 (by kernel_rfl) rfl #[.int .i64 a1, .int .i64 0, .int .i64 (wrap64 ((l0.length : Int) - 1))] rfl (by (try simp only [List.map_toArray, List.map_cons, List.map_nil]); first | done | rfl | (simp only [List.length_drop, List.length_take]; rfl)) ?_; (with_reducible refine (spec_l00In.calls a1 0 (wrap64 ((l0.length : Int) - 1)) true _ A8.out).mono ?_); rintro e w' ⟨rfl, ⟨nd, rfl⟩⟩; refine ⟨_, rfl, ?_⟩) | (go_at_call 38; (with_reducible refine (spec_l03Pitch.calls a2 false _ A10.out).mono ?_); rintro e w' ⟨rfl, ⟨nd, rfl⟩⟩))
          go_meet
          case rel => exact ⟨_, (true), (by first | rfl | (simp; done) | (simp [*]; done)), H', ⟨by first | omega | exact Nat.le_refl _⟩, by repeat (first | exact Drawn0.refl _ | apply Drawn0.step)⟩
      · replace c9 := Bool.eq_false_iff.mpr c9
        subst c9
        have H1 : (spec_l10Ask.j0 k l0 a1 a3 true) = some r := by rw [if_neg (show ¬ (false = true) by decide)] at H; exact H
        clear H
        have H := H1
        clear H1
        have H' := Aside0.mk H
        clear H
        go_wp2_with (first | ((with_reducible refine gate_callee (f := 63) rfl ?_); refine goesL_ (some 16) rfl rfl Try.func63 (by kernel_rfl) rfl #[.int .i64 a1, .int .i64 0, .int .i64 (wrap64 ((l0.length : Int) - 1))] rfl (by (try simp only [List.map_toArray, List.map_cons, List.map_nil]); first | done | rfl | (simp only [List.length_drop, List.length_take]; rfl)) ?_; (with_reducible refine (spec_l00In.calls a1 0 (wrap64 ((l0.length : Int) - 1)) false _ A8.out).mono ?_); rintro e w' ⟨rfl, ⟨nd, rfl⟩⟩; refine ⟨_, rfl, ?_⟩))
        go_meet
        case rel => exact ⟨_, (true), (by first | rfl | (simp; done) | (simp [*]; done)), H', ⟨by first | omega | exact Nat.le_refl _⟩, by repeat (first | exact Drawn0.refl _ | apply Drawn0.step)⟩
    case rest =>
      clear HC7
      try clear c1
      try clear p2
      try clear c3
      try clear c5
      try clear c6
      try clear p6
      try clear c9
      try clear c11
      obtain ⟨kq, x27_6, rfl, HA, HJ6, ⟨mc6, rfl⟩⟩ := hcut
      cases kq with
      | zero => exact absurd HA.out (by simp [spec_l10Ask.j0])
      | succ kj6 =>
        have H := HA.out
        clear HA
        simp only [spec_l10Ask.j0] at H
        by_cases c13 : x27_6 = true
        · subst c13
          have H1 : (some 2) = some r := by rw [if_pos rfl] at H; exact H
          clear H
          have H := H1
          clear H1
          obtain rfl := Option.some.inj H
          go_wp2
          go_ret
          exact ⟨by first | rfl | (simp; done) | (simp [*]; done), by repeat (first | exact Drawn0.refl _ | apply Drawn0.step)⟩
        · replace c13 := Bool.eq_false_iff.mpr c13
          subst c13
          have H1 : (if 0 ≤ a1 then (if a1 < (l0.length : Int) then (if a3 ≥ ((rd_T52 l0 a1).f1) then (some 6) else (some 0)) else (none)) else (none)) = some r := by rw [if_neg (show ¬ (false = true) by decide)] at H; exact H
          clear H
          have H := H1
          clear H1
          by_cases c14 : 0 ≤ a1
          · rw [if_pos c14] at H
            have c14b0 : decide (0 ≤ a1) = true := decide_eq_true c14
            clear c14
            by_cases c15 : a1 < (l0.length : Int)
            · rw [if_pos c15] at H
              have c15b0 : decide (a1 < (l0.length : Int)) = true := decide_eq_true c15
              clear c15
              by_cases c16 : a3 ≥ ((rd_T52 l0 a1).f1)
              · rw [if_pos c16] at H
                have c16b0 : decide (((rd_T52 l0 a1).f1) ≤ a3) = true := decide_eq_true c16
                clear c16
                obtain rfl := Option.some.inj H
                have p362 : 0 ≤ (a1 : Int) := of_decide_eq_true (by first | (with_reducible assumption) | assumption)
                have q362 : a1 < (l0.length : Int) := of_decide_eq_true (by first | (with_reducible assumption) | assumption)
                obtain ⟨ad362, e362, hx362_0, hx362_1⟩ := at_T52 HR0.out a1 p362 q362
                cases e362
                replace p362 := eq_true p362
                replace q362 := eq_true q362
                go_wp2
                go_ret
                exact ⟨by first | rfl | (simp; done) | (simp [*]; done), by repeat (first | exact Drawn0.refl _ | apply Drawn0.step)⟩
              · rw [if_neg c16] at H
                have c16b0 : decide (((rd_T52 l0 a1).f1) ≤ a3) = false := decide_eq_false c16
                clear c16
                obtain rfl := Option.some.inj H
                have p362 : 0 ≤ (a1 : Int) := of_decide_eq_true (by first | (with_reducible assumption) | assumption)
                have q362 : a1 < (l0.length : Int) := of_decide_eq_true (by first | (with_reducible assumption) | assumption)
                obtain ⟨ad362, e362, hx362_0, hx362_1⟩ := at_T52 HR0.out a1 p362 q362
                cases e362
                replace p362 := eq_true p362
                replace q362 := eq_true q362
                go_wp2
                go_ret
                exact ⟨by first | rfl | (simp; done) | (simp [*]; done), by repeat (first | exact Drawn0.refl _ | apply Drawn0.step)⟩
            · rw [if_neg c15] at H
              exact absurd H (by simp)
          · rw [if_neg c14] at H
            exact absurd H (by simp)
  · replace c6 := Bool.eq_false_iff.mpr c6
    subst c6
    have H1 : (some 1) = some r := by rw [if_neg (show ¬ (false = true) by decide)] at H; exact H
    clear H
    have H := H1
    clear H1
    obtain rfl := Option.some.inj H
    go_enter Try.func57, Try.ntmps57
    go_wp2_with (first | ((with_reducible refine gate_callee (f := 37) rfl ?_); refine goesL_ (some 10) rfl rfl Try.func37 (by kernel_rfl) rfl #[.slice A0 l0.length c0] rfl (by (try simp only [List.map_toArray, List.map_cons, List.map_nil]); first | done | rfl | (simp only [List.length_drop, List.length_take]; rfl)) ?_; (with_reducible refine (spec_l09Ok.calls k _ _ l0 false _ ?side1 ?side2 A5.out).mono ?_); (case side1 => repeat (first | exact HR0.out | (with_reducible refine Kd.C_alloc ?_ _) | (with_reducible refine Kd.C_drewN ?_ _) | (with_reducible refine Kd.C_drew ?_))); (case side2 => exact HC0.out); rintro e w' ⟨rfl, ⟨nd, rfl⟩⟩; refine ⟨_, rfl, ?_⟩))
    go_ret
    exact ⟨by first | rfl | (simp; done) | (simp [*]; done), by repeat (first | exact Drawn0.refl _ | apply Drawn0.step)⟩

end Go.Proofs.Ytnpifkjbnkfiaaa.M
