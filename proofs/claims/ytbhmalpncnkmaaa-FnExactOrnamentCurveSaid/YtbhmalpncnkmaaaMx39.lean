/- What functions of the given program compute, as plain Lean functions, and that the code comes to just that; by a program of this session over the kit's print. No condition. -/
import Derived.Test.YtbhmalpncnkmaaaMx0
import Derived.Test.YtbhmalpncnkmaaaMx11
import Derived.Test.YtbhmalpncnkmaaaMx38
namespace Go.Proofs.Ytbhmalpncnkmaaa.M
open Go.RowKit Go.Proofs.YtbhmalpncnkmaaaW.PrintWords Go.Proofs.YtbhmalpncnkmaaaW.PrintLast Go.Proofs.YtbhmalpncnkmaaaW.PrintMore
attribute [local go_sem] max2_int min2_int max_two min_two max_three min_three max_four min_four   -- for this text's walks alone
set_option linter.unusedVariables false
set_option linter.unusedSimpArgs false

/-! ### spec_l10At: function 118 -/
def spec_l10At.f (a0_0 : Int) (a0_1 : Int) (a0_2 : Int) (a1 : Int) (a2 : Int) : Option (Int) := if a0_0 = 1 then ((spec_l01Div.f (wrap64 (a0_1 * (wrap64 (a1 - a2)))) (wrap64 (a1 + 1))).bind fun t445 => (some t445)) else (if a0_0 = 2 then (if a1 = 0 then (none) else (if (Int.tmod (wrap64 (Int.tdiv (wrap64 ((wrap64 (a2 * 2)) * a0_2)) a1)) 2) = 1 then (some a0_1) else (some 0))) else (if a0_0 = 3 then (if a2 < a0_2 then (some a0_1) else (some 0)) else (if a0_0 = 4 then ((spec_l00Min.f a2 (wrap64 ((wrap64 (a1 - 1)) - a2))).bind fun t451 => ((spec_l01Div.f (wrap64 (a0_1 * t451)) a1).bind fun t452 => (some t452))) else (some 0))))
set_option maxHeartbeats 8000000 in
set_option maxRecDepth 100000 in
theorem spec_l10At.calls (adp0 : Addr) (a0_0 : Int) (a0_1 : Int) (a0_2 : Int) (a1 : Int) (a2 : Int) (r : Int) (w : World) (hp0 : Kd.C k25 w (some adp0) 1 [(⟨a0_0, a0_1, a0_2⟩ : S25)]) (h : spec_l10At.f a0_0 a0_1 a0_2 a1 a2 = some r) :
    Calls Try.prog 118 #[.pointer (some adp0), .int .i64 a1, .int .i64 a2] w fun e w' => e = .returned (.int .i64 r) ∧ Drawn0 w w' := by
  have HRp0 := Aside0.mk hp0
  clear hp0
  have H : (if a0_0 = 1 then ((spec_l01Div.f (wrap64 (a0_1 * (wrap64 (a1 - a2)))) (wrap64 (a1 + 1))).bind fun t445 => (some t445)) else (if a0_0 = 2 then (if a1 = 0 then (none) else (if (Int.tmod (wrap64 (Int.tdiv (wrap64 ((wrap64 (a2 * 2)) * a0_2)) a1)) 2) = 1 then (some a0_1) else (some 0))) else (if a0_0 = 3 then (if a2 < a0_2 then (some a0_1) else (some 0)) else (if a0_0 = 4 then ((spec_l00Min.f a2 (wrap64 ((wrap64 (a1 - 1)) - a2))).bind fun t451 => ((spec_l01Div.f (wrap64 (a0_1 * t451)) a1).bind fun t452 => (some t452))) else (some 0))))) = some r := h
  clear h
  by_cases c4 : a0_0 = 1
  · rw [if_pos c4] at H
    have c4b0 : (a0_0 == 1) = true := beq_iff_eq.mpr c4
    have c4b1 : (a0_0 != 1) = false := bne_eq_false_iff_eq.mpr c4
    clear c4
    replace H := Option.bind_eq_some_iff.mp H
    obtain ⟨t445, A50, H⟩ := H
    replace H : (some t445) = some r := H
    have A5 := Aside0.mk A50
    clear A50
    obtain rfl := Option.some.inj H
    have p443 : 0 ≤ (0 : Int) := (by omega)
    have q443 : 0 < ([(⟨a0_0, a0_1, a0_2⟩ : S25)].length : Int) := (by simp)
    obtain ⟨ad443, e443, hx443_0, hx443_1, hx443_2⟩ := at_T25 HRp0.out 0 p443 q443
    replace hx443_0 : _ = (some (.int .i64 a0_0) : Option Value) := hx443_0
    replace hx443_1 : _ = (some (.int .i64 a0_1) : Option Value) := hx443_1
    replace hx443_2 : _ = (some (.int .i64 a0_2) : Option Value) := hx443_2
    obtain rfl : adp0 = ad443 := (by injection e443)
    have qi443 : (0 < [(⟨a0_0, a0_1, a0_2⟩ : S25)].length) = True := eq_true (by simp)
    (try rw [show ((0 : Int)).toNat = 0 from rfl] at hx443_0)
    (try rw [show 0 * 3 = 0 from rfl] at hx443_0)
    (try rw [Addr.add_zero'] at hx443_0)
    (try rw [show ((0 : Int)).toNat = 0 from rfl] at hx443_1)
    (try rw [show 0 * 3 = 0 from rfl] at hx443_1)
    (try rw [Addr.add_zero'] at hx443_1)
    (try rw [show ((0 : Int)).toNat = 0 from rfl] at hx443_2)
    (try rw [show 0 * 3 = 0 from rfl] at hx443_2)
    (try rw [Addr.add_zero'] at hx443_2)
    replace p443 := eq_true p443
    replace q443 := eq_true q443
    have p444 : 0 ≤ (0 : Int) := (by omega)
    have q444 : 0 < ([(⟨a0_0, a0_1, a0_2⟩ : S25)].length : Int) := (by simp)
    obtain ⟨ad444, e444, hx444_0, hx444_1, hx444_2⟩ := at_T25 HRp0.out 0 p444 q444
    replace hx444_0 : _ = (some (.int .i64 a0_0) : Option Value) := hx444_0
    replace hx444_1 : _ = (some (.int .i64 a0_1) : Option Value) := hx444_1
    replace hx444_2 : _ = (some (.int .i64 a0_2) : Option Value) := hx444_2
    obtain rfl : adp0 = ad444 := (by injection e444)
    have qi444 : (0 < [(⟨a0_0, a0_1, a0_2⟩ : S25)].length) = True := eq_true (by simp)
    (try rw [show ((0 : Int)).toNat = 0 from rfl] at hx444_0)
    (try rw [show 0 * 3 = 0 from rfl] at hx444_0)
    (try rw [Addr.add_zero'] at hx444_0)
    (try rw [show ((0 : Int)).toNat = 0 from rfl] at hx444_1)
    (try rw [show 0 * 3 = 0 from rfl] at hx444_1)
    (try rw [Addr.add_zero'] at hx444_1)
    (try rw [show ((0 : Int)).toNat = 0 from rfl] at hx444_2)
    (try rw [show 0 * 3 = 0 from rfl] at hx444_2)
    (try rw [Addr.add_zero'] at hx444_2)
    replace p444 := eq_true p444
    replace q444 := eq_true q444
    go_enter Try.func118, Try.ntmps118
    go_wp2_with (first | (go_at_call 97; (with_reducible refine (spec_l01Div.calls (wrap64 (a0_1 * (wrap64 (a1 - a2)))) (wrap64 (a1 + 1)) t445 _ A5.out).mono ?_); rintro e w' ⟨rfl, ⟨nd, rfl⟩⟩; (try first | exact ⟨rfl, _, World.drewN_drewN _ _ _⟩ | exact ⟨rfl, _, Eq.trans (World.drewN_drewN _ _ _) (congrArg (World.drewN _) (Nat.add_assoc _ _ _))⟩)))
    repeat (go_quiet (first | (go_at_call 97; (with_reducible refine (spec_l01Div.calls (wrap64 (a0_1 * (wrap64 (a1 - a2)))) (wrap64 (a1 + 1)) t445 _ A5.out).mono ?_); rintro e w' ⟨rfl, ⟨nd, rfl⟩⟩; (try first | exact ⟨rfl, _, World.drewN_drewN _ _ _⟩ | exact ⟨rfl, _, Eq.trans (World.drewN_drewN _ _ _) (congrArg (World.drewN _) (Nat.add_assoc _ _ _))⟩))); try go_wp2_with (first | (go_at_call 97; (with_reducible refine (spec_l01Div.calls (wrap64 (a0_1 * (wrap64 (a1 - a2)))) (wrap64 (a1 + 1)) t445 _ A5.out).mono ?_); rintro e w' ⟨rfl, ⟨nd, rfl⟩⟩; (try first | exact ⟨rfl, _, World.drewN_drewN _ _ _⟩ | exact ⟨rfl, _, Eq.trans (World.drewN_drewN _ _ _) (congrArg (World.drewN _) (Nat.add_assoc _ _ _))⟩))))
    go_ret
    exact ⟨by first | rfl | (simp; done) | (simp [*]; done), by repeat (first | exact Drawn0.refl _ | apply Drawn0.step)⟩
  · rw [if_neg c4] at H
    have c4b0 : (a0_0 == 1) = false := beq_eq_false_iff_ne.mpr c4
    have c4b1 : (a0_0 != 1) = true := bne_iff_ne.mpr c4
    by_cases c6 : a0_0 = 2
    · rw [if_pos c6] at H
      have c6b0 : (a0_0 == 2) = true := beq_iff_eq.mpr c6
      have c6b1 : (a0_0 != 2) = false := bne_eq_false_iff_eq.mpr c6
      clear c6
      by_cases c7 : a1 = 0
      · rw [if_pos c7] at H
        exact absurd H (by simp)
      · rw [if_neg c7] at H
        have c7b0 : (a1 == 0) = false := beq_eq_false_iff_ne.mpr c7
        have c7b1 : (a1 != 0) = true := bne_iff_ne.mpr c7
        by_cases c8 : (Int.tmod (wrap64 (Int.tdiv (wrap64 ((wrap64 (a2 * 2)) * a0_2)) a1)) 2) = 1
        · rw [if_pos c8] at H
          have c8b0 : ((Int.tmod (wrap64 (Int.tdiv (wrap64 ((wrap64 (a2 * 2)) * a0_2)) a1)) 2) == 1) = true := beq_iff_eq.mpr c8
          have c8b1 : ((Int.tmod (wrap64 (Int.tdiv (wrap64 ((wrap64 (a2 * 2)) * a0_2)) a1)) 2) != 1) = false := bne_eq_false_iff_eq.mpr c8
          clear c8
          obtain rfl := Option.some.inj H
          have p443 : 0 ≤ (0 : Int) := (by omega)
          have q443 : 0 < ([(⟨a0_0, a0_1, a0_2⟩ : S25)].length : Int) := (by simp)
          obtain ⟨ad443, e443, hx443_0, hx443_1, hx443_2⟩ := at_T25 HRp0.out 0 p443 q443
          replace hx443_0 : _ = (some (.int .i64 a0_0) : Option Value) := hx443_0
          replace hx443_1 : _ = (some (.int .i64 a0_1) : Option Value) := hx443_1
          replace hx443_2 : _ = (some (.int .i64 a0_2) : Option Value) := hx443_2
          obtain rfl : adp0 = ad443 := (by injection e443)
          have qi443 : (0 < [(⟨a0_0, a0_1, a0_2⟩ : S25)].length) = True := eq_true (by simp)
          (try rw [show ((0 : Int)).toNat = 0 from rfl] at hx443_0)
          (try rw [show 0 * 3 = 0 from rfl] at hx443_0)
          (try rw [Addr.add_zero'] at hx443_0)
          (try rw [show ((0 : Int)).toNat = 0 from rfl] at hx443_1)
          (try rw [show 0 * 3 = 0 from rfl] at hx443_1)
          (try rw [Addr.add_zero'] at hx443_1)
          (try rw [show ((0 : Int)).toNat = 0 from rfl] at hx443_2)
          (try rw [show 0 * 3 = 0 from rfl] at hx443_2)
          (try rw [Addr.add_zero'] at hx443_2)
          replace p443 := eq_true p443
          replace q443 := eq_true q443
          have p446 : 0 ≤ (0 : Int) := (by omega)
          have q446 : 0 < ([(⟨a0_0, a0_1, a0_2⟩ : S25)].length : Int) := (by simp)
          obtain ⟨ad446, e446, hx446_0, hx446_1, hx446_2⟩ := at_T25 HRp0.out 0 p446 q446
          replace hx446_0 : _ = (some (.int .i64 a0_0) : Option Value) := hx446_0
          replace hx446_1 : _ = (some (.int .i64 a0_1) : Option Value) := hx446_1
          replace hx446_2 : _ = (some (.int .i64 a0_2) : Option Value) := hx446_2
          obtain rfl : adp0 = ad446 := (by injection e446)
          have qi446 : (0 < [(⟨a0_0, a0_1, a0_2⟩ : S25)].length) = True := eq_true (by simp)
          (try rw [show ((0 : Int)).toNat = 0 from rfl] at hx446_0)
          (try rw [show 0 * 3 = 0 from rfl] at hx446_0)
          (try rw [Addr.add_zero'] at hx446_0)
          (try rw [show ((0 : Int)).toNat = 0 from rfl] at hx446_1)
          (try rw [show 0 * 3 = 0 from rfl] at hx446_1)
          (try rw [Addr.add_zero'] at hx446_1)
          (try rw [show ((0 : Int)).toNat = 0 from rfl] at hx446_2)
          (try rw [show 0 * 3 = 0 from rfl] at hx446_2)
          (try rw [Addr.add_zero'] at hx446_2)
          replace p446 := eq_true p446
          replace q446 := eq_true q446
          have p447 : 0 ≤ (0 : Int) := (by omega)
          have q447 : 0 < ([(⟨a0_0, a0_1, a0_2⟩ : S25)].length : Int) := (by simp)
          obtain ⟨ad447, e447, hx447_0, hx447_1, hx447_2⟩ := at_T25 HRp0.out 0 p447 q447
          replace hx447_0 : _ = (some (.int .i64 a0_0) : Option Value) := hx447_0
          replace hx447_1 : _ = (some (.int .i64 a0_1) : Option Value) := hx447_1
          replace hx447_2 : _ = (some (.int .i64 a0_2) : Option Value) := hx447_2
          obtain rfl : adp0 = ad447 := (by injection e447)
          have qi447 : (0 < [(⟨a0_0, a0_1, a0_2⟩ : S25)].length) = True := eq_true (by simp)
          (try rw [show ((0 : Int)).toNat = 0 from rfl] at hx447_0)
          (try rw [show 0 * 3 = 0 from rfl] at hx447_0)
          (try rw [Addr.add_zero'] at hx447_0)
          (try rw [show ((0 : Int)).toNat = 0 from rfl] at hx447_1)
          (try rw [show 0 * 3 = 0 from rfl] at hx447_1)
          (try rw [Addr.add_zero'] at hx447_1)
          (try rw [show ((0 : Int)).toNat = 0 from rfl] at hx447_2)
          (try rw [show 0 * 3 = 0 from rfl] at hx447_2)
          (try rw [Addr.add_zero'] at hx447_2)
          replace p447 := eq_true p447
          replace q447 := eq_true q447
          go_enter Try.func118, Try.ntmps118
          go_wp2
          repeat (go_quiet (fail); try go_wp2)
          go_ret
          exact ⟨by first | rfl | (simp; done) | (simp [*]; done), by repeat (first | exact Drawn0.refl _ | apply Drawn0.step)⟩
        · rw [if_neg c8] at H
          have c8b0 : ((Int.tmod (wrap64 (Int.tdiv (wrap64 ((wrap64 (a2 * 2)) * a0_2)) a1)) 2) == 1) = false := beq_eq_false_iff_ne.mpr c8
          have c8b1 : ((Int.tmod (wrap64 (Int.tdiv (wrap64 ((wrap64 (a2 * 2)) * a0_2)) a1)) 2) != 1) = true := bne_iff_ne.mpr c8
          obtain rfl := Option.some.inj H
          have p443 : 0 ≤ (0 : Int) := (by omega)
          have q443 : 0 < ([(⟨a0_0, a0_1, a0_2⟩ : S25)].length : Int) := (by simp)
          obtain ⟨ad443, e443, hx443_0, hx443_1, hx443_2⟩ := at_T25 HRp0.out 0 p443 q443
          replace hx443_0 : _ = (some (.int .i64 a0_0) : Option Value) := hx443_0
          replace hx443_1 : _ = (some (.int .i64 a0_1) : Option Value) := hx443_1
          replace hx443_2 : _ = (some (.int .i64 a0_2) : Option Value) := hx443_2
          obtain rfl : adp0 = ad443 := (by injection e443)
          have qi443 : (0 < [(⟨a0_0, a0_1, a0_2⟩ : S25)].length) = True := eq_true (by simp)
          (try rw [show ((0 : Int)).toNat = 0 from rfl] at hx443_0)
          (try rw [show 0 * 3 = 0 from rfl] at hx443_0)
          (try rw [Addr.add_zero'] at hx443_0)
          (try rw [show ((0 : Int)).toNat = 0 from rfl] at hx443_1)
          (try rw [show 0 * 3 = 0 from rfl] at hx443_1)
          (try rw [Addr.add_zero'] at hx443_1)
          (try rw [show ((0 : Int)).toNat = 0 from rfl] at hx443_2)
          (try rw [show 0 * 3 = 0 from rfl] at hx443_2)
          (try rw [Addr.add_zero'] at hx443_2)
          replace p443 := eq_true p443
          replace q443 := eq_true q443
          have p446 : 0 ≤ (0 : Int) := (by omega)
          have q446 : 0 < ([(⟨a0_0, a0_1, a0_2⟩ : S25)].length : Int) := (by simp)
          obtain ⟨ad446, e446, hx446_0, hx446_1, hx446_2⟩ := at_T25 HRp0.out 0 p446 q446
          replace hx446_0 : _ = (some (.int .i64 a0_0) : Option Value) := hx446_0
          replace hx446_1 : _ = (some (.int .i64 a0_1) : Option Value) := hx446_1
          replace hx446_2 : _ = (some (.int .i64 a0_2) : Option Value) := hx446_2
          obtain rfl : adp0 = ad446 := (by injection e446)
          have qi446 : (0 < [(⟨a0_0, a0_1, a0_2⟩ : S25)].length) = True := eq_true (by simp)
          (try rw [show ((0 : Int)).toNat = 0 from rfl] at hx446_0)
          (try rw [show 0 * 3 = 0 from rfl] at hx446_0)
          (try rw [Addr.add_zero'] at hx446_0)
          (try rw [show ((0 : Int)).toNat = 0 from rfl] at hx446_1)
          (try rw [show 0 * 3 = 0 from rfl] at hx446_1)
          (try rw [Addr.add_zero'] at hx446_1)
          (try rw [show ((0 : Int)).toNat = 0 from rfl] at hx446_2)
          (try rw [show 0 * 3 = 0 from rfl] at hx446_2)
          (try rw [Addr.add_zero'] at hx446_2)
          replace p446 := eq_true p446
          replace q446 := eq_true q446
          go_enter Try.func118, Try.ntmps118
          go_wp2
          repeat (go_quiet (fail); try go_wp2)
          go_ret
          exact ⟨by first | rfl | (simp; done) | (simp [*]; done), by repeat (first | exact Drawn0.refl _ | apply Drawn0.step)⟩
    · rw [if_neg c6] at H
      have c6b0 : (a0_0 == 2) = false := beq_eq_false_iff_ne.mpr c6
      have c6b1 : (a0_0 != 2) = true := bne_iff_ne.mpr c6
      by_cases c9 : a0_0 = 3
      · rw [if_pos c9] at H
        have c9b0 : (a0_0 == 3) = true := beq_iff_eq.mpr c9
        have c9b1 : (a0_0 != 3) = false := bne_eq_false_iff_eq.mpr c9
        clear c9
        by_cases c10 : a2 < a0_2
        · rw [if_pos c10] at H
          have c10b0 : decide (a2 < a0_2) = true := decide_eq_true c10
          clear c10
          obtain rfl := Option.some.inj H
          have p443 : 0 ≤ (0 : Int) := (by omega)
          have q443 : 0 < ([(⟨a0_0, a0_1, a0_2⟩ : S25)].length : Int) := (by simp)
          obtain ⟨ad443, e443, hx443_0, hx443_1, hx443_2⟩ := at_T25 HRp0.out 0 p443 q443
          replace hx443_0 : _ = (some (.int .i64 a0_0) : Option Value) := hx443_0
          replace hx443_1 : _ = (some (.int .i64 a0_1) : Option Value) := hx443_1
          replace hx443_2 : _ = (some (.int .i64 a0_2) : Option Value) := hx443_2
          obtain rfl : adp0 = ad443 := (by injection e443)
          have qi443 : (0 < [(⟨a0_0, a0_1, a0_2⟩ : S25)].length) = True := eq_true (by simp)
          (try rw [show ((0 : Int)).toNat = 0 from rfl] at hx443_0)
          (try rw [show 0 * 3 = 0 from rfl] at hx443_0)
          (try rw [Addr.add_zero'] at hx443_0)
          (try rw [show ((0 : Int)).toNat = 0 from rfl] at hx443_1)
          (try rw [show 0 * 3 = 0 from rfl] at hx443_1)
          (try rw [Addr.add_zero'] at hx443_1)
          (try rw [show ((0 : Int)).toNat = 0 from rfl] at hx443_2)
          (try rw [show 0 * 3 = 0 from rfl] at hx443_2)
          (try rw [Addr.add_zero'] at hx443_2)
          replace p443 := eq_true p443
          replace q443 := eq_true q443
          have p448 : 0 ≤ (0 : Int) := (by omega)
          have q448 : 0 < ([(⟨a0_0, a0_1, a0_2⟩ : S25)].length : Int) := (by simp)
          obtain ⟨ad448, e448, hx448_0, hx448_1, hx448_2⟩ := at_T25 HRp0.out 0 p448 q448
          replace hx448_0 : _ = (some (.int .i64 a0_0) : Option Value) := hx448_0
          replace hx448_1 : _ = (some (.int .i64 a0_1) : Option Value) := hx448_1
          replace hx448_2 : _ = (some (.int .i64 a0_2) : Option Value) := hx448_2
          obtain rfl : adp0 = ad448 := (by injection e448)
          have qi448 : (0 < [(⟨a0_0, a0_1, a0_2⟩ : S25)].length) = True := eq_true (by simp)
          (try rw [show ((0 : Int)).toNat = 0 from rfl] at hx448_0)
          (try rw [show 0 * 3 = 0 from rfl] at hx448_0)
          (try rw [Addr.add_zero'] at hx448_0)
          (try rw [show ((0 : Int)).toNat = 0 from rfl] at hx448_1)
          (try rw [show 0 * 3 = 0 from rfl] at hx448_1)
          (try rw [Addr.add_zero'] at hx448_1)
          (try rw [show ((0 : Int)).toNat = 0 from rfl] at hx448_2)
          (try rw [show 0 * 3 = 0 from rfl] at hx448_2)
          (try rw [Addr.add_zero'] at hx448_2)
          replace p448 := eq_true p448
          replace q448 := eq_true q448
          have p449 : 0 ≤ (0 : Int) := (by omega)
          have q449 : 0 < ([(⟨a0_0, a0_1, a0_2⟩ : S25)].length : Int) := (by simp)
          obtain ⟨ad449, e449, hx449_0, hx449_1, hx449_2⟩ := at_T25 HRp0.out 0 p449 q449
          replace hx449_0 : _ = (some (.int .i64 a0_0) : Option Value) := hx449_0
          replace hx449_1 : _ = (some (.int .i64 a0_1) : Option Value) := hx449_1
          replace hx449_2 : _ = (some (.int .i64 a0_2) : Option Value) := hx449_2
          obtain rfl : adp0 = ad449 := (by injection e449)
          have qi449 : (0 < [(⟨a0_0, a0_1, a0_2⟩ : S25)].length) = True := eq_true (by simp)
          (try rw [show ((0 : Int)).toNat = 0 from rfl] at hx449_0)
          (try rw [show 0 * 3 = 0 from rfl] at hx449_0)
          (try rw [Addr.add_zero'] at hx449_0)
          (try rw [show ((0 : Int)).toNat = 0 from rfl] at hx449_1)
          (try rw [show 0 * 3 = 0 from rfl] at hx449_1)
          (try rw [Addr.add_zero'] at hx449_1)
          (try rw [show ((0 : Int)).toNat = 0 from rfl] at hx449_2)
          (try rw [show 0 * 3 = 0 from rfl] at hx449_2)
          (try rw [Addr.add_zero'] at hx449_2)
          replace p449 := eq_true p449
          replace q449 := eq_true q449
          go_enter Try.func118, Try.ntmps118
          go_wp2
          repeat (go_quiet (fail); try go_wp2)
          go_ret
          exact ⟨by first | rfl | (simp; done) | (simp [*]; done), by repeat (first | exact Drawn0.refl _ | apply Drawn0.step)⟩
        · rw [if_neg c10] at H
          have c10b0 : decide (a2 < a0_2) = false := decide_eq_false c10
          clear c10
          obtain rfl := Option.some.inj H
          have p443 : 0 ≤ (0 : Int) := (by omega)
          have q443 : 0 < ([(⟨a0_0, a0_1, a0_2⟩ : S25)].length : Int) := (by simp)
          obtain ⟨ad443, e443, hx443_0, hx443_1, hx443_2⟩ := at_T25 HRp0.out 0 p443 q443
          replace hx443_0 : _ = (some (.int .i64 a0_0) : Option Value) := hx443_0
          replace hx443_1 : _ = (some (.int .i64 a0_1) : Option Value) := hx443_1
          replace hx443_2 : _ = (some (.int .i64 a0_2) : Option Value) := hx443_2
          obtain rfl : adp0 = ad443 := (by injection e443)
          have qi443 : (0 < [(⟨a0_0, a0_1, a0_2⟩ : S25)].length) = True := eq_true (by simp)
          (try rw [show ((0 : Int)).toNat = 0 from rfl] at hx443_0)
          (try rw [show 0 * 3 = 0 from rfl] at hx443_0)
          (try rw [Addr.add_zero'] at hx443_0)
          (try rw [show ((0 : Int)).toNat = 0 from rfl] at hx443_1)
          (try rw [show 0 * 3 = 0 from rfl] at hx443_1)
          (try rw [Addr.add_zero'] at hx443_1)
          (try rw [show ((0 : Int)).toNat = 0 from rfl] at hx443_2)
          (try rw [show 0 * 3 = 0 from rfl] at hx443_2)
          (try rw [Addr.add_zero'] at hx443_2)
          replace p443 := eq_true p443
          replace q443 := eq_true q443
          have p448 : 0 ≤ (0 : Int) := (by omega)
          have q448 : 0 < ([(⟨a0_0, a0_1, a0_2⟩ : S25)].length : Int) := (by simp)
          obtain ⟨ad448, e448, hx448_0, hx448_1, hx448_2⟩ := at_T25 HRp0.out 0 p448 q448
          replace hx448_0 : _ = (some (.int .i64 a0_0) : Option Value) := hx448_0
          replace hx448_1 : _ = (some (.int .i64 a0_1) : Option Value) := hx448_1
          replace hx448_2 : _ = (some (.int .i64 a0_2) : Option Value) := hx448_2
          obtain rfl : adp0 = ad448 := (by injection e448)
          have qi448 : (0 < [(⟨a0_0, a0_1, a0_2⟩ : S25)].length) = True := eq_true (by simp)
          (try rw [show ((0 : Int)).toNat = 0 from rfl] at hx448_0)
          (try rw [show 0 * 3 = 0 from rfl] at hx448_0)
          (try rw [Addr.add_zero'] at hx448_0)
          (try rw [show ((0 : Int)).toNat = 0 from rfl] at hx448_1)
          (try rw [show 0 * 3 = 0 from rfl] at hx448_1)
          (try rw [Addr.add_zero'] at hx448_1)
          (try rw [show ((0 : Int)).toNat = 0 from rfl] at hx448_2)
          (try rw [show 0 * 3 = 0 from rfl] at hx448_2)
          (try rw [Addr.add_zero'] at hx448_2)
          replace p448 := eq_true p448
          replace q448 := eq_true q448
          go_enter Try.func118, Try.ntmps118
          go_wp2
          repeat (go_quiet (fail); try go_wp2)
          go_ret
          exact ⟨by first | rfl | (simp; done) | (simp [*]; done), by repeat (first | exact Drawn0.refl _ | apply Drawn0.step)⟩
      · rw [if_neg c9] at H
        have c9b0 : (a0_0 == 3) = false := beq_eq_false_iff_ne.mpr c9
        have c9b1 : (a0_0 != 3) = true := bne_iff_ne.mpr c9
        by_cases c11 : a0_0 = 4
        · rw [if_pos c11] at H
          have c11b0 : (a0_0 == 4) = true := beq_iff_eq.mpr c11
          have c11b1 : (a0_0 != 4) = false := bne_eq_false_iff_eq.mpr c11
          clear c11
          replace H := Option.bind_eq_some_iff.mp H
          obtain ⟨t451, A120, H⟩ := H
          replace H : ((spec_l01Div.f (wrap64 (a0_1 * t451)) a1).bind fun t452 => (some t452)) = some r := H
          have A12 := Aside0.mk A120
          clear A120
          replace H := Option.bind_eq_some_iff.mp H
          obtain ⟨t452, A130, H⟩ := H
          replace H : (some t452) = some r := H
          have A13 := Aside0.mk A130
          clear A130
          obtain rfl := Option.some.inj H
          have p443 : 0 ≤ (0 : Int) := (by omega)
          have q443 : 0 < ([(⟨a0_0, a0_1, a0_2⟩ : S25)].length : Int) := (by simp)
          obtain ⟨ad443, e443, hx443_0, hx443_1, hx443_2⟩ := at_T25 HRp0.out 0 p443 q443
          replace hx443_0 : _ = (some (.int .i64 a0_0) : Option Value) := hx443_0
          replace hx443_1 : _ = (some (.int .i64 a0_1) : Option Value) := hx443_1
          replace hx443_2 : _ = (some (.int .i64 a0_2) : Option Value) := hx443_2
          obtain rfl : adp0 = ad443 := (by injection e443)
          have qi443 : (0 < [(⟨a0_0, a0_1, a0_2⟩ : S25)].length) = True := eq_true (by simp)
          (try rw [show ((0 : Int)).toNat = 0 from rfl] at hx443_0)
          (try rw [show 0 * 3 = 0 from rfl] at hx443_0)
          (try rw [Addr.add_zero'] at hx443_0)
          (try rw [show ((0 : Int)).toNat = 0 from rfl] at hx443_1)
          (try rw [show 0 * 3 = 0 from rfl] at hx443_1)
          (try rw [Addr.add_zero'] at hx443_1)
          (try rw [show ((0 : Int)).toNat = 0 from rfl] at hx443_2)
          (try rw [show 0 * 3 = 0 from rfl] at hx443_2)
          (try rw [Addr.add_zero'] at hx443_2)
          replace p443 := eq_true p443
          replace q443 := eq_true q443
          have p450 : 0 ≤ (0 : Int) := (by omega)
          have q450 : 0 < ([(⟨a0_0, a0_1, a0_2⟩ : S25)].length : Int) := (by simp)
          obtain ⟨ad450, e450, hx450_0, hx450_1, hx450_2⟩ := at_T25 HRp0.out 0 p450 q450
          replace hx450_0 : _ = (some (.int .i64 a0_0) : Option Value) := hx450_0
          replace hx450_1 : _ = (some (.int .i64 a0_1) : Option Value) := hx450_1
          replace hx450_2 : _ = (some (.int .i64 a0_2) : Option Value) := hx450_2
          obtain rfl : adp0 = ad450 := (by injection e450)
          have qi450 : (0 < [(⟨a0_0, a0_1, a0_2⟩ : S25)].length) = True := eq_true (by simp)
          (try rw [show ((0 : Int)).toNat = 0 from rfl] at hx450_0)
          (try rw [show 0 * 3 = 0 from rfl] at hx450_0)
          (try rw [Addr.add_zero'] at hx450_0)
          (try rw [show ((0 : Int)).toNat = 0 from rfl] at hx450_1)
          (try rw [show 0 * 3 = 0 from rfl] at hx450_1)
          (try rw [Addr.add_zero'] at hx450_1)
          (try rw [show ((0 : Int)).toNat = 0 from rfl] at hx450_2)
          (try rw [show 0 * 3 = 0 from rfl] at hx450_2)
          (try rw [Addr.add_zero'] at hx450_2)
          replace p450 := eq_true p450
          replace q450 := eq_true q450
          go_enter Try.func118, Try.ntmps118
          go_wp2_with (first | (go_at_call 121; (with_reducible refine (spec_l00Min.calls a2 (wrap64 ((wrap64 (a1 - 1)) - a2)) t451 _ A12.out).mono ?_); rintro e w' ⟨rfl, ⟨nd, rfl⟩⟩; (try first | exact ⟨rfl, _, World.drewN_drewN _ _ _⟩ | exact ⟨rfl, _, Eq.trans (World.drewN_drewN _ _ _) (congrArg (World.drewN _) (Nat.add_assoc _ _ _))⟩)) | (go_at_call 97; (with_reducible refine (spec_l01Div.calls (wrap64 (a0_1 * t451)) a1 t452 _ A13.out).mono ?_); rintro e w' ⟨rfl, ⟨nd, rfl⟩⟩; (try first | exact ⟨rfl, _, World.drewN_drewN _ _ _⟩ | exact ⟨rfl, _, Eq.trans (World.drewN_drewN _ _ _) (congrArg (World.drewN _) (Nat.add_assoc _ _ _))⟩)))
          repeat (go_quiet (first | (go_at_call 121; (with_reducible refine (spec_l00Min.calls a2 (wrap64 ((wrap64 (a1 - 1)) - a2)) t451 _ A12.out).mono ?_); rintro e w' ⟨rfl, ⟨nd, rfl⟩⟩; (try first | exact ⟨rfl, _, World.drewN_drewN _ _ _⟩ | exact ⟨rfl, _, Eq.trans (World.drewN_drewN _ _ _) (congrArg (World.drewN _) (Nat.add_assoc _ _ _))⟩)) | (go_at_call 97; (with_reducible refine (spec_l01Div.calls (wrap64 (a0_1 * t451)) a1 t452 _ A13.out).mono ?_); rintro e w' ⟨rfl, ⟨nd, rfl⟩⟩; (try first | exact ⟨rfl, _, World.drewN_drewN _ _ _⟩ | exact ⟨rfl, _, Eq.trans (World.drewN_drewN _ _ _) (congrArg (World.drewN _) (Nat.add_assoc _ _ _))⟩))); try go_wp2_with (first | (go_at_call 121; (with_reducible refine (spec_l00Min.calls a2 (wrap64 ((wrap64 (a1 - 1)) - a2)) t451 _ A12.out).mono ?_); rintro e w' ⟨rfl, ⟨nd, rfl⟩⟩; (try first | exact ⟨rfl, _, World.drewN_drewN _ _ _⟩ | exact ⟨rfl, _, Eq.trans (World.drewN_drewN _ _ _) (congrArg (World.drewN _) (Nat.add_assoc _ _ _))⟩)) | (go_at_call 97; (with_reducible refine (spec_l01Div.calls (wrap64 (a0_1 * t451)) a1 t452 _ A13.out).mono ?_); rintro e w' ⟨rfl, ⟨nd, rfl⟩⟩; (try first | exact ⟨rfl, _, World.drewN_drewN _ _ _⟩ | exact ⟨rfl, _, Eq.trans (World.drewN_drewN _ _ _) (congrArg (World.drewN _) (Nat.add_assoc _ _ _))⟩))))
          go_ret
          exact ⟨by first | rfl | (simp; done) | (simp [*]; done), by repeat (first | exact Drawn0.refl _ | apply Drawn0.step)⟩
        · rw [if_neg c11] at H
          have c11b0 : (a0_0 == 4) = false := beq_eq_false_iff_ne.mpr c11
          have c11b1 : (a0_0 != 4) = true := bne_iff_ne.mpr c11
          obtain rfl := Option.some.inj H
          have p443 : 0 ≤ (0 : Int) := (by omega)
          have q443 : 0 < ([(⟨a0_0, a0_1, a0_2⟩ : S25)].length : Int) := (by simp)
          obtain ⟨ad443, e443, hx443_0, hx443_1, hx443_2⟩ := at_T25 HRp0.out 0 p443 q443
          replace hx443_0 : _ = (some (.int .i64 a0_0) : Option Value) := hx443_0
          replace hx443_1 : _ = (some (.int .i64 a0_1) : Option Value) := hx443_1
          replace hx443_2 : _ = (some (.int .i64 a0_2) : Option Value) := hx443_2
          obtain rfl : adp0 = ad443 := (by injection e443)
          have qi443 : (0 < [(⟨a0_0, a0_1, a0_2⟩ : S25)].length) = True := eq_true (by simp)
          (try rw [show ((0 : Int)).toNat = 0 from rfl] at hx443_0)
          (try rw [show 0 * 3 = 0 from rfl] at hx443_0)
          (try rw [Addr.add_zero'] at hx443_0)
          (try rw [show ((0 : Int)).toNat = 0 from rfl] at hx443_1)
          (try rw [show 0 * 3 = 0 from rfl] at hx443_1)
          (try rw [Addr.add_zero'] at hx443_1)
          (try rw [show ((0 : Int)).toNat = 0 from rfl] at hx443_2)
          (try rw [show 0 * 3 = 0 from rfl] at hx443_2)
          (try rw [Addr.add_zero'] at hx443_2)
          replace p443 := eq_true p443
          replace q443 := eq_true q443
          go_enter Try.func118, Try.ntmps118
          go_wp2
          repeat (go_quiet (fail); try go_wp2)
          go_ret
          exact ⟨by first | rfl | (simp; done) | (simp [*]; done), by repeat (first | exact Drawn0.refl _ | apply Drawn0.step)⟩

end Go.Proofs.Ytbhmalpncnkmaaa.M
