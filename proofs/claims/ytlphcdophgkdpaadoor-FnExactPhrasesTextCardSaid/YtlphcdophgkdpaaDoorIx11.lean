/- What functions of the given program compute, as plain Lean functions, and that the code comes to just that; by a program of this session over the kit's print. No condition. -/
import Derived.Test.YtlphcdophgkdpaaDoorIx0
import Derived.Test.YtlphcdophgkdpaaDoorIx10
namespace Go.Proofs.YtlphcdophgkdpaaDoor.I
open Go.RowKit Go.Proofs.YtlphcdophgkdpaaDoorW.PrintWords Go.Proofs.YtlphcdophgkdpaaDoorW.PrintLast Go.Proofs.YtlphcdophgkdpaaDoorW.PrintMore
open Go.Proofs.YtlphcdophgkdpaaDoorW.PrintWords renaming gate_callee → gC
attribute [local go_sem] max2_int min2_int max_two min_two max_three min_three max_four min_four   -- for this text's walks alone
set_option linter.unusedVariables false
set_option linter.unusedSimpArgs false

/-! ### spec_l09Ok: function 73 -/
def spec_l09Ok.l0 : Nat → List (S102) → Int → Option (Bool)
 | 0, _, _ => none
 | k + 1, x0, x3 => if x3 < (x0.length : Int) then (if 0 ≤ x3 then ((spec_l03Pitch.f ((rd_T102 x0 x3).f0)).bind fun t197 => (if t197 = true then ((spec_l09Length.f ((rd_T102 x0 x3).f1)).bind fun t199 => (if t199 = true then (spec_l09Ok.l0 k x0 (wrap64 (x3 + 1))) else (some false))) else (some false))) else (none)) else (some (decide ((x0.length : Int) ≤ 48)))
def spec_l09Ok.f (k : Nat) (l0 : List (S102)) : Option (Bool) := spec_l09Ok.l0 k l0 0
theorem spec_l09Ok.mono_l : ∀ k, (∀ y0 y1, LeO (spec_l09Ok.l0 k y0 y1) (spec_l09Ok.l0 (k + 1) y0 y1))
 | 0 => fun _ _ r h => by simp [spec_l09Ok.l0] at h
 | k + 1 => by
  have ih0 := spec_l09Ok.mono_l k
  ·intro y0 y1
   unfold spec_l09Ok.l0
   repeat' first
   | (with_reducible exact ih0 _ _)
   | (with_reducible exact LeO.refl _)
   | (with_reducible exact LeO.none _)
   | (with_reducible refine LeO.ite ?_ ?_)
   | (with_reducible refine LeO.bind ?_ (fun _ => ?_))
   | exact ih0 _ _
   | exact LeO.none _
   | refine LeO.ite ?_ ?_
   | refine LeO.bind ?_ (fun _ => ?_)
theorem spec_l09Ok.mono : ∀ a0 k, LeO (spec_l09Ok.f k a0) (spec_l09Ok.f (k + 1) a0) := by
 intro a0 k
 have ih0 := spec_l09Ok.mono_l k
 unfold spec_l09Ok.f
 repeat' first
   | (with_reducible exact ih0 _ _)
   | (with_reducible exact LeO.refl _)
   | (with_reducible exact LeO.none _)
   | (with_reducible refine LeO.ite ?_ ?_)
   | (with_reducible refine LeO.bind ?_ (fun _ => ?_))
   | exact ih0 _ _
   | exact LeO.none _
   | refine LeO.ite ?_ ?_
   | refine LeO.bind ?_ (fun _ => ?_)
set_option maxHeartbeats 8000000 in
set_option maxRecDepth 100000 in
theorem spec_l09Ok.calls (k : Nat) (A0 : Option Addr) (c0 : Nat) (l0 : List (S102)) (r : Bool) (w : World) (hr0 : Kd.C k102 w A0 l0.length l0) (hc0 : l0.length ≤ c0) (h : spec_l09Ok.f k l0 = some r) :
  Calls Tryd.prog 73 #[.slice A0 l0.length c0] w fun e w' => e = .returned (.bool r) ∧ Drawn0 w w' := by
 have HR0 := Aside0.mk hr0
 have HC0 := Aside0.mk hc0
 clear hr0 hc0
 have H : (spec_l09Ok.l0 k l0 0) = some r := h
 clear h
 have H' := Aside0.mk H
 clear H
 go_enter Tryd.func73, Tryd.ntmps73
 go_wp2
 go_loopg [3] k (fun kq v3 w' => ∃ (x3_1 : Int), v3 = .int .i64 x3_1 ∧ Aside0 (spec_l09Ok.l0 kq l0 x3_1 = some r) ∧ Aside0 (kq ≤ k) ∧ Drawn0 w w')
 case atStart => exact ⟨(0), (by first | rfl | (simp; done) | (simp [*]; done)), H', ⟨Nat.le_refl _⟩, by repeat (first | exact Drawn0.refl _ | apply Drawn0.step)⟩
 case round =>
  clear H'
  obtain ⟨x3_1, rfl, HA, HK1, ⟨m1, rfl⟩⟩ := hrel
  cases gk with
  | zero => exact absurd HA.out (by simp [spec_l09Ok.l0])
  | succ k1 =>
   have H := HA.out
   clear HA
   simp only [spec_l09Ok.l0] at H
   by_cases c2 : x3_1 < (l0.length : Int)
   ·rw [if_pos c2] at H
    have c2b0 : decide (x3_1 < (l0.length : Int)) = true := decide_eq_true c2
    clear c2
    by_cases c3 : 0 ≤ x3_1
    ·rw [if_pos c3] at H
     have c3b0 : decide (0 ≤ x3_1) = true := decide_eq_true c3
     clear c3
     replace H := Option.bind_eq_some_iff.mp H
     obtain ⟨t197, A40, H⟩ := H
     replace H : (if t197 = true then ((spec_l09Length.f ((rd_T102 l0 x3_1).f1)).bind fun t199 => (if t199 = true then (spec_l09Ok.l0 k1 l0 (wrap64 (x3_1 + 1))) else (some false))) else (some false)) = some r := H
     have A4 := Aside0.mk A40
     clear A40
     by_cases c5 : t197 = true
     ·subst c5
      have H1 : ((spec_l09Length.f ((rd_T102 l0 x3_1).f1)).bind fun t199 => (if t199 = true then (spec_l09Ok.l0 k1 l0 (wrap64 (x3_1 + 1))) else (some false))) = some r := by rw [if_pos rfl] at H; exact H
      clear H
      have H := H1
      clear H1
      replace H := Option.bind_eq_some_iff.mp H
      obtain ⟨t199, A60, H⟩ := H
      replace H : (if t199 = true then (spec_l09Ok.l0 k1 l0 (wrap64 (x3_1 + 1))) else (some false)) = some r := H
      have A6 := Aside0.mk A60
      clear A60
      by_cases c7 : t199 = true
      ·subst c7
       have H1 : (spec_l09Ok.l0 k1 l0 (wrap64 (x3_1 + 1))) = some r := by rw [if_pos rfl] at H; exact H
       clear H
       have H := H1
       clear H1
       have H' := Aside0.mk H
       clear H
       have p196 : 0 ≤ (x3_1 : Int) := of_decide_eq_true (by first | (with_reducible assumption) | assumption)
       have q196 : x3_1 < (l0.length : Int) := of_decide_eq_true (by first | (with_reducible assumption) | assumption)
       obtain ⟨ad196, e196, hx196_0, hx196_1⟩ := at_T102 HR0.out x3_1 p196 q196
       cases e196
       replace p196 := eq_true p196
       replace q196 := eq_true q196
       go_wp2_with (first | ((with_reducible refine gC (f := 102) rfl ?_); refine goesL_ (some 15) rfl rfl Tryd.func102 (by kernel_rfl) rfl #[.int .i64 ((rd_T102 l0 x3_1).f0)] rfl (by (try simp only [List.map_toArray, List.map_cons, List.map_nil]); first | done | rfl | (simp only [List.length_drop, List.length_take]; rfl)) ?_; (with_reducible refine (spec_l03Pitch.calls ((rd_T102 l0 x3_1).f0) true _ A4.out).mono ?_); rintro e w' ⟨rfl, ⟨nd, rfl⟩⟩; refine ⟨_, rfl, ?_⟩; have p198 : 0 ≤ (x3_1 : Int) := of_decide_eq_true (by first | (with_reducible assumption) | assumption); have q198 : x3_1 < (l0.length : Int) := of_decide_eq_true (by first | (with_reducible assumption) | assumption); obtain ⟨ad198, e198, hx198_0, hx198_1⟩ := at_T102 HR0.out x3_1 p198 q198; obtain rfl : ad196 = ad198 := (by injection e198); replace p198 := eq_true p198; replace q198 := eq_true q198) | (go_at_call 113; (with_reducible refine (spec_l09Length.calls ((rd_T102 l0 x3_1).f1) true _ A6.out).mono ?_); rintro e w' ⟨rfl, ⟨nd, rfl⟩⟩))
       go_roundg k1
       case measure => have := HK1.out; omega
       case rel => exact ⟨(wrap64 (x3_1 + 1)), (by first | rfl | (simp; done) | (simp [*]; done)), H', ⟨by have := HK1.out; omega⟩, by repeat (first | exact Drawn0.refl _ | apply Drawn0.step)⟩
      ·replace c7 := Bool.eq_false_iff.mpr c7
       subst c7
       have H1 : (some false) = some r := by rw [if_neg (show ¬ (false = true) by decide)] at H; exact H
       clear H
       have H := H1
       clear H1
       obtain rfl := Option.some.inj H
       have p196 : 0 ≤ (x3_1 : Int) := of_decide_eq_true (by first | (with_reducible assumption) | assumption)
       have q196 : x3_1 < (l0.length : Int) := of_decide_eq_true (by first | (with_reducible assumption) | assumption)
       obtain ⟨ad196, e196, hx196_0, hx196_1⟩ := at_T102 HR0.out x3_1 p196 q196
       cases e196
       replace p196 := eq_true p196
       replace q196 := eq_true q196
       go_wp2_with (first | ((with_reducible refine gC (f := 102) rfl ?_); refine goesL_ (some 15) rfl rfl Tryd.func102 (by kernel_rfl) rfl #[.int .i64 ((rd_T102 l0 x3_1).f0)] rfl (by (try simp only [List.map_toArray, List.map_cons, List.map_nil]); first | done | rfl | (simp only [List.length_drop, List.length_take]; rfl)) ?_; (with_reducible refine (spec_l03Pitch.calls ((rd_T102 l0 x3_1).f0) true _ A4.out).mono ?_); rintro e w' ⟨rfl, ⟨nd, rfl⟩⟩; refine ⟨_, rfl, ?_⟩; have p198 : 0 ≤ (x3_1 : Int) := of_decide_eq_true (by first | (with_reducible assumption) | assumption); have q198 : x3_1 < (l0.length : Int) := of_decide_eq_true (by first | (with_reducible assumption) | assumption); obtain ⟨ad198, e198, hx198_0, hx198_1⟩ := at_T102 HR0.out x3_1 p198 q198; obtain rfl : ad196 = ad198 := (by injection e198); replace p198 := eq_true p198; replace q198 := eq_true q198) | (go_at_call 113; (with_reducible refine (spec_l09Length.calls ((rd_T102 l0 x3_1).f1) false _ A6.out).mono ?_); rintro e w' ⟨rfl, ⟨nd, rfl⟩⟩))
       go_ret
       exact ⟨by first | rfl | (simp; done) | (simp [*]; done), by repeat (first | exact Drawn0.refl _ | apply Drawn0.step)⟩
     ·replace c5 := Bool.eq_false_iff.mpr c5
      subst c5
      have H1 : (some false) = some r := by rw [if_neg (show ¬ (false = true) by decide)] at H; exact H
      clear H
      have H := H1
      clear H1
      obtain rfl := Option.some.inj H
      have p196 : 0 ≤ (x3_1 : Int) := of_decide_eq_true (by first | (with_reducible assumption) | assumption)
      have q196 : x3_1 < (l0.length : Int) := of_decide_eq_true (by first | (with_reducible assumption) | assumption)
      obtain ⟨ad196, e196, hx196_0, hx196_1⟩ := at_T102 HR0.out x3_1 p196 q196
      cases e196
      replace p196 := eq_true p196
      replace q196 := eq_true q196
      go_wp2_with (first | ((with_reducible refine gC (f := 102) rfl ?_); refine goesL_ (some 15) rfl rfl Tryd.func102 (by kernel_rfl) rfl #[.int .i64 ((rd_T102 l0 x3_1).f0)] rfl (by (try simp only [List.map_toArray, List.map_cons, List.map_nil]); first | done | rfl | (simp only [List.length_drop, List.length_take]; rfl)) ?_; (with_reducible refine (spec_l03Pitch.calls ((rd_T102 l0 x3_1).f0) false _ A4.out).mono ?_); rintro e w' ⟨rfl, ⟨nd, rfl⟩⟩; refine ⟨_, rfl, ?_⟩))
      go_ret
      exact ⟨by first | rfl | (simp; done) | (simp [*]; done), by repeat (first | exact Drawn0.refl _ | apply Drawn0.step)⟩
    ·rw [if_neg c3] at H
     exact absurd H (by simp)
   ·rw [if_neg c2] at H
    have c2b0 : decide (x3_1 < (l0.length : Int)) = false := decide_eq_false c2
    clear c2
    obtain rfl := Option.some.inj H
    go_wp2
    go_ret
    exact ⟨by first | rfl | (simp; done) | (simp [*]; done), by repeat (first | exact Drawn0.refl _ | apply Drawn0.step)⟩

/-! ### spec_l03Tone: function 148 -/
def spec_l03Tone.f (a0 : Int) : Option (Int) := some (Int.tmod (wrap64 ((Int.tmod a0 12) + 12)) 12)
set_option maxHeartbeats 8000000 in
set_option maxRecDepth 100000 in
theorem spec_l03Tone.calls (a0 : Int) (r : Int) (w : World) (h : spec_l03Tone.f a0 = some r) :
  Calls Tryd.prog 148 #[.int .i64 a0] w fun e w' => e = .returned (.int .i64 r) ∧ Drawn0 w w' := by
 have H : (some (Int.tmod (wrap64 ((Int.tmod a0 12) + 12)) 12)) = some r := h
 clear h
 obtain rfl := Option.some.inj H
 go_enter Tryd.func148, Tryd.ntmps148
 go_wp2
 go_ret
 exact ⟨by first | rfl | (simp; done) | (simp [*]; done), by repeat (first | exact Drawn0.refl _ | apply Drawn0.step)⟩

/-! ### spec_l03Names: function 149 -/
def spec_l03Names.f  : Option (ByteArray) := some (⟨#[83, 114, 82, 103, 71, 109, 77, 80, 100, 68, 110, 78]⟩ : ByteArray)
set_option maxHeartbeats 8000000 in
set_option maxRecDepth 100000 in
theorem spec_l03Names.calls  (r : ByteArray) (w : World) (h : spec_l03Names.f  = some r) :
  Calls Tryd.prog 149 #[] w fun e w' => e = .returned (.string r) ∧ Drawn0 w w' := by
 have H : (some (⟨#[83, 114, 82, 103, 71, 109, 77, 80, 100, 68, 110, 78]⟩ : ByteArray)) = some r := h
 clear h
 obtain rfl := Option.some.inj H
 go_enter Tryd.func149, Tryd.ntmps149
 go_wp2
 go_ret
 exact ⟨by first | rfl | (simp; done) | (simp [*]; done), by repeat (first | exact Drawn0.refl _ | apply Drawn0.step)⟩

/-! ### spec_l03Floor: function 150 -/
def spec_l03Floor.f (a0 : Int) : Option (Int) := (spec_l03Tone.f a0).bind fun t200 => (some (wrap64 (Int.tdiv (wrap64 (a0 - t200)) 12)))
set_option maxHeartbeats 8000000 in
set_option maxRecDepth 100000 in
theorem spec_l03Floor.calls (a0 : Int) (r : Int) (w : World) (h : spec_l03Floor.f a0 = some r) :
  Calls Tryd.prog 150 #[.int .i64 a0] w fun e w' => e = .returned (.int .i64 r) ∧ Drawn0 w w' := by
 have H : ((spec_l03Tone.f a0).bind fun t200 => (some (wrap64 (Int.tdiv (wrap64 (a0 - t200)) 12)))) = some r := h
 clear h
 replace H := Option.bind_eq_some_iff.mp H
 obtain ⟨t200, A20, H⟩ := H
 replace H : (some (wrap64 (Int.tdiv (wrap64 (a0 - t200)) 12))) = some r := H
 have A2 := Aside0.mk A20
 clear A20
 obtain rfl := Option.some.inj H
 go_enter Tryd.func150, Tryd.ntmps150
 go_wp2_with (first | ((with_reducible refine gC (f := 148) rfl ?_); refine goesL_ (some 5) rfl rfl Tryd.func148 (by kernel_rfl) rfl #[.int .i64 a0] rfl (by (try simp only [List.map_toArray, List.map_cons, List.map_nil]); first | done | rfl | (simp only [List.length_drop, List.length_take]; rfl)) ?_; (with_reducible refine (spec_l03Tone.calls a0 t200 _ A2.out).mono ?_); rintro e w' ⟨rfl, ⟨nd, rfl⟩⟩; refine ⟨_, rfl, ?_⟩))
 go_ret
 exact ⟨by first | rfl | (simp; done) | (simp [*]; done), by repeat (first | exact Drawn0.refl _ | apply Drawn0.step)⟩

/-! ### spec_l09Name: function 114 -/
def spec_l09Name.f (a0 : Int) : Option (ByteArray) := (spec_l03Tone.f a0).bind fun t201 => ((spec_l03Names.f).bind fun t202 => (if 0 ≤ t201 then (if t201 ≤ (wrap64 (t201 + 1)) then (if (wrap64 (t201 + 1)) ≤ (t202.size : Int) then ((spec_l03Floor.f a0).bind fun t203 => (if t203 = (-1) then (if (t202.extract (t201 : Int).toNat ((wrap64 (t201 + 1)) : Int).toNat).size + 1 ≤ 9223372036854775807 then (some ((t202.extract (t201 : Int).toNat ((wrap64 (t201 + 1)) : Int).toNat) ++ (⟨#[44]⟩ : ByteArray))) else (none)) else (if t203 = 1 then (if (t202.extract (t201 : Int).toNat ((wrap64 (t201 + 1)) : Int).toNat).size + 1 ≤ 9223372036854775807 then (some ((t202.extract (t201 : Int).toNat ((wrap64 (t201 + 1)) : Int).toNat) ++ (⟨#[39]⟩ : ByteArray))) else (none)) else (some (t202.extract (t201 : Int).toNat ((wrap64 (t201 + 1)) : Int).toNat))))) else (none)) else (none)) else (none)))
set_option maxHeartbeats 8000000 in
set_option maxRecDepth 100000 in
theorem spec_l09Name.calls (a0 : Int) (r : ByteArray) (w : World) (h : spec_l09Name.f a0 = some r) :
  Calls Tryd.prog 114 #[.int .i64 a0] w fun e w' => e = .returned (.string r) ∧ Drawn0 w w' := by
 have H : ((spec_l03Tone.f a0).bind fun t201 => ((spec_l03Names.f).bind fun t202 => (if 0 ≤ t201 then (if t201 ≤ (wrap64 (t201 + 1)) then (if (wrap64 (t201 + 1)) ≤ (t202.size : Int) then ((spec_l03Floor.f a0).bind fun t203 => (if t203 = (-1) then (if (t202.extract (t201 : Int).toNat ((wrap64 (t201 + 1)) : Int).toNat).size + 1 ≤ 9223372036854775807 then (some ((t202.extract (t201 : Int).toNat ((wrap64 (t201 + 1)) : Int).toNat) ++ (⟨#[44]⟩ : ByteArray))) else (none)) else (if t203 = 1 then (if (t202.extract (t201 : Int).toNat ((wrap64 (t201 + 1)) : Int).toNat).size + 1 ≤ 9223372036854775807 then (some ((t202.extract (t201 : Int).toNat ((wrap64 (t201 + 1)) : Int).toNat) ++ (⟨#[39]⟩ : ByteArray))) else (none)) else (some (t202.extract (t201 : Int).toNat ((wrap64 (t201 + 1)) : Int).toNat))))) else (none)) else (none)) else (none)))) = some r := h
 clear h
 replace H := Option.bind_eq_some_iff.mp H
 obtain ⟨t201, A20, H⟩ := H
 replace H : ((spec_l03Names.f).bind fun t202 => (if 0 ≤ t201 then (if t201 ≤ (wrap64 (t201 + 1)) then (if (wrap64 (t201 + 1)) ≤ (t202.size : Int) then ((spec_l03Floor.f a0).bind fun t203 => (if t203 = (-1) then (if (t202.extract (t201 : Int).toNat ((wrap64 (t201 + 1)) : Int).toNat).size + 1 ≤ 9223372036854775807 then (some ((t202.extract (t201 : Int).toNat ((wrap64 (t201 + 1)) : Int).toNat) ++ (⟨#[44]⟩ : ByteArray))) else (none)) else (if t203 = 1 then (if (t202.extract (t201 : Int).toNat ((wrap64 (t201 + 1)) : Int).toNat).size + 1 ≤ 9223372036854775807 then (some ((t202.extract (t201 : Int).toNat ((wrap64 (t201 + 1)) : Int).toNat) ++ (⟨#[39]⟩ : ByteArray))) else (none)) else (some (t202.extract (t201 : Int).toNat ((wrap64 (t201 + 1)) : Int).toNat))))) else (none)) else (none)) else (none))) = some r := H
 have A2 := Aside0.mk A20
 clear A20
 replace H := Option.bind_eq_some_iff.mp H
 obtain ⟨t202, A30, H⟩ := H
 replace H : (if 0 ≤ t201 then (if t201 ≤ (wrap64 (t201 + 1)) then (if (wrap64 (t201 + 1)) ≤ (t202.size : Int) then ((spec_l03Floor.f a0).bind fun t203 => (if t203 = (-1) then (if (t202.extract (t201 : Int).toNat ((wrap64 (t201 + 1)) : Int).toNat).size + 1 ≤ 9223372036854775807 then (some ((t202.extract (t201 : Int).toNat ((wrap64 (t201 + 1)) : Int).toNat) ++ (⟨#[44]⟩ : ByteArray))) else (none)) else (if t203 = 1 then (if (t202.extract (t201 : Int).toNat ((wrap64 (t201 + 1)) : Int).toNat).size + 1 ≤ 9223372036854775807 then (some ((t202.extract (t201 : Int).toNat ((wrap64 (t201 + 1)) : Int).toNat) ++ (⟨#[39]⟩ : ByteArray))) else (none)) else (some (t202.extract (t201 : Int).toNat ((wrap64 (t201 + 1)) : Int).toNat))))) else (none)) else (none)) else (none)) = some r := H
 have A3 := Aside0.mk A30
 clear A30
 by_cases c4 : 0 ≤ t201
 ·rw [if_pos c4] at H
  have c4b0 := eq_true c4
  have c4b1 : decide (0 ≤ t201) = true := decide_eq_true c4
  clear c4
  by_cases c5 : t201 ≤ (wrap64 (t201 + 1))
  ·rw [if_pos c5] at H
   have c5b0 := eq_true c5
   have c5b1 : decide (t201 ≤ (wrap64 (t201 + 1))) = true := decide_eq_true c5
   by_cases c6 : (wrap64 (t201 + 1)) ≤ (t202.size : Int)
   ·rw [if_pos c6] at H
    have c6b0 := eq_true c6
    have c6b1 : decide ((wrap64 (t201 + 1)) ≤ (t202.size : Int)) = true := decide_eq_true c6
    replace H := Option.bind_eq_some_iff.mp H
    obtain ⟨t203, A70, H⟩ := H
    replace H : (if t203 = (-1) then (if (t202.extract (t201 : Int).toNat ((wrap64 (t201 + 1)) : Int).toNat).size + 1 ≤ 9223372036854775807 then (some ((t202.extract (t201 : Int).toNat ((wrap64 (t201 + 1)) : Int).toNat) ++ (⟨#[44]⟩ : ByteArray))) else (none)) else (if t203 = 1 then (if (t202.extract (t201 : Int).toNat ((wrap64 (t201 + 1)) : Int).toNat).size + 1 ≤ 9223372036854775807 then (some ((t202.extract (t201 : Int).toNat ((wrap64 (t201 + 1)) : Int).toNat) ++ (⟨#[39]⟩ : ByteArray))) else (none)) else (some (t202.extract (t201 : Int).toNat ((wrap64 (t201 + 1)) : Int).toNat)))) = some r := H
    have A7 := Aside0.mk A70
    clear A70
    by_cases c8 : t203 = (-1)
    ·rw [if_pos c8] at H
     have c8b0 : (t203 == (-1)) = true := beq_iff_eq.mpr c8
     have c8b1 : (t203 != (-1)) = false := bne_eq_false_iff_eq.mpr c8
     clear c8
     by_cases c9 : (t202.extract (t201 : Int).toNat ((wrap64 (t201 + 1)) : Int).toNat).size + 1 ≤ 9223372036854775807
     ·rw [if_pos c9] at H
      have c9b0 := eq_true c9
      have c9b1 : decide ((t202.extract (t201 : Int).toNat ((wrap64 (t201 + 1)) : Int).toNat).size + 1 ≤ 9223372036854775807) = true := decide_eq_true c9
      try have c9b2 : (9223372036854775807 < (t202.extract (t201 : Int).toNat ((wrap64 (t201 + 1)) : Int).toNat).size + 1) = False := eq_false (Nat.not_lt.2 c9)
      try have c9z : (9223372036854775807 < min ((wrap64 (t201 + 1)) : Int).toNat t202.size - (t201 : Int).toNat + 1) = False := by simpa only [ByteArray.size_extract] using c9b2
      try have c9y : (9223372036854775807 < ((wrap64 (t201 + 1)) : Int).toNat - (t201 : Int).toNat + 1) = False := eq_false (by have h_ := c9; rw [ByteArray.size_extract] at h_; omega)
      obtain rfl := Option.some.inj H
      go_enter Tryd.func114, Tryd.ntmps114
      go_wp2_with (first | ((with_reducible refine gC (f := 148) rfl ?_); refine goesL_ (some 6) rfl rfl Tryd.func148 (by kernel_rfl) rfl #[.int .i64 a0] rfl (by (try simp only [List.map_toArray, List.map_cons, List.map_nil]); first | done | rfl | (simp only [List.length_drop, List.length_take]; rfl)) ?_; (with_reducible refine (spec_l03Tone.calls a0 t201 _ A2.out).mono ?_); rintro e w' ⟨rfl, ⟨nd, rfl⟩⟩; refine ⟨_, rfl, ?_⟩) | ((with_reducible refine gC (f := 149) rfl ?_); refine goesL_ (some 7) rfl rfl Tryd.func149 (by kernel_rfl) rfl #[] rfl (by (try simp only [List.map_toArray, List.map_cons, List.map_nil]); first | done | rfl | (simp only [List.length_drop, List.length_take]; rfl)) ?_; (with_reducible refine (spec_l03Names.calls  t202 _ A3.out).mono ?_); rintro e w' ⟨rfl, ⟨nd, rfl⟩⟩; refine ⟨_, rfl, ?_⟩) | ((with_reducible refine gC (f := 150) rfl ?_); refine goesL_ (some 13) rfl rfl Tryd.func150 (by kernel_rfl) rfl #[.int .i64 a0] rfl (by (try simp only [List.map_toArray, List.map_cons, List.map_nil]); first | done | rfl | (simp only [List.length_drop, List.length_take]; rfl)) ?_; (with_reducible refine (spec_l03Floor.calls a0 t203 _ A7.out).mono ?_); rintro e w' ⟨rfl, ⟨nd, rfl⟩⟩; refine ⟨_, rfl, ?_⟩))
      go_ret
      exact ⟨by first | rfl | (simp; done) | (simp [*]; done), by repeat (first | exact Drawn0.refl _ | apply Drawn0.step)⟩
     ·rw [if_neg c9] at H
      exact absurd H (by simp)
    ·rw [if_neg c8] at H
     have c8b0 : (t203 == (-1)) = false := beq_eq_false_iff_ne.mpr c8
     have c8b1 : (t203 != (-1)) = true := bne_iff_ne.mpr c8
     by_cases c10 : t203 = 1
     ·rw [if_pos c10] at H
      have c10b0 : (t203 == 1) = true := beq_iff_eq.mpr c10
      have c10b1 : (t203 != 1) = false := bne_eq_false_iff_eq.mpr c10
      clear c10
      by_cases c11 : (t202.extract (t201 : Int).toNat ((wrap64 (t201 + 1)) : Int).toNat).size + 1 ≤ 9223372036854775807
      ·rw [if_pos c11] at H
       have c11b0 := eq_true c11
       have c11b1 : decide ((t202.extract (t201 : Int).toNat ((wrap64 (t201 + 1)) : Int).toNat).size + 1 ≤ 9223372036854775807) = true := decide_eq_true c11
       try have c11b2 : (9223372036854775807 < (t202.extract (t201 : Int).toNat ((wrap64 (t201 + 1)) : Int).toNat).size + 1) = False := eq_false (Nat.not_lt.2 c11)
       try have c11z : (9223372036854775807 < min ((wrap64 (t201 + 1)) : Int).toNat t202.size - (t201 : Int).toNat + 1) = False := by simpa only [ByteArray.size_extract] using c11b2
       try have c11y : (9223372036854775807 < ((wrap64 (t201 + 1)) : Int).toNat - (t201 : Int).toNat + 1) = False := eq_false (by have h_ := c11; rw [ByteArray.size_extract] at h_; omega)
       obtain rfl := Option.some.inj H
       go_enter Tryd.func114, Tryd.ntmps114
       go_wp2_with (first | ((with_reducible refine gC (f := 148) rfl ?_); refine goesL_ (some 6) rfl rfl Tryd.func148 (by kernel_rfl) rfl #[.int .i64 a0] rfl (by (try simp only [List.map_toArray, List.map_cons, List.map_nil]); first | done | rfl | (simp only [List.length_drop, List.length_take]; rfl)) ?_; (with_reducible refine (spec_l03Tone.calls a0 t201 _ A2.out).mono ?_); rintro e w' ⟨rfl, ⟨nd, rfl⟩⟩; refine ⟨_, rfl, ?_⟩) | ((with_reducible refine gC (f := 149) rfl ?_); refine goesL_ (some 7) rfl rfl Tryd.func149 (by kernel_rfl) rfl #[] rfl (by (try simp only [List.map_toArray, List.map_cons, List.map_nil]); first | done | rfl | (simp only [List.length_drop, List.length_take]; rfl)) ?_; (with_reducible refine (spec_l03Names.calls  t202 _ A3.out).mono ?_); rintro e w' ⟨rfl, ⟨nd, rfl⟩⟩; refine ⟨_, rfl, ?_⟩) | ((with_reducible refine gC (f := 150) rfl ?_); refine goesL_ (some 13) rfl rfl Tryd.func150 (by kernel_rfl) rfl #[.int .i64 a0] rfl (by (try simp only [List.map_toArray, List.map_cons, List.map_nil]); first | done | rfl | (simp only [List.length_drop, List.length_take]; rfl)) ?_; (with_reducible refine (spec_l03Floor.calls a0 t203 _ A7.out).mono ?_); rintro e w' ⟨rfl, ⟨nd, rfl⟩⟩; refine ⟨_, rfl, ?_⟩))
       go_ret
       exact ⟨by first | rfl | (simp; done) | (simp [*]; done), by repeat (first | exact Drawn0.refl _ | apply Drawn0.step)⟩
      ·rw [if_neg c11] at H
       exact absurd H (by simp)
     ·rw [if_neg c10] at H
      have c10b0 : (t203 == 1) = false := beq_eq_false_iff_ne.mpr c10
      have c10b1 : (t203 != 1) = true := bne_iff_ne.mpr c10
      obtain rfl := Option.some.inj H
      go_enter Tryd.func114, Tryd.ntmps114
      go_wp2_with (first | ((with_reducible refine gC (f := 148) rfl ?_); refine goesL_ (some 6) rfl rfl Tryd.func148 (by kernel_rfl) rfl #[.int .i64 a0] rfl (by (try simp only [List.map_toArray, List.map_cons, List.map_nil]); first | done | rfl | (simp only [List.length_drop, List.length_take]; rfl)) ?_; (with_reducible refine (spec_l03Tone.calls a0 t201 _ A2.out).mono ?_); rintro e w' ⟨rfl, ⟨nd, rfl⟩⟩; refine ⟨_, rfl, ?_⟩) | ((with_reducible refine gC (f := 149) rfl ?_); refine goesL_ (some 7) rfl rfl Tryd.func149 (by kernel_rfl) rfl #[] rfl (by (try simp only [List.map_toArray, List.map_cons, List.map_nil]); first | done | rfl | (simp only [List.length_drop, List.length_take]; rfl)) ?_; (with_reducible refine (spec_l03Names.calls  t202 _ A3.out).mono ?_); rintro e w' ⟨rfl, ⟨nd, rfl⟩⟩; refine ⟨_, rfl, ?_⟩) | ((with_reducible refine gC (f := 150) rfl ?_); refine goesL_ (some 13) rfl rfl Tryd.func150 (by kernel_rfl) rfl #[.int .i64 a0] rfl (by (try simp only [List.map_toArray, List.map_cons, List.map_nil]); first | done | rfl | (simp only [List.length_drop, List.length_take]; rfl)) ?_; (with_reducible refine (spec_l03Floor.calls a0 t203 _ A7.out).mono ?_); rintro e w' ⟨rfl, ⟨nd, rfl⟩⟩; refine ⟨_, rfl, ?_⟩))
      go_ret
      exact ⟨by first | rfl | (simp; done) | (simp [*]; done), by repeat (first | exact Drawn0.refl _ | apply Drawn0.step)⟩
   ·rw [if_neg c6] at H
    exact absurd H (by simp)
  ·rw [if_neg c5] at H
   exact absurd H (by simp)
 ·rw [if_neg c4] at H
  exact absurd H (by simp)

end Go.Proofs.YtlphcdophgkdpaaDoor.I
-- shrunk
-- tight
