/- What functions of the given program compute, as plain Lean functions, and that the code comes to just that; by a program of this session over the kit's print. No condition. -/
import Derived.Test.YtbhmalpncnkmaaaM2x0
namespace Go.Proofs.Ytbhmalpncnkmaaa.M2
open Go.RowKit Go.Proofs.YtbhmalpncnkmaaaW.PrintWords Go.Proofs.YtbhmalpncnkmaaaW.PrintLast Go.Proofs.YtbhmalpncnkmaaaW.PrintMore
attribute [local go_sem] max2_int min2_int max_two min_two max_three min_three max_four min_four   -- for this text's walks alone
set_option linter.unusedVariables false
set_option linter.unusedSimpArgs false

/-! ### spec_l10Name: function 87 -/
def spec_l10Name.f (a0 : Int) : Option (ByteArray) := if a0 = 1 then (some (⟨#[103, 108, 105, 100, 101]⟩ : ByteArray)) else (if a0 = 2 then (some (⟨#[115, 104, 97, 107, 101]⟩ : ByteArray)) else (if a0 = 3 then (some (⟨#[103, 114, 97, 99, 101]⟩ : ByteArray)) else (if a0 = 4 then (some (⟨#[115, 119, 101, 108, 108]⟩ : ByteArray)) else (some (⟨#[]⟩ : ByteArray)))))
set_option maxHeartbeats 8000000 in
set_option maxRecDepth 100000 in
theorem spec_l10Name.calls (a0 : Int) (r : ByteArray) (w : World) (h : spec_l10Name.f a0 = some r) :
    Calls Try.prog 87 #[.int .i64 a0] w fun e w' => e = .returned (.string r) ∧ Drawn0 w w' := by
  have H : (if a0 = 1 then (some (⟨#[103, 108, 105, 100, 101]⟩ : ByteArray)) else (if a0 = 2 then (some (⟨#[115, 104, 97, 107, 101]⟩ : ByteArray)) else (if a0 = 3 then (some (⟨#[103, 114, 97, 99, 101]⟩ : ByteArray)) else (if a0 = 4 then (some (⟨#[115, 119, 101, 108, 108]⟩ : ByteArray)) else (some (⟨#[]⟩ : ByteArray)))))) = some r := h
  clear h
  by_cases c2 : a0 = 1
  · rw [if_pos c2] at H
    have c2b0 : (a0 == 1) = true := beq_iff_eq.mpr c2
    have c2b1 : (a0 != 1) = false := bne_eq_false_iff_eq.mpr c2
    clear c2
    obtain rfl := Option.some.inj H
    go_enter Try.func87, Try.ntmps87
    go_wp2
    go_ret
    exact ⟨by first | rfl | (simp; done) | (simp [*]; done), by repeat (first | exact Drawn0.refl _ | apply Drawn0.step)⟩
  · rw [if_neg c2] at H
    have c2b0 : (a0 == 1) = false := beq_eq_false_iff_ne.mpr c2
    have c2b1 : (a0 != 1) = true := bne_iff_ne.mpr c2
    by_cases c3 : a0 = 2
    · rw [if_pos c3] at H
      have c3b0 : (a0 == 2) = true := beq_iff_eq.mpr c3
      have c3b1 : (a0 != 2) = false := bne_eq_false_iff_eq.mpr c3
      clear c3
      obtain rfl := Option.some.inj H
      go_enter Try.func87, Try.ntmps87
      go_wp2
      go_ret
      exact ⟨by first | rfl | (simp; done) | (simp [*]; done), by repeat (first | exact Drawn0.refl _ | apply Drawn0.step)⟩
    · rw [if_neg c3] at H
      have c3b0 : (a0 == 2) = false := beq_eq_false_iff_ne.mpr c3
      have c3b1 : (a0 != 2) = true := bne_iff_ne.mpr c3
      by_cases c4 : a0 = 3
      · rw [if_pos c4] at H
        have c4b0 : (a0 == 3) = true := beq_iff_eq.mpr c4
        have c4b1 : (a0 != 3) = false := bne_eq_false_iff_eq.mpr c4
        clear c4
        obtain rfl := Option.some.inj H
        go_enter Try.func87, Try.ntmps87
        go_wp2
        go_ret
        exact ⟨by first | rfl | (simp; done) | (simp [*]; done), by repeat (first | exact Drawn0.refl _ | apply Drawn0.step)⟩
      · rw [if_neg c4] at H
        have c4b0 : (a0 == 3) = false := beq_eq_false_iff_ne.mpr c4
        have c4b1 : (a0 != 3) = true := bne_iff_ne.mpr c4
        by_cases c5 : a0 = 4
        · rw [if_pos c5] at H
          have c5b0 : (a0 == 4) = true := beq_iff_eq.mpr c5
          have c5b1 : (a0 != 4) = false := bne_eq_false_iff_eq.mpr c5
          clear c5
          obtain rfl := Option.some.inj H
          go_enter Try.func87, Try.ntmps87
          go_wp2
          go_ret
          exact ⟨by first | rfl | (simp; done) | (simp [*]; done), by repeat (first | exact Drawn0.refl _ | apply Drawn0.step)⟩
        · rw [if_neg c5] at H
          have c5b0 : (a0 == 4) = false := beq_eq_false_iff_ne.mpr c5
          have c5b1 : (a0 != 4) = true := bne_iff_ne.mpr c5
          obtain rfl := Option.some.inj H
          go_enter Try.func87, Try.ntmps87
          go_wp2
          go_ret
          exact ⟨by first | rfl | (simp; done) | (simp [*]; done), by repeat (first | exact Drawn0.refl _ | apply Drawn0.step)⟩

/-! ### spec_OrnamentName: function 30 -/
def spec_OrnamentName.f (a0 : Int) : Option (ByteArray) := (spec_l10Name.f a0).bind fun t101 => (some t101)
set_option maxHeartbeats 8000000 in
set_option maxRecDepth 100000 in
theorem spec_OrnamentName.calls (a0 : Int) (r : ByteArray) (w : World) (h : spec_OrnamentName.f a0 = some r) :
    Calls Try.prog 30 #[.int .i64 a0] w fun e w' => e = .returned (.string r) ∧ Drawn0 w w' := by
  have H : ((spec_l10Name.f a0).bind fun t101 => (some t101)) = some r := h
  clear h
  replace H := Option.bind_eq_some_iff.mp H
  obtain ⟨t101, A20, H⟩ := H
  replace H : (some t101) = some r := H
  have A2 := Aside0.mk A20
  clear A20
  obtain rfl := Option.some.inj H
  go_enter Try.func30, Try.ntmps30
  go_wp2_with (first | ((with_reducible refine gate_callee (f := 87) rfl ?_); refine goesL_ (some 4) rfl rfl Try.func87 (by kernel_rfl) rfl #[.int .i64 a0] rfl (by (try simp only [List.map_toArray, List.map_cons, List.map_nil]); first | done | rfl | (simp only [List.length_drop, List.length_take]; rfl)) ?_; (with_reducible refine (spec_l10Name.calls a0 t101 _ A2.out).mono ?_); rintro e w' ⟨rfl, ⟨nd, rfl⟩⟩; refine ⟨_, rfl, ?_⟩))
  go_ret
  exact ⟨by first | rfl | (simp; done) | (simp [*]; done), by repeat (first | exact Drawn0.refl _ | apply Drawn0.step)⟩

/-! ### impl_within: function 86 -/
def impl_within.f (a0 : Int) (a1 : Int) (a2 : Int) : Option (Bool) := if a0 ≥ a1 then (some (decide (a0 ≤ a2))) else (some false)
set_option maxHeartbeats 8000000 in
set_option maxRecDepth 100000 in
theorem impl_within.calls (a0 : Int) (a1 : Int) (a2 : Int) (r : Bool) (w : World) (h : impl_within.f a0 a1 a2 = some r) :
    Calls Try.prog 86 #[.int .i64 a0, .int .i64 a1, .int .i64 a2] w fun e w' => e = .returned (.bool r) ∧ Drawn0 w w' := by
  have H : (if a0 ≥ a1 then (some (decide (a0 ≤ a2))) else (some false)) = some r := h
  clear h
  by_cases c4 : a0 ≥ a1
  · rw [if_pos c4] at H
    have c4b0 : decide (a1 ≤ a0) = true := decide_eq_true c4
    clear c4
    obtain rfl := Option.some.inj H
    go_enter Try.func86, Try.ntmps86
    go_wp2
    go_ret
    exact ⟨by first | rfl | (simp; done) | (simp [*]; done), by repeat (first | exact Drawn0.refl _ | apply Drawn0.step)⟩
  · rw [if_neg c4] at H
    have c4b0 : decide (a1 ≤ a0) = false := decide_eq_false c4
    clear c4
    obtain rfl := Option.some.inj H
    go_enter Try.func86, Try.ntmps86
    go_wp2
    go_ret
    exact ⟨by first | rfl | (simp; done) | (simp [*]; done), by repeat (first | exact Drawn0.refl _ | apply Drawn0.step)⟩

/-! ### impl_OrnamentName: function 31 -/
def impl_OrnamentName.f (a0 : Int) : Option (ByteArray) := if a0 = 1 then some ⟨#[103, 108, 105, 100, 101]⟩ else if a0 = 2 then some ⟨#[115, 104, 97, 107, 101]⟩ else if a0 = 3 then some ⟨#[103, 114, 97, 99, 101]⟩ else if a0 = 4 then some ⟨#[115, 119, 101, 108, 108]⟩ else some ⟨#[]⟩
theorem impl_OrnamentName.at_ (i : Int) (s : ByteArray) (hi : (i = 1 ∧ s = ⟨#[103, 108, 105, 100, 101]⟩) ∨ (i = 2 ∧ s = ⟨#[115, 104, 97, 107, 101]⟩) ∨ (i = 3 ∧ s = ⟨#[103, 114, 97, 99, 101]⟩) ∨ (i = 4 ∧ s = ⟨#[115, 119, 101, 108, 108]⟩)) (W : World) :
    Sem.run Try.prog (Instr.index 70 (.agg #[.string ⟨#[]⟩, .string ⟨#[103, 108, 105, 100, 101]⟩, .string ⟨#[115, 104, 97, 107, 101]⟩, .string ⟨#[103, 114, 97, 99, 101]⟩, .string ⟨#[115, 119, 101, 108, 108]⟩]) (.int .i64 i)) W = .ok (.string s) W := by
  rcases hi with ⟨rfl, rfl⟩ | ⟨rfl, rfl⟩ | ⟨rfl, rfl⟩ | ⟨rfl, rfl⟩ <;> kernel_rfl
set_option maxHeartbeats 4000000 in
set_option maxRecDepth 100000 in
theorem impl_OrnamentName.calls (a0 : Int) (r : ByteArray) (w : World) (h : impl_OrnamentName.f a0 = some r) :
    Calls Try.prog 31 #[.int .i64 a0] w fun e w' => e = .returned (.string r) ∧ Drawn0 w w' := by
  have hu := Try.underlying70
  by_cases c : (a0 = 1 ∧ r = ⟨#[103, 108, 105, 100, 101]⟩) ∨ (a0 = 2 ∧ r = ⟨#[115, 104, 97, 107, 101]⟩) ∨ (a0 = 3 ∧ r = ⟨#[103, 114, 97, 99, 101]⟩) ∨ (a0 = 4 ∧ r = ⟨#[115, 119, 101, 108, 108]⟩)
  · have hI := fun W => impl_OrnamentName.at_ a0 r c W
    have hW : impl_within.f a0 1 4 = some true := by rcases c with ⟨rfl, _⟩ | ⟨rfl, _⟩ | ⟨rfl, _⟩ | ⟨rfl, _⟩ <;> decide
    clear c h
    go_enter Try.func31, Try.ntmps31
    go_wp2_with (go_at_call 86; (with_reducible refine (impl_within.calls a0 1 4 true _ hW).mono ?_); rintro e w' ⟨rfl, ⟨nd, rfl⟩⟩)
    go_ret
    exact ⟨rfl, ⟨nd, rfl⟩⟩
  · have h0 : ¬ (1 ≤ a0 ∧ a0 ≤ 4) ∧ r = ⟨#[]⟩ := by
      unfold impl_OrnamentName.f at h
      by_cases c1 : a0 = 1
      · rw [if_pos c1] at h; exact absurd (Or.inl ⟨c1, (Option.some.inj h).symm⟩) c
      · rw [if_neg c1] at h
        by_cases c2 : a0 = 2
        · rw [if_pos c2] at h; exact absurd (Or.inr (Or.inl ⟨c2, (Option.some.inj h).symm⟩)) c
        · rw [if_neg c2] at h
          by_cases c3 : a0 = 3
          · rw [if_pos c3] at h; exact absurd (Or.inr (Or.inr (Or.inl ⟨c3, (Option.some.inj h).symm⟩))) c
          · rw [if_neg c3] at h
            by_cases c4 : a0 = 4
            · rw [if_pos c4] at h; exact absurd (Or.inr (Or.inr (Or.inr ⟨c4, (Option.some.inj h).symm⟩))) c
            · rw [if_neg c4] at h
              exact ⟨by omega, (Option.some.inj h).symm⟩
    have hW : impl_within.f a0 1 4 = some false := by
      unfold impl_within.f
      by_cases z : a0 ≥ 1
      · rw [if_pos z, decide_eq_false (show ¬ a0 ≤ 4 by omega)]
      · rw [if_neg z]
    obtain ⟨_, rfl⟩ := h0
    clear c h
    go_enter Try.func31, Try.ntmps31
    go_wp2_with (go_at_call 86; (with_reducible refine (impl_within.calls a0 1 4 false _ hW).mono ?_); rintro e w' ⟨rfl, ⟨nd, rfl⟩⟩)
    go_ret
    exact ⟨rfl, ⟨nd, rfl⟩⟩

/-! ### laws_FnExactOrnamentName: function 4 -/
def laws_FnExactOrnamentName.f (a0 : Int) : Option (Bool) := (spec_OrnamentName.f a0).bind fun t102 => ((impl_OrnamentName.f a0).bind fun t103 => (if t103.toList = t102.toList then (some true) else (some false)))
set_option maxHeartbeats 8000000 in
set_option maxRecDepth 100000 in
theorem laws_FnExactOrnamentName.calls (a0 : Int) (r : Bool) (w : World) (h : laws_FnExactOrnamentName.f a0 = some r) :
    Calls Try.prog 4 #[.int .i64 a0] w fun e w' => e = .returned (.bool r) ∧ Drawn0 w w' := by
  have H : ((spec_OrnamentName.f a0).bind fun t102 => ((impl_OrnamentName.f a0).bind fun t103 => (if t103.toList = t102.toList then (some true) else (some false)))) = some r := h
  clear h
  replace H := Option.bind_eq_some_iff.mp H
  obtain ⟨t102, A20, H⟩ := H
  replace H : ((impl_OrnamentName.f a0).bind fun t103 => (if t103.toList = t102.toList then (some true) else (some false))) = some r := H
  have A2 := Aside0.mk A20
  clear A20
  replace H := Option.bind_eq_some_iff.mp H
  obtain ⟨t103, A30, H⟩ := H
  replace H : (if t103.toList = t102.toList then (some true) else (some false)) = some r := H
  have A3 := Aside0.mk A30
  clear A30
  by_cases c4 : t103.toList = t102.toList
  · rw [if_pos c4] at H
    have c4b0 : (t103.toList == t102.toList) = true := beq_iff_eq.mpr c4
    have c4b1 : (t103.toList != t102.toList) = false := bne_eq_false_iff_eq.mpr c4
    clear c4
    obtain rfl := Option.some.inj H
    go_enter Try.func4, Try.ntmps4
    go_wp2_with (first | ((with_reducible refine gate_callee (f := 30) rfl ?_); refine goesL_ (some 6) rfl rfl Try.func30 (by kernel_rfl) rfl #[.int .i64 a0] rfl (by (try simp only [List.map_toArray, List.map_cons, List.map_nil]); first | done | rfl | (simp only [List.length_drop, List.length_take]; rfl)) ?_; (with_reducible refine (spec_OrnamentName.calls a0 t102 _ A2.out).mono ?_); rintro e w' ⟨rfl, ⟨nd, rfl⟩⟩; refine ⟨_, rfl, ?_⟩) | ((with_reducible refine gate_callee (f := 31) rfl ?_); refine goesL_ (some 8) rfl rfl Try.func31 (by kernel_rfl) rfl #[.int .i64 a0] rfl (by (try simp only [List.map_toArray, List.map_cons, List.map_nil]); first | done | rfl | (simp only [List.length_drop, List.length_take]; rfl)) ?_; (with_reducible refine (impl_OrnamentName.calls a0 t103 _ A3.out).mono ?_); rintro e w' ⟨rfl, ⟨nd, rfl⟩⟩; refine ⟨_, rfl, ?_⟩))
    go_ret
    exact ⟨by first | rfl | (simp; done) | (simp [*]; done), by repeat (first | exact Drawn0.refl _ | apply Drawn0.step)⟩
  · rw [if_neg c4] at H
    have c4b0 : (t103.toList == t102.toList) = false := beq_eq_false_iff_ne.mpr c4
    have c4b1 : (t103.toList != t102.toList) = true := bne_iff_ne.mpr c4
    obtain rfl := Option.some.inj H
    go_enter Try.func4, Try.ntmps4
    go_wp2_with (first | ((with_reducible refine gate_callee (f := 30) rfl ?_); refine goesL_ (some 6) rfl rfl Try.func30 (by kernel_rfl) rfl #[.int .i64 a0] rfl (by (try simp only [List.map_toArray, List.map_cons, List.map_nil]); first | done | rfl | (simp only [List.length_drop, List.length_take]; rfl)) ?_; (with_reducible refine (spec_OrnamentName.calls a0 t102 _ A2.out).mono ?_); rintro e w' ⟨rfl, ⟨nd, rfl⟩⟩; refine ⟨_, rfl, ?_⟩) | ((with_reducible refine gate_callee (f := 31) rfl ?_); refine goesL_ (some 8) rfl rfl Try.func31 (by kernel_rfl) rfl #[.int .i64 a0] rfl (by (try simp only [List.map_toArray, List.map_cons, List.map_nil]); first | done | rfl | (simp only [List.length_drop, List.length_take]; rfl)) ?_; (with_reducible refine (impl_OrnamentName.calls a0 t103 _ A3.out).mono ?_); rintro e w' ⟨rfl, ⟨nd, rfl⟩⟩; refine ⟨_, rfl, ?_⟩))
    go_ret
    exact ⟨by first | rfl | (simp; done) | (simp [*]; done), by repeat (first | exact Drawn0.refl _ | apply Drawn0.step)⟩

/-- THE ONE PURE STATEMENT of laws_FnExactOrnamentName. -/
def laws_FnExactOrnamentName.Pure : Prop := ∀ (a0 : Int), (Lit.int .i64 a0).wf = true → laws_FnExactOrnamentName.f a0 = some true

end Go.Proofs.Ytbhmalpncnkmaaa.M2
