/- What functions of the given program compute, as plain Lean functions, and that the code comes to just that; by a program of this session over the kit's print. No condition. -/
import Derived.Test.YtlmeijlandogaaaGreatDoorRx0
import Derived.Test.YtlmeijlandogaaaGreatDoorRx8
namespace Go.Proofs.YtlmeijlandogaaaGreatDoor.R
open Go.RowKit Go.Proofs.YtlmeijlandogaaaGreatDoorW.PrintWords Go.Proofs.YtlmeijlandogaaaGreatDoorW.PrintLast Go.Proofs.YtlmeijlandogaaaGreatDoorW.PrintMore
attribute [local go_sem] max2_int min2_int max_two min_two max_three min_three max_four min_four   -- for this text's walks alone
set_option linter.unusedVariables false
set_option linter.unusedSimpArgs false

/-! ### impl_ReadDecimal: function 13 -/
def impl_ReadDecimal.tp (a0 : ByteArray) : ByteArray := ⟨(Lib.trimPrefix a0.data.toList [45]).toArray⟩
def impl_ReadDecimal.g (a0 : ByteArray) (v : Int) : Option (Int × Bool) := if -9223372036854775808 ≤ v ∧ v ≤ 9223372036854775807 then (if (impl_ReadDecimal.tp a0).size ≤ 18 then (if (⟨(Lib.itoa v).toArray⟩ : ByteArray).toList = a0.toList then some (v, true) else some (0, false)) else some (0, false)) else none
def impl_ReadDecimal.f (a0 : ByteArray) : Option (Int × Bool) :=
 if a0.size ≤ 1048576 then (match Lib.parseIntB 64 a0.data.toList with | .ok v => impl_ReadDecimal.g a0 v | .«syntax» => some (0, false) | .range => some (0, false)) else none
set_option maxHeartbeats 4000000 in
set_option maxRecDepth 100000 in
theorem impl_ReadDecimal.ok_ (a0 : ByteArray) (v r1 : Int) (r2 : Bool) (w : World) (hT : TabR w) (hs : a0.size ≤ 1048576) (hp : Lib.parseIntB 64 a0.data.toList = .ok v) (h : impl_ReadDecimal.g a0 v = some (r1, r2)) :
  Calls Tryz.prog 13 #[.string a0] w fun e w' => e = .returned (.tuple #[.int .i64 r1, .bool r2]) ∧ Below w.heap.size w w' := by
 unfold impl_ReadDecimal.g at h
 by_cases cv : -9223372036854775808 ≤ v ∧ v ≤ 9223372036854775807
 ·rw [if_pos cv] at h
  have hd : impl_Decimal.f v = some ⟨(Lib.itoa v).toArray⟩ := by unfold impl_Decimal.f; rw [if_pos cv]
  obtain ⟨dn, hdn⟩ : ∃ dn : ByteArray, dn = ⟨(Lib.itoa v).toArray⟩ := ⟨_, rfl⟩
  obtain ⟨tp, htp⟩ : ∃ tp : ByteArray, tp = impl_ReadDecimal.tp a0 := ⟨_, rfl⟩
  rw [← hdn] at hd h
  rw [← htp] at h
  have HP := Aside0.mk hp
  have HD := Aside0.mk hd
  have HTP := Aside0.mk htp
  have HS := Aside0.mk hs
  clear hp hdn hd htp hs cv
  by_cases c1 : tp.size ≤ 18
  ·rw [if_pos c1] at h
   have c1b : decide ((tp.size : Int) > 18) = false := decide_eq_false (by omega)
   have c1c : ((18 : Int) < tp.size) = False := eq_false (by omega)
   clear c1
   by_cases c2 : dn.toList = a0.toList
   ·rw [if_pos c2] at h
    obtain ⟨rfl, rfl⟩ := Prod.mk.inj (Option.some.inj h)
    have c2b0 : (dn.toList == a0.toList) = true := beq_iff_eq.mpr c2
    have c2b1 : (dn.toList != a0.toList) = false := bne_eq_false_iff_eq.mpr c2
    clear c2 h
    go_enter Tryz.func13, Tryz.ntmps13
    go_wp2_with (first
     | (go_at_call 27; refine (Tryz.strconv_ParseInt_10_at64_ok a0 (by have := HS.out; omega) v HP.out _).mono ?_; rintro e w1 ⟨rfl, hw⟩; have HB := Aside0.mk (show Below w.heap.size w w1 by (first | (rcases hw with rfl | ⟨t, rfl⟩ <;> first | exact Below.refl _ _ | exact bytes_below (Below.refl _ _) (Nat.le_refl _) _ _))); clear hw)
     | (go_at_call 28; refine (Tryz.strings_TrimPrefix a0 ⟨#[45]⟩ _).mono ?_; rintro e w2 ⟨he, rfl⟩; replace he : e = .returned (.string (impl_ReadDecimal.tp a0)) := he; rw [← HTP.out] at he; subst he)
     | (go_at_call 29; refine (impl_Decimal.calls v dn _ (by first | exact TabR.below hT HB.out | exact TabR.below hT (pw_below_drewN HB.out _)) HD.out).mono ?_; rintro e w3 ⟨rfl, hb3⟩; have HB2 := Aside0.mk (below_step (by first | exact HB.out | exact pw_below_drewN HB.out _) hb3); clear hb3))
    go_ret2
    exact ⟨rfl, by repeat (first | exact HB2.out | apply below_alloc | apply pw_below_drewN)⟩
   ·rw [if_neg c2] at h
    obtain ⟨rfl, rfl⟩ := Prod.mk.inj (Option.some.inj h)
    have c2b0 : (dn.toList == a0.toList) = false := beq_eq_false_iff_ne.mpr c2
    have c2b1 : (dn.toList != a0.toList) = true := bne_iff_ne.mpr c2
    clear c2 h
    go_enter Tryz.func13, Tryz.ntmps13
    go_wp2_with (first
     | (go_at_call 27; refine (Tryz.strconv_ParseInt_10_at64_ok a0 (by have := HS.out; omega) v HP.out _).mono ?_; rintro e w1 ⟨rfl, hw⟩; have HB := Aside0.mk (show Below w.heap.size w w1 by (first | (rcases hw with rfl | ⟨t, rfl⟩ <;> first | exact Below.refl _ _ | exact bytes_below (Below.refl _ _) (Nat.le_refl _) _ _))); clear hw)
     | (go_at_call 28; refine (Tryz.strings_TrimPrefix a0 ⟨#[45]⟩ _).mono ?_; rintro e w2 ⟨he, rfl⟩; replace he : e = .returned (.string (impl_ReadDecimal.tp a0)) := he; rw [← HTP.out] at he; subst he)
     | (go_at_call 29; refine (impl_Decimal.calls v dn _ (by first | exact TabR.below hT HB.out | exact TabR.below hT (pw_below_drewN HB.out _)) HD.out).mono ?_; rintro e w3 ⟨rfl, hb3⟩; have HB2 := Aside0.mk (below_step (by first | exact HB.out | exact pw_below_drewN HB.out _) hb3); clear hb3))
    go_ret2
    exact ⟨rfl, by repeat (first | exact HB2.out | apply below_alloc | apply pw_below_drewN)⟩
  ·rw [if_neg c1] at h
   obtain ⟨rfl, rfl⟩ := Prod.mk.inj (Option.some.inj h)
   have c1b : decide ((tp.size : Int) > 18) = true := decide_eq_true (by omega)
   have c1c : ((18 : Int) < tp.size) = True := eq_true (by omega)
   clear c1 h
   go_enter Tryz.func13, Tryz.ntmps13
   go_wp2_with (first
    | (go_at_call 27; refine (Tryz.strconv_ParseInt_10_at64_ok a0 (by have := HS.out; omega) v HP.out _).mono ?_; rintro e w1 ⟨rfl, hw⟩; have HB := Aside0.mk (show Below w.heap.size w w1 by (first | (rcases hw with rfl | ⟨t, rfl⟩ <;> first | exact Below.refl _ _ | exact bytes_below (Below.refl _ _) (Nat.le_refl _) _ _))); clear hw)
    | (go_at_call 28; refine (Tryz.strings_TrimPrefix a0 ⟨#[45]⟩ _).mono ?_; rintro e w2 ⟨he, rfl⟩; replace he : e = .returned (.string (impl_ReadDecimal.tp a0)) := he; rw [← HTP.out] at he; subst he))
   go_ret2
   exact ⟨rfl, by repeat (first | exact HB.out | apply below_alloc | apply pw_below_drewN)⟩
 ·rw [if_neg cv] at h
  cases h
set_option maxHeartbeats 4000000 in
set_option maxRecDepth 100000 in
theorem impl_ReadDecimal.calls (a0 : ByteArray) (r1 : Int) (r2 : Bool) (w : World) (hT : TabR w) (h : impl_ReadDecimal.f a0 = some (r1, r2)) :
  Calls Tryz.prog 13 #[.string a0] w fun e w' => e = .returned (.tuple #[.int .i64 r1, .bool r2]) ∧ Below w.heap.size w w' := by
 unfold impl_ReadDecimal.f at h
 by_cases c : a0.size ≤ 1048576
 ·rw [if_pos c] at h
  cases hp : Lib.parseIntB 64 a0.data.toList with
  | ok v => rw [hp] at h; exact impl_ReadDecimal.ok_ a0 v r1 r2 w hT c hp h
  | «syntax» =>
   rw [hp] at h
   obtain ⟨rfl, rfl⟩ := Prod.mk.inj (Option.some.inj h)
   clear h
   have HP := Aside0.mk hp
   have HS := Aside0.mk c
   clear hp c
   obtain ⟨ev, hv, hev⟩ := hT.syn
   go_enter Tryz.func13, Tryz.ntmps13
   go_wp2_with (go_at_call 27; refine (Tryz.strconv_ParseInt_10_at64_syntax a0 (by have := HS.out; omega) HP.out ev _ hv hev).mono ?_; rintro e w1 ⟨N, rfl, -, -, hb⟩; have HB := Aside0.mk hb; clear hb)
   go_ret2
   exact ⟨rfl, by repeat (first | exact HB.out | apply below_alloc | apply pw_below_drewN)⟩
  | range =>
   rw [hp] at h
   obtain ⟨rfl, rfl⟩ := Prod.mk.inj (Option.some.inj h)
   clear h
   have HP := Aside0.mk hp
   have HS := Aside0.mk c
   clear hp c
   obtain ⟨ev, hv, hev⟩ := hT.rng
   go_enter Tryz.func13, Tryz.ntmps13
   go_wp2_with (go_at_call 27; refine (Tryz.strconv_ParseInt_10_at64_range a0 (by have := HS.out; omega) HP.out ev _ hv hev).mono ?_; rintro e w1 ⟨N, rfl, -, -, hb⟩; have HB := Aside0.mk hb; clear hb)
   go_ret2
   exact ⟨rfl, by repeat (first | exact HB.out | apply below_alloc | apply pw_below_drewN)⟩
 ·rw [if_neg c] at h
  cases h

/-! ### impl_pitchOk: function 49 -/
def impl_pitchOk.f (a0 : Int) : Option (Bool) := (impl_within.f a0 (-12) 23).bind fun t152 => (some t152)
set_option maxHeartbeats 8000000 in
set_option maxRecDepth 100000 in
theorem impl_pitchOk.calls (a0 : Int) (r : Bool) (w : World) (h : impl_pitchOk.f a0 = some r) :
  Calls Tryz.prog 49 #[.int .i64 a0] w fun e w' => e = .returned (.bool r) ∧ Drawn0 w w' := by
 have H : ((impl_within.f a0 (-12) 23).bind fun t152 => (some t152)) = some r := h
 clear h
 replace H := Option.bind_eq_some_iff.mp H
 obtain ⟨t152, A20, H⟩ := H
 replace H : (some t152) = some r := H
 have A2 := Aside0.mk A20
 clear A20
 obtain rfl := Option.some.inj H
 go_enter Tryz.func49, Tryz.ntmps49
 go_wp2_with (first | ((with_reducible refine gate_callee (f := 71) rfl ?_); refine goesL_ (some 4) rfl rfl Tryz.func71 (by kernel_rfl) rfl #[.int .i64 a0, .int .i64 (-12), .int .i64 23] rfl (by (try simp only [List.map_toArray, List.map_cons, List.map_nil]); first | done | rfl | (simp only [List.length_drop, List.length_take]; rfl)) ?_; (with_reducible refine (impl_within.calls a0 (-12) 23 t152 _ A2.out).mono ?_); rintro e w' ⟨rfl, ⟨nd, rfl⟩⟩; refine ⟨_, rfl, ?_⟩))
 go_ret
 exact ⟨by first | rfl | (simp; done) | (simp [*]; done), by repeat (first | exact Drawn0.refl _ | apply Drawn0.step)⟩

/-! ### impl_lengthOk: function 50 -/
def impl_lengthOk.f (a0 : Int) : Option (Bool) := (impl_within.f a0 1 64).bind fun t153 => (some t153)
set_option maxHeartbeats 8000000 in
set_option maxRecDepth 100000 in
theorem impl_lengthOk.calls (a0 : Int) (r : Bool) (w : World) (h : impl_lengthOk.f a0 = some r) :
  Calls Tryz.prog 50 #[.int .i64 a0] w fun e w' => e = .returned (.bool r) ∧ Drawn0 w w' := by
 have H : ((impl_within.f a0 1 64).bind fun t153 => (some t153)) = some r := h
 clear h
 replace H := Option.bind_eq_some_iff.mp H
 obtain ⟨t153, A20, H⟩ := H
 replace H : (some t153) = some r := H
 have A2 := Aside0.mk A20
 clear A20
 obtain rfl := Option.some.inj H
 go_enter Tryz.func50, Tryz.ntmps50
 go_wp2_with (first | ((with_reducible refine gate_callee (f := 71) rfl ?_); refine goesL_ (some 4) rfl rfl Tryz.func71 (by kernel_rfl) rfl #[.int .i64 a0, .int .i64 1, .int .i64 64] rfl (by (try simp only [List.map_toArray, List.map_cons, List.map_nil]); first | done | rfl | (simp only [List.length_drop, List.length_take]; rfl)) ?_; (with_reducible refine (impl_within.calls a0 1 64 t153 _ A2.out).mono ?_); rintro e w' ⟨rfl, ⟨nd, rfl⟩⟩; refine ⟨_, rfl, ?_⟩))
 go_ret
 exact ⟨by first | rfl | (simp; done) | (simp [*]; done), by repeat (first | exact Drawn0.refl _ | apply Drawn0.step)⟩

end Go.Proofs.YtlmeijlandogaaaGreatDoor.R
-- shrunk
