/- What functions of the given program compute, as plain Lean functions, and that the code comes to just that; by a program of this session over the kit's print. No condition. -/
import Derived.Test.YtijbhcalknfijaaTight
import Derived.Test.YtijbhcalknfijaaM7x0
import Derived.Test.YtijbhcalknfijaaM7x19
import Derived.Test.YtijbhcalknfijaaM7x25
namespace Go.Proofs.Ytijbhcalknfijaa.M7
open Go.RowKit Go.Proofs.YtijbhcalknfijaaW.PrintWords Go.Proofs.YtijbhcalknfijaaW.PrintLast Go.Proofs.YtijbhcalknfijaaW.PrintMore
open Go.Proofs.YtijbhcalknfijaaW.PrintWords renaming below_alloc → bA, pw_below_drewN → bN, below_drew1 → bD, below_set → bS, blk_drewN → kN, blk_drew → kD, blk_alloc → kA, blk_below → kB, below_size → bZ, below_step → bP, blk_far → kF, blk_lt → kL, gate_callee → gC, box_event → bE, blk_cell → kC
open Go.Proofs.YtijbhcalknfijaaW.PrintLast renaming i64_w → iW, i32_w → jW
open Go.Proofs.YtijbhcalknfijaaW.PrintWords.Kd renaming R_alloc → rA, R_drewN → rN, R_drew → rD, C_alloc → cA, C_drewN → cN, C_drew → cD, C_below → cB, R_below → rB, R_lt → rT, R_mono → rM
open List renaming setIfInBounds_toArray → sI, set_cons_zero → sZ, set_cons_succ → sS
open Bool renaming true → T, false → F
attribute [local go_sem] max2_int min2_int max_two min_two max_three min_three max_four min_four   -- for this text's walks alone
set_option linter.unusedVariables false
set_option linter.unusedSimpArgs false

/-! ### impl_GrammarOf: function 50 -/
mutual
def impl_GrammarOf.l0 : Nat → Int → List Int → Int → ByteArray → List Int → List Int → Int → Int → List (List Int) → Int → Int → List Int → List (S67) → Option (Int × Int × List Int × (List (S67)) × Int)
 | 0, _, _, _, _, _, _, _, _, _, _, _, _, _ => none
 | k + 1, x2, x9, x10, x281000, x281001, x281002, x281003, x281004, x281005, x286000, x286001, x286002, x286003 => if x10 ≤ x2 then ((impl_ToneOf.f x10).bind fun t286 => ((impl_Raga_hasTone.f k x281000 x281001 x281002 x281003 x281004 x281005 t286).bind fun t287 => (if t287 = true then (if x9.length < 17592186044416 then ((some (x9 ++ [x10] : List Int)).bind fun y288 => ((impl_ToneOf.f x10).bind fun t291 => (if t291 = 0 then (if x286002.length < 17592186044416 then (if x286003.length < 5864062014805 then (impl_GrammarOf.l0 k x2 y288 (wrap64 (x10 + 1)) x281000 x281001 x281002 x281003 x281004 x281005 (wrap64 (x286000 + 1)) x286001 (x286002 ++ [x286000]) (x286003 ++ [(⟨0, x10, x286000⟩ : S67)])) else (none)) else (none)) else (if x286003.length < 5864062014805 then (impl_GrammarOf.l0 k x2 y288 (wrap64 (x10 + 1)) x281000 x281001 x281002 x281003 x281004 x281005 (wrap64 (x286000 + 1)) x286001 x286002 (x286003 ++ [(⟨0, x10, x286000⟩ : S67)])) else (none))))) else (none)) else (impl_GrammarOf.l0 k x2 x9 (wrap64 (x10 + 1)) x281000 x281001 x281002 x281003 x281004 x281005 x286000 x286001 x286002 x286003)))) else (impl_GrammarOf.l1 k x9 x9 (x9.length : Int) 0 x281000 x281001 x281002 x281003 x281004 x281005 x286000 x286001 x286002 x286003)
def impl_GrammarOf.l1 : Nat → List Int → List Int → Int → Int → ByteArray → List Int → List Int → Int → Int → List (List Int) → Int → Int → List Int → List (S67) → Option (Int × Int × List Int × (List (S67)) × Int)
 | 0, _, _, _, _, _, _, _, _, _, _, _, _, _, _ => none
 | k + 1, x9, x70, x71, x72, x281000, x281001, x281002, x281003, x281004, x281005, x286000, x286001, x286002, x286003 => if x72 < x71 then (if 0 ≤ x72 then (if x72 < (x70.length : Int) then (impl_GrammarOf.l2 k x9 x72 (rd x70 x72) x70 x71 x72 x9 (x9.length : Int) 0 x281000 x281001 x281002 x281003 x281004 x281005 x286000 x286001 x286002 x286003) else (none)) else (none)) else (if x286000 > 32 then (some (0, 0, ([] : List Int), ([] : List (S67)), 5)) else (if (x286003.length : Int) > 256 then (some (0, 0, ([] : List Int), ([] : List (S67)), 5)) else (some (x286000, x286001, x286002, x286003, 0))))
def impl_GrammarOf.l2 : Nat → List Int → Int → Int → List Int → Int → Int → List Int → Int → Int → ByteArray → List Int → List Int → Int → Int → List (List Int) → Int → Int → List Int → List (S67) → Option (Int × Int × List Int × (List (S67)) × Int)
 | 0, _, _, _, _, _, _, _, _, _, _, _, _, _, _, _, _, _, _, _ => none
 | k + 1, x9, x11, x12, x70, x71, x72, x77, x78, x79, x281000, x281001, x281002, x281003, x281004, x281005, x286000, x286001, x286002, x286003 => if x79 < x78 then (if 0 ≤ x79 then (if x79 < (x77.length : Int) then ((impl_Raga_reason.f k x281000 x281001 x281002 x281003 x281004 x281005 x12 (rd x77 x79)).bind fun t303 => (if t303 = 0 then (if x286003.length < 5864062014805 then (impl_GrammarOf.l2 k x9 x11 x12 x70 x71 x72 x77 x78 (wrap64 (x79 + 1)) x281000 x281001 x281002 x281003 x281004 x281005 x286000 x286001 x286002 (x286003 ++ [(⟨wrap64 (x11 + 1), rd x77 x79, wrap64 (x79 + 1)⟩ : S67)])) else (none)) else (impl_GrammarOf.l2 k x9 x11 x12 x70 x71 x72 x77 x78 (wrap64 (x79 + 1)) x281000 x281001 x281002 x281003 x281004 x281005 x286000 x286001 x286002 x286003))) else (none)) else (none)) else (impl_GrammarOf.l1 k x9 x70 x71 (wrap64 (x72 + 1)) x281000 x281001 x281002 x281003 x281004 x281005 x286000 x286001 x286002 x286003)
end
def impl_GrammarOf.f (k : Nat) (a0_0 : ByteArray) (l0_1 : List Int) (l0_2 : List Int) (a0_3 : Int) (a0_4 : Int) (l0_5 : List (List Int)) (a1 : Int) (a2 : Int) : Option (Int × Int × List Int × (List (S67)) × Int) := (impl_ValidRaga.f k a0_0 l0_1 l0_2 a0_3 a0_4 l0_5).bind fun t282 => (if t282 = true then ((impl_pitchOk.f a1).bind fun t283 => (if t283 = true then ((impl_within.f a2 a1 23).bind fun t284 => (if t284 = true then (impl_GrammarOf.l0 k a2 ([] : List Int) a1 a0_0 l0_1 l0_2 a0_3 a0_4 l0_5 1 0 ([] : List Int) ([] : List (S67))) else (some (0, 0, ([] : List Int), ([] : List (S67)), 2)))) else (some (0, 0, ([] : List Int), ([] : List (S67)), 2)))) else (some (0, 0, ([] : List Int), ([] : List (S67)), 1)))
theorem impl_GrammarOf.mono_l : ∀ k, (∀ y0 y1 y2 y3 y4 y5 y6 y7 y8 y9 y10 y11 y12, LeO (impl_GrammarOf.l0 k y0 y1 y2 y3 y4 y5 y6 y7 y8 y9 y10 y11 y12) (impl_GrammarOf.l0 (k + 1) y0 y1 y2 y3 y4 y5 y6 y7 y8 y9 y10 y11 y12)) ∧ (∀ y0 y1 y2 y3 y4 y5 y6 y7 y8 y9 y10 y11 y12 y13, LeO (impl_GrammarOf.l1 k y0 y1 y2 y3 y4 y5 y6 y7 y8 y9 y10 y11 y12 y13) (impl_GrammarOf.l1 (k + 1) y0 y1 y2 y3 y4 y5 y6 y7 y8 y9 y10 y11 y12 y13)) ∧ (∀ y0 y1 y2 y3 y4 y5 y6 y7 y8 y9 y10 y11 y12 y13 y14 y15 y16 y17 y18, LeO (impl_GrammarOf.l2 k y0 y1 y2 y3 y4 y5 y6 y7 y8 y9 y10 y11 y12 y13 y14 y15 y16 y17 y18) (impl_GrammarOf.l2 (k + 1) y0 y1 y2 y3 y4 y5 y6 y7 y8 y9 y10 y11 y12 y13 y14 y15 y16 y17 y18))
 | 0 => ⟨fun _ _ _ _ _ _ _ _ _ _ _ _ _ r h => by simp [impl_GrammarOf.l0] at h, fun _ _ _ _ _ _ _ _ _ _ _ _ _ _ r h => by simp [impl_GrammarOf.l1] at h, fun _ _ _ _ _ _ _ _ _ _ _ _ _ _ _ _ _ _ _ r h => by simp [impl_GrammarOf.l2] at h⟩
 | k + 1 => by
  obtain ⟨ih0, ih1, ih2⟩ := impl_GrammarOf.mono_l k
  refine ⟨?_, ?_, ?_⟩
  ·intro y0 y1 y2 y3 y4 y5 y6 y7 y8 y9 y10 y11 y12
   unfold impl_GrammarOf.l0
   repeat' first
   | (with_reducible exact ih0 _ _ _ _ _ _ _ _ _ _ _ _ _)
   | (with_reducible exact ih1 _ _ _ _ _ _ _ _ _ _ _ _ _ _)
   | (with_reducible exact ih2 _ _ _ _ _ _ _ _ _ _ _ _ _ _ _ _ _ _ _)
   | (with_reducible exact impl_Raga_hasTone.mono _ _ _ _ _ _ _ _)
   | (with_reducible exact impl_Raga_reason.mono _ _ _ _ _ _ _ _ _)
   | (with_reducible exact impl_ValidRaga.mono _ _ _ _ _ _ _)
   | (with_reducible exact LeO.refl _)
   | (with_reducible exact LeO.none _)
   | (with_reducible refine LeO.ite ?_ ?_)
   | (with_reducible refine LeO.bind ?_ (fun _ => ?_))
   | exact ih0 _ _ _ _ _ _ _ _ _ _ _ _ _
   | exact ih1 _ _ _ _ _ _ _ _ _ _ _ _ _ _
   | exact ih2 _ _ _ _ _ _ _ _ _ _ _ _ _ _ _ _ _ _ _
   | exact impl_Raga_hasTone.mono _ _ _ _ _ _ _ _
   | exact impl_Raga_reason.mono _ _ _ _ _ _ _ _ _
   | exact impl_ValidRaga.mono _ _ _ _ _ _ _
   | exact LeO.none _
   | refine LeO.ite ?_ ?_
   | refine LeO.bind ?_ (fun _ => ?_)
  ·intro y0 y1 y2 y3 y4 y5 y6 y7 y8 y9 y10 y11 y12 y13
   unfold impl_GrammarOf.l1
   repeat' first
   | (with_reducible exact ih0 _ _ _ _ _ _ _ _ _ _ _ _ _)
   | (with_reducible exact ih1 _ _ _ _ _ _ _ _ _ _ _ _ _ _)
   | (with_reducible exact ih2 _ _ _ _ _ _ _ _ _ _ _ _ _ _ _ _ _ _ _)
   | (with_reducible exact impl_Raga_hasTone.mono _ _ _ _ _ _ _ _)
   | (with_reducible exact impl_Raga_reason.mono _ _ _ _ _ _ _ _ _)
   | (with_reducible exact impl_ValidRaga.mono _ _ _ _ _ _ _)
   | (with_reducible exact LeO.refl _)
   | (with_reducible exact LeO.none _)
   | (with_reducible refine LeO.ite ?_ ?_)
   | (with_reducible refine LeO.bind ?_ (fun _ => ?_))
   | exact ih0 _ _ _ _ _ _ _ _ _ _ _ _ _
   | exact ih1 _ _ _ _ _ _ _ _ _ _ _ _ _ _
   | exact ih2 _ _ _ _ _ _ _ _ _ _ _ _ _ _ _ _ _ _ _
   | exact impl_Raga_hasTone.mono _ _ _ _ _ _ _ _
   | exact impl_Raga_reason.mono _ _ _ _ _ _ _ _ _
   | exact impl_ValidRaga.mono _ _ _ _ _ _ _
   | exact LeO.none _
   | refine LeO.ite ?_ ?_
   | refine LeO.bind ?_ (fun _ => ?_)
  ·intro y0 y1 y2 y3 y4 y5 y6 y7 y8 y9 y10 y11 y12 y13 y14 y15 y16 y17 y18
   unfold impl_GrammarOf.l2
   repeat' first
   | (with_reducible exact ih0 _ _ _ _ _ _ _ _ _ _ _ _ _)
   | (with_reducible exact ih1 _ _ _ _ _ _ _ _ _ _ _ _ _ _)
   | (with_reducible exact ih2 _ _ _ _ _ _ _ _ _ _ _ _ _ _ _ _ _ _ _)
   | (with_reducible exact impl_Raga_hasTone.mono _ _ _ _ _ _ _ _)
   | (with_reducible exact impl_Raga_reason.mono _ _ _ _ _ _ _ _ _)
   | (with_reducible exact impl_ValidRaga.mono _ _ _ _ _ _ _)
   | (with_reducible exact LeO.refl _)
   | (with_reducible exact LeO.none _)
   | (with_reducible refine LeO.ite ?_ ?_)
   | (with_reducible refine LeO.bind ?_ (fun _ => ?_))
   | exact ih0 _ _ _ _ _ _ _ _ _ _ _ _ _
   | exact ih1 _ _ _ _ _ _ _ _ _ _ _ _ _ _
   | exact ih2 _ _ _ _ _ _ _ _ _ _ _ _ _ _ _ _ _ _ _
   | exact impl_Raga_hasTone.mono _ _ _ _ _ _ _ _
   | exact impl_Raga_reason.mono _ _ _ _ _ _ _ _ _
   | exact impl_ValidRaga.mono _ _ _ _ _ _ _
   | exact LeO.none _
   | refine LeO.ite ?_ ?_
   | refine LeO.bind ?_ (fun _ => ?_)
theorem impl_GrammarOf.mono : ∀ a0 a1 a2 a3 a4 a5 a6 a7 k, LeO (impl_GrammarOf.f k a0 a1 a2 a3 a4 a5 a6 a7) (impl_GrammarOf.f (k + 1) a0 a1 a2 a3 a4 a5 a6 a7) := by
 intro a0 a1 a2 a3 a4 a5 a6 a7 k
 obtain ⟨ih0, ih1, ih2⟩ := impl_GrammarOf.mono_l k
 unfold impl_GrammarOf.f
 repeat' first
   | (with_reducible exact ih0 _ _ _ _ _ _ _ _ _ _ _ _ _)
   | (with_reducible exact ih1 _ _ _ _ _ _ _ _ _ _ _ _ _ _)
   | (with_reducible exact ih2 _ _ _ _ _ _ _ _ _ _ _ _ _ _ _ _ _ _ _)
   | (with_reducible exact impl_Raga_hasTone.mono _ _ _ _ _ _ _ _)
   | (with_reducible exact impl_Raga_reason.mono _ _ _ _ _ _ _ _ _)
   | (with_reducible exact impl_ValidRaga.mono _ _ _ _ _ _ _)
   | (with_reducible exact LeO.refl _)
   | (with_reducible exact LeO.none _)
   | (with_reducible refine LeO.ite ?_ ?_)
   | (with_reducible refine LeO.bind ?_ (fun _ => ?_))
   | exact ih0 _ _ _ _ _ _ _ _ _ _ _ _ _
   | exact ih1 _ _ _ _ _ _ _ _ _ _ _ _ _ _
   | exact ih2 _ _ _ _ _ _ _ _ _ _ _ _ _ _ _ _ _ _ _
   | exact impl_Raga_hasTone.mono _ _ _ _ _ _ _ _
   | exact impl_Raga_reason.mono _ _ _ _ _ _ _ _ _
   | exact impl_ValidRaga.mono _ _ _ _ _ _ _
   | exact LeO.none _
   | refine LeO.ite ?_ ?_
   | refine LeO.bind ?_ (fun _ => ?_)
set_option maxHeartbeats 8000000 in
set_option maxRecDepth 100000 in
theorem impl_GrammarOf.calls (k : Nat) (a0_0 : ByteArray) (A0_1 : Option Addr) (c0_1 : Nat) (l0_1 : List Int) (A0_2 : Option Addr) (c0_2 : Nat) (l0_2 : List Int) (a0_3 : Int) (a0_4 : Int) (A0_5 : Option Addr) (c0_5 : Nat) (l0_5 : List (List Int)) (a1 : Int) (a2 : Int) (r1 : Int) (r2 : Int) (r3 : List Int) (r4 : List (S67)) (r5 : Int) (w : World) (hr0_1 : Kd.C (Kd.int .i64) w A0_1 l0_1.length l0_1) (hc0_1 : l0_1.length ≤ c0_1) (hr0_2 : Kd.C (Kd.int .i64) w A0_2 l0_2.length l0_2) (hc0_2 : l0_2.length ≤ c0_2) (hr0_5 : Kd.C (Kd.slice 2 (Kd.int .i64)) w A0_5 l0_5.length l0_5) (hc0_5 : l0_5.length ≤ c0_5) (h : impl_GrammarOf.f k a0_0 l0_1 l0_2 a0_3 a0_4 l0_5 a1 a2 = some (r1, r2, r3, r4, r5)) :
  Calls Try.prog 50 #[.agg #[.string a0_0, .slice A0_1 l0_1.length c0_1, .slice A0_2 l0_2.length c0_2, .int .i64 a0_3, .int .i64 a0_4, .slice A0_5 l0_5.length c0_5], .int .i64 a1, .int .i64 a2] w fun e w' => ∃ v2_ v3_ : Value, e = .returned (.tuple #[.agg #[.int .i64 r1, .int .i64 r2, v2_, v3_], .int .i64 r5]) ∧ Kd.R (Kd.int .i64) 2 w' w.heap.size (fun _ => True) v2_ r3 ∧ Kd.R k67 67 w' w.heap.size (fun _ => True) v3_ r4 ∧ Below w.heap.size w w' := by
 have hu58 := Try.underlying58
 have hu30 := Try.underlying30
 have hu67 := Try.underlying67
 have HR0_1 := Aside0.mk hr0_1
 have HC0_1 := Aside0.mk hc0_1
 clear hr0_1 hc0_1
 have HR0_2 := Aside0.mk hr0_2
 have HC0_2 := Aside0.mk hc0_2
 clear hr0_2 hc0_2
 have HR0_5 := Aside0.mk hr0_5
 have HC0_5 := Aside0.mk hc0_5
 clear hr0_5 hc0_5
 have HB := Aside0.mk (Below.refl w.heap.size w)
 have H : ((impl_ValidRaga.f k a0_0 l0_1 l0_2 a0_3 a0_4 l0_5).bind fun t282 => (if t282 = true then ((impl_pitchOk.f a1).bind fun t283 => (if t283 = true then ((impl_within.f a2 a1 23).bind fun t284 => (if t284 = true then (impl_GrammarOf.l0 k a2 ([] : List Int) a1 a0_0 l0_1 l0_2 a0_3 a0_4 l0_5 1 0 ([] : List Int) ([] : List (S67))) else (some (0, 0, ([] : List Int), ([] : List (S67)), 2)))) else (some (0, 0, ([] : List Int), ([] : List (S67)), 2)))) else (some (0, 0, ([] : List Int), ([] : List (S67)), 1)))) = some (r1, r2, r3, r4, r5) := h
 clear h
 replace H := Option.bind_eq_some_iff.mp H
 obtain ⟨t282, A40, H⟩ := H
 replace H : (if t282 = true then ((impl_pitchOk.f a1).bind fun t283 => (if t283 = true then ((impl_within.f a2 a1 23).bind fun t284 => (if t284 = true then (impl_GrammarOf.l0 k a2 ([] : List Int) a1 a0_0 l0_1 l0_2 a0_3 a0_4 l0_5 1 0 ([] : List Int) ([] : List (S67))) else (some (0, 0, ([] : List Int), ([] : List (S67)), 2)))) else (some (0, 0, ([] : List Int), ([] : List (S67)), 2)))) else (some (0, 0, ([] : List Int), ([] : List (S67)), 1))) = some (r1, r2, r3, r4, r5) := H
 have A4 := Aside0.mk A40
 clear A40
 by_cases c5 : t282 = true
 ·subst c5
  have H1 : ((impl_pitchOk.f a1).bind fun t283 => (if t283 = true then ((impl_within.f a2 a1 23).bind fun t284 => (if t284 = true then (impl_GrammarOf.l0 k a2 ([] : List Int) a1 a0_0 l0_1 l0_2 a0_3 a0_4 l0_5 1 0 ([] : List Int) ([] : List (S67))) else (some (0, 0, ([] : List Int), ([] : List (S67)), 2)))) else (some (0, 0, ([] : List Int), ([] : List (S67)), 2)))) = some (r1, r2, r3, r4, r5) := by rw [if_pos rfl] at H; exact H
  clear H
  have H := H1
  clear H1
  replace H := Option.bind_eq_some_iff.mp H
  obtain ⟨t283, A60, H⟩ := H
  replace H : (if t283 = true then ((impl_within.f a2 a1 23).bind fun t284 => (if t284 = true then (impl_GrammarOf.l0 k a2 ([] : List Int) a1 a0_0 l0_1 l0_2 a0_3 a0_4 l0_5 1 0 ([] : List Int) ([] : List (S67))) else (some (0, 0, ([] : List Int), ([] : List (S67)), 2)))) else (some (0, 0, ([] : List Int), ([] : List (S67)), 2))) = some (r1, r2, r3, r4, r5) := H
  have A6 := Aside0.mk A60
  clear A60
  by_cases c7 : t283 = true
  ·subst c7
   have H1 : ((impl_within.f a2 a1 23).bind fun t284 => (if t284 = true then (impl_GrammarOf.l0 k a2 ([] : List Int) a1 a0_0 l0_1 l0_2 a0_3 a0_4 l0_5 1 0 ([] : List Int) ([] : List (S67))) else (some (0, 0, ([] : List Int), ([] : List (S67)), 2)))) = some (r1, r2, r3, r4, r5) := by rw [if_pos rfl] at H; exact H
   clear H
   have H := H1
   clear H1
   replace H := Option.bind_eq_some_iff.mp H
   obtain ⟨t284, A80, H⟩ := H
   replace H : (if t284 = true then (impl_GrammarOf.l0 k a2 ([] : List Int) a1 a0_0 l0_1 l0_2 a0_3 a0_4 l0_5 1 0 ([] : List Int) ([] : List (S67))) else (some (0, 0, ([] : List Int), ([] : List (S67)), 2))) = some (r1, r2, r3, r4, r5) := H
   have A8 := Aside0.mk A80
   clear A80
   by_cases c9 : t284 = true
   ·subst c9
    have H1 : (impl_GrammarOf.l0 k a2 ([] : List Int) a1 a0_0 l0_1 l0_2 a0_3 a0_4 l0_5 1 0 ([] : List Int) ([] : List (S67))) = some (r1, r2, r3, r4, r5) := by rw [if_pos rfl] at H; exact H
    clear H
    have H := H1
    clear H1
    have H' := Aside0.mk H
    clear H
    go_enter Try.func50, Try.ntmps50
    go_wp2_with (first | ((with_reducible refine gate_dst (N := 3) rfl ?_); (try (refine gate_guard (by rfl) ?_; dsimp only)); refine bE ?hg (N := 3) ?hd (cs := #[.string a0_0, .slice A0_1 l0_1.length c0_1, .slice A0_2 l0_2.length c0_2, .int .i64 a0_3, .int .i64 a0_4, .slice A0_5 l0_5.length c0_5]) (t := 58) ?hr ?_; (case hd => rfl); (case hg => rfl); (case hr => first | (go_simp; done) | (go_simp; rfl)); intro gb280 hg w10 hbox hb; have z_ := bX hb (hQ HB); have n0_ := Aside0.mk (bP z_ hb); have n1_ := Aside0.mk (hbox); have n2_ := Aside0.mk ((by rw [hg]; exact (bZ z_) : w.heap.size ≤ gb280)); have n3_ := Aside0.mk ((by rw [hg]; exact (bZ z_) : w.heap.size ≤ gb280)); clear HB; have HB := n0_; have BK280 := n1_; have GW280 := n2_; have GE280 := n3_; clear z_ n0_ n1_ n2_ n3_; clear hb hbox hg) | ((with_reducible refine gate_dst (N := 6) rfl ?_); (try (refine gate_guard (by rfl) ?_; dsimp only)); refine bE ?hg (N := 6) ?hd (cs := #[.int .i64 0, .int .i64 0, .slice none 0 0, .slice none 0 0]) (t := 30) ?hr ?_; (case hd => rfl); (case hg => rfl); (case hr => first | (go_simp; done) | (go_simp; rfl)); intro gb281 hg w11 hbox hb; have z_ := bX hb (by repeat (first | (with_reducible first | exact HB.out | apply bA | apply bN | apply bD | refine bS ?_ GE280.out) | exact HB.out)); have n0_ := Aside0.mk (kB (kQ BK280) hb); have n1_ := Aside0.mk (bP z_ hb); have n2_ := Aside0.mk (hbox); have n3_ := Aside0.mk ((by rw [hg]; exact (bZ z_) : w.heap.size ≤ gb281)); have n4_ := Aside0.mk ((by rw [hg]; exact (bZ z_) : w.heap.size ≤ gb281)); have n5_ := Aside0.mk ((by rw [hg]; exact Nat.ne_of_lt (kL (kQ BK280)) : gb280 ≠ gb281)); have n6_ := Aside0.mk ((by rw [hg]; exact Nat.ne_of_gt (kL (kQ BK280)) : gb281 ≠ gb280)); clear BK280; clear HB; have BK280 := n0_; have HB := n1_; have BK281 := n2_; have GW281 := n3_; have GE281 := n4_; have NB280_281 := n5_; have NB281_280 := n6_; clear z_ n0_ n1_ n2_ n3_ n4_ n5_ n6_; clear hb hbox hg; have hnb12 := NB280_281.out; have hnc12 := NB281_280.out; obtain ⟨hcz13_0, hcz13_1, hcz13_2, hcz13_3, hcz13_4, hcz13_5⟩ := cZ6 BK280.out; obtain ⟨hfz13_0, hfz13_1, hfz13_2, hfz13_3, hfz13_4, hfz13_5⟩ := fZ6 BK280.out) | ((with_reducible refine gC (f := 89) rfl ?_); refine goesL_ (some 17) rfl rfl Try.func89 (by kernel_rfl) rfl #[.agg #[.string a0_0, .slice A0_1 l0_1.length c0_1, .slice A0_2 l0_2.length c0_2, .int .i64 a0_3, .int .i64 a0_4, .slice A0_5 l0_5.length c0_5]] rfl lQ ?_; (with_reducible refine (impl_ValidRaga.calls k a0_0 _ _ l0_1 _ _ l0_2 a0_3 a0_4 _ _ l0_5 true _ ?side1 ?side2 ?side3 ?side4 ?side5 ?side6 A4.out).mono ?_); (case side1 => exact cP (cB HR0_1.out HB.out)); (case side2 => exact HC0_1.out); (case side3 => exact cP (cB HR0_2.out HB.out)); (case side4 => exact HC0_2.out); (case side5 => exact cP (cB HR0_5.out HB.out)); (case side6 => exact HC0_5.out); rintro e w14 ⟨rfl, hb⟩; refine ⟨_, rfl, ?_⟩; have n0_ := Aside0.mk (kB (kQ BK280) hb); have n1_ := Aside0.mk (kB (kQ BK281) hb); have n2_ := Aside0.mk (bP (by repeat (first | (with_reducible first | exact HB.out | apply bA | apply bN | apply bD | refine bS ?_ GE280.out | refine bS ?_ GE281.out) | exact HB.out)) hb); clear BK280; clear BK281; clear HB; have BK280 := n0_; have BK281 := n1_; have HB := n2_; clear n0_ n1_ n2_; (try clear hb); (try clear hb2); (try clear hk); (try clear hi)) | ((with_reducible refine gC (f := 64) rfl ?_); refine goesL_ (some 22) rfl rfl Try.func64 (by kernel_rfl) rfl #[.int .i64 a1] rfl lQ ?_; (with_reducible refine (impl_pitchOk.calls a1 true _ A6.out).mono ?_); rintro e w' ⟨rfl, ⟨nd, rfl⟩⟩; refine ⟨_, rfl, ?_⟩; (try (rw [drewN_self w14]; generalize hq_ : World.drewN w14 _ = w14; have n0_ : Aside0 (w14.heap[gb280]? = some (.cells #[.string a0_0, .slice A0_1 l0_1.length c0_1, .slice A0_2 l0_2.length c0_2, .int .i64 a0_3, .int .i64 a0_4, .slice A0_5 l0_5.length c0_5] 58 (0, 0))) := ⟨by rw [← hq_]; exact (kQ BK280)⟩; have n1_ : Aside0 (w14.heap[gb281]? = some (.cells #[.int .i64 0, .int .i64 0, .slice none 0 0, .slice none 0 0] 30 (0, 0))) := ⟨by rw [← hq_]; exact (kQ BK281)⟩; have n2_ : Aside0 (Below w.heap.size w w14) := ⟨by rw [← hq_]; exact (by repeat (first | (with_reducible first | exact HB.out | apply bA | apply bN | apply bD | refine bS ?_ GE280.out | refine bS ?_ GE281.out) | exact HB.out))⟩; clear BK280 BK281 HB hq_; have BK280 := n0_; have BK281 := n1_; have HB := n2_; clear n0_ n1_ n2_))) | (go_at_call 60; (with_reducible refine (impl_within.calls a2 a1 23 true _ A8.out).mono ?_); rintro e w' ⟨rfl, ⟨nd, rfl⟩⟩; (try (rw [drewN_self w14]; generalize hq_ : World.drewN w14 _ = w14; have n0_ : Aside0 (w14.heap[gb280]? = some (.cells #[.string a0_0, .slice A0_1 l0_1.length c0_1, .slice A0_2 l0_2.length c0_2, .int .i64 a0_3, .int .i64 a0_4, .slice A0_5 l0_5.length c0_5] 58 (0, 0))) := ⟨by rw [← hq_]; exact (kQ BK280)⟩; have n1_ : Aside0 (w14.heap[gb281]? = some (.cells #[.int .i64 0, .int .i64 0, .slice none 0 0, .slice none 0 0] 30 (0, 0))) := ⟨by rw [← hq_]; exact (kQ BK281)⟩; have n2_ : Aside0 (Below w.heap.size w w14) := ⟨by rw [← hq_]; exact (by repeat (first | (with_reducible first | exact HB.out | apply bA | apply bN | apply bD | refine bS ?_ GE280.out | refine bS ?_ GE281.out) | exact HB.out))⟩; clear BK280 BK281 HB hq_; have BK280 := n0_; have BK281 := n1_; have HB := n2_; clear n0_ n1_ n2_))) | ((with_reducible refine gate_dst (N := 8) rfl ?_); (try (refine gate_guard (by rfl) ?_; dsimp only)); refine bE ?hg (N := 8) ?hd (cs := #[.int .i64 0, .int .i64 0, .slice none 0 0, .slice none 0 0]) (t := 30) ?hr ?_; (case hd => rfl); (case hg => rfl); (case hr => first | (go_simp; done) | (go_simp; rfl)); intro gb285 hg w15 hbox hb; have z_ := bX hb (by repeat (first | (with_reducible first | exact HB.out | apply bA | apply bN | apply bD | refine bS ?_ GE280.out | refine bS ?_ GE281.out) | exact HB.out)); have n0_ := Aside0.mk (kB (kQ BK280) hb); have n1_ := Aside0.mk (kB (kQ BK281) hb); have n2_ := Aside0.mk (bP z_ hb); have n3_ := Aside0.mk (hbox); have n4_ := Aside0.mk ((by rw [hg]; exact (bZ z_) : w.heap.size ≤ gb285)); have n5_ := Aside0.mk ((by rw [hg]; exact (bZ z_) : w.heap.size ≤ gb285)); have n6_ := Aside0.mk ((by rw [hg]; exact Nat.ne_of_lt (kL (kQ BK280)) : gb280 ≠ gb285)); have n7_ := Aside0.mk ((by rw [hg]; exact Nat.ne_of_gt (kL (kQ BK280)) : gb285 ≠ gb280)); have n8_ := Aside0.mk ((by rw [hg]; exact Nat.ne_of_lt (kL (kQ BK281)) : gb281 ≠ gb285)); have n9_ := Aside0.mk ((by rw [hg]; exact Nat.ne_of_gt (kL (kQ BK281)) : gb285 ≠ gb281)); clear BK280; clear BK281; clear HB; have BK280 := n0_; have BK281 := n1_; have HB := n2_; have BK285 := n3_; have GW285 := n4_; have GE285 := n5_; have NB280_285 := n6_; have NB285_280 := n7_; have NB281_285 := n8_; have NB285_281 := n9_; clear z_ n0_ n1_ n2_ n3_ n4_ n5_ n6_ n7_ n8_ n9_; clear hb hbox hg; have hnb16 := NB285_280.out; have hnc16 := NB280_285.out; have hnb17 := NB285_281.out; have hnc17 := NB281_285.out; obtain ⟨hcz18_0, hcz18_1, hcz18_2, hcz18_3⟩ := cZ4 BK285.out; obtain ⟨hfz18_0, hfz18_1, hfz18_2, hfz18_3⟩ := fZ4 BK285.out))
    go_loopg [9, 10] k (fun kq v9 v10 w' => ∃ (x9_1 : List Int) (x10_1 : Int) (x286000_1 : Int) (x286002_1 : List Int) (x286003_1 : List (S67)) (u286002 : Value) (u286003 : Value), v10 = .int .i64 x10_1 ∧ Aside0 (impl_GrammarOf.l0 kq a2 x9_1 x10_1 a0_0 l0_1 l0_2 a0_3 a0_4 l0_5 x286000_1 0 x286002_1 x286003_1 = some (r1, r2, r3, r4, r5)) ∧ Aside0 (kq ≤ k) ∧ Aside0 (Kd.R (Kd.int .i64) 2 w' w.heap.size (fun k_ => some k_ ≠ (u286002 : Value).ownBlock) v9 x9_1) ∧ Aside0 (Kd.R (Kd.int .i64) 2 w' w.heap.size (fun k_ => some k_ ≠ (v9 : Value).ownBlock) u286002 x286002_1) ∧ Aside0 (Kd.R k67 67 w' w.heap.size (fun _ => True) u286003 x286003_1) ∧ Aside0 (w'.heap[gb280]? = some (.cells #[.string a0_0, (.slice A0_1 l0_1.length c0_1), (.slice A0_2 l0_2.length c0_2), .int .i64 a0_3, .int .i64 a0_4, (.slice A0_5 l0_5.length c0_5)] 58 (0, 0))) ∧ Aside0 (w'.heap[gb281]? = some (.cells #[.int .i64 0, .int .i64 0, (.slice none 0 0), (.slice none 0 0)] 30 (0, 0))) ∧ Aside0 (w'.heap[gb285]? = some (.cells #[.int .i64 x286000_1, .int .i64 0, u286002, u286003] 30 (0, 0))) ∧ Aside0 (Below w.heap.size w w'))
    case atStart => exact ⟨(([] : List Int)), (a1), (1), (([] : List Int)), (([] : List (S67))), (.slice none 0 0), (.slice none 0 0), eT, H', ⟨Nat.le_refl _⟩, ⟨by first | exact Kd.R_nil _ _ _ _ _ | exact Kd.N_nil _ _ _ _ _ | exact Kd.V_nil _ _ _ _ _ | exact Kd.Q_nil _ _ _ _ _ | exact Kd.S_nil _ _ _ _ _⟩, ⟨by first | exact Kd.R_nil _ _ _ _ _ | exact Kd.N_nil _ _ _ _ _ | exact Kd.V_nil _ _ _ _ _ | exact Kd.Q_nil _ _ _ _ _ | exact Kd.S_nil _ _ _ _ _⟩, ⟨by first | exact Kd.R_nil _ _ _ _ _ | exact Kd.N_nil _ _ _ _ _ | exact Kd.V_nil _ _ _ _ _ | exact Kd.Q_nil _ _ _ _ _ | exact Kd.S_nil _ _ _ _ _⟩, ⟨by (with_reducible repeat (first | refine kN ?_ _ | refine kD ?_ | refine kA ?_ _)); refine kF ?_ NB280_285.out _; (with_reducible repeat (first | refine kN ?_ _ | refine kD ?_ | refine kA ?_ _)); refine kF ?_ NB280_285.out _; (with_reducible repeat (first | refine kN ?_ _ | refine kD ?_ | refine kA ?_ _)); refine kF ?_ NB280_285.out _; (with_reducible repeat (first | refine kN ?_ _ | refine kD ?_ | refine kA ?_ _)); refine kF ?_ NB280_285.out _; (with_reducible repeat (first | refine kN ?_ _ | refine kD ?_ | refine kA ?_ _)); exact BK280.out⟩, ⟨by (with_reducible repeat (first | refine kN ?_ _ | refine kD ?_ | refine kA ?_ _)); refine kF ?_ NB281_285.out _; (with_reducible repeat (first | refine kN ?_ _ | refine kD ?_ | refine kA ?_ _)); refine kF ?_ NB281_285.out _; (with_reducible repeat (first | refine kN ?_ _ | refine kD ?_ | refine kA ?_ _)); refine kF ?_ NB281_285.out _; (with_reducible repeat (first | refine kN ?_ _ | refine kD ?_ | refine kA ?_ _)); refine kF ?_ NB281_285.out _; (with_reducible repeat (first | refine kN ?_ _ | refine kD ?_ | refine kA ?_ _)); exact BK281.out⟩, ⟨by (with_reducible repeat (first | refine kN ?_ _ | refine kD ?_ | refine kA ?_ _)); refine blk_put (cs := #[.int .i64 1, .int .i64 0, .slice none 0 0, .slice none 0 0]) ?_ 3 _ rfl; (with_reducible repeat (first | refine kN ?_ _ | refine kD ?_ | refine kA ?_ _)); refine blk_put (cs := #[.int .i64 1, .int .i64 0, .slice none 0 0, .slice none 0 0]) ?_ 2 _ rfl; (with_reducible repeat (first | refine kN ?_ _ | refine kD ?_ | refine kA ?_ _)); refine blk_put (cs := #[.int .i64 1, .int .i64 0, .slice none 0 0, .slice none 0 0]) ?_ 1 _ rfl; (with_reducible repeat (first | refine kN ?_ _ | refine kD ?_ | refine kA ?_ _)); refine blk_put (cs := #[.int .i64 0, .int .i64 0, .slice none 0 0, .slice none 0 0]) ?_ 0 _ rfl; (with_reducible repeat (first | refine kN ?_ _ | refine kD ?_ | refine kA ?_ _)); exact BK285.out⟩, ⟨by repeat (first | (with_reducible first | exact HB.out | apply bA | apply bN | apply bD | refine bS ?_ GE280.out | refine bS ?_ GE281.out | refine bS ?_ GE285.out) | exact HB.out)⟩⟩
    case round =>
     clear H'
     try clear c1
     try clear p2
     try clear c5
     try clear c6
     try clear c7
     try clear c8
     try clear c9
     try clear c12
     try clear c16
     try clear c17
     try clear hcz13_0
     try clear hcz13_1
     try clear hcz13_2
     try clear hcz13_3
     try clear hcz13_4
     try clear hcz13_5
     try clear hcz18_0
     try clear hcz18_1
     try clear hcz18_2
     try clear hcz18_3
     try clear hfz13_0
     try clear hfz13_1
     try clear hfz13_2
     try clear hfz13_3
     try clear hfz13_4
     try clear hfz13_5
     try clear hfz18_0
     try clear hfz18_1
     try clear hfz18_2
     try clear hfz18_3
     obtain ⟨x9_1, x10_1, x286000_1, x286002_1, x286003_1, u286002, u286003, rfl, HA, HK1, HO_9, HO_286002, HO_286003, BK280, BK281, BK285, HB⟩ := hrel
     cases gk with
     | zero => exact absurd HA.out (by simp [impl_GrammarOf.l0])
     | succ k1 =>
      have H := HA.out
      clear HA
      simp only [impl_GrammarOf.l0] at H
      by_cases c19 : x10_1 ≤ a2
      ·rw [if_pos c19] at H
       have c19b0 : decide (x10_1 ≤ a2) = true := decide_eq_true c19
       clear c19
       replace H := Option.bind_eq_some_iff.mp H
       obtain ⟨t286, A200, H⟩ := H
       replace H : ((impl_Raga_hasTone.f k1 a0_0 l0_1 l0_2 a0_3 a0_4 l0_5 t286).bind fun t287 => (if t287 = true then (if x9_1.length < 17592186044416 then ((some (x9_1 ++ [x10_1] : List Int)).bind fun y288 => ((impl_ToneOf.f x10_1).bind fun t291 => (if t291 = 0 then (if x286002_1.length < 17592186044416 then (if x286003_1.length < 5864062014805 then (impl_GrammarOf.l0 k1 a2 y288 (wrap64 (x10_1 + 1)) a0_0 l0_1 l0_2 a0_3 a0_4 l0_5 (wrap64 (x286000_1 + 1)) 0 (x286002_1 ++ [x286000_1]) (x286003_1 ++ [(⟨0, x10_1, x286000_1⟩ : S67)])) else (none)) else (none)) else (if x286003_1.length < 5864062014805 then (impl_GrammarOf.l0 k1 a2 y288 (wrap64 (x10_1 + 1)) a0_0 l0_1 l0_2 a0_3 a0_4 l0_5 (wrap64 (x286000_1 + 1)) 0 x286002_1 (x286003_1 ++ [(⟨0, x10_1, x286000_1⟩ : S67)])) else (none))))) else (none)) else (impl_GrammarOf.l0 k1 a2 x9_1 (wrap64 (x10_1 + 1)) a0_0 l0_1 l0_2 a0_3 a0_4 l0_5 x286000_1 0 x286002_1 x286003_1))) = some (r1, r2, r3, r4, r5) := H
       have A20 := Aside0.mk A200
       clear A200
       replace H := Option.bind_eq_some_iff.mp H
       obtain ⟨t287, A210, H⟩ := H
       replace H : (if t287 = true then (if x9_1.length < 17592186044416 then ((some (x9_1 ++ [x10_1] : List Int)).bind fun y288 => ((impl_ToneOf.f x10_1).bind fun t291 => (if t291 = 0 then (if x286002_1.length < 17592186044416 then (if x286003_1.length < 5864062014805 then (impl_GrammarOf.l0 k1 a2 y288 (wrap64 (x10_1 + 1)) a0_0 l0_1 l0_2 a0_3 a0_4 l0_5 (wrap64 (x286000_1 + 1)) 0 (x286002_1 ++ [x286000_1]) (x286003_1 ++ [(⟨0, x10_1, x286000_1⟩ : S67)])) else (none)) else (none)) else (if x286003_1.length < 5864062014805 then (impl_GrammarOf.l0 k1 a2 y288 (wrap64 (x10_1 + 1)) a0_0 l0_1 l0_2 a0_3 a0_4 l0_5 (wrap64 (x286000_1 + 1)) 0 x286002_1 (x286003_1 ++ [(⟨0, x10_1, x286000_1⟩ : S67)])) else (none))))) else (none)) else (impl_GrammarOf.l0 k1 a2 x9_1 (wrap64 (x10_1 + 1)) a0_0 l0_1 l0_2 a0_3 a0_4 l0_5 x286000_1 0 x286002_1 x286003_1)) = some (r1, r2, r3, r4, r5) := H
       have A21 := Aside0.mk A210
       clear A210
       by_cases c22 : t287 = true
       ·subst c22
        have H1 : (if x9_1.length < 17592186044416 then ((some (x9_1 ++ [x10_1] : List Int)).bind fun y288 => ((impl_ToneOf.f x10_1).bind fun t291 => (if t291 = 0 then (if x286002_1.length < 17592186044416 then (if x286003_1.length < 5864062014805 then (impl_GrammarOf.l0 k1 a2 y288 (wrap64 (x10_1 + 1)) a0_0 l0_1 l0_2 a0_3 a0_4 l0_5 (wrap64 (x286000_1 + 1)) 0 (x286002_1 ++ [x286000_1]) (x286003_1 ++ [(⟨0, x10_1, x286000_1⟩ : S67)])) else (none)) else (none)) else (if x286003_1.length < 5864062014805 then (impl_GrammarOf.l0 k1 a2 y288 (wrap64 (x10_1 + 1)) a0_0 l0_1 l0_2 a0_3 a0_4 l0_5 (wrap64 (x286000_1 + 1)) 0 x286002_1 (x286003_1 ++ [(⟨0, x10_1, x286000_1⟩ : S67)])) else (none))))) else (none)) = some (r1, r2, r3, r4, r5) := by rw [if_pos rfl] at H; exact H
        clear H
        have H := H1
        clear H1
        by_cases c23 : x9_1.length < 17592186044416
        ·rw [if_pos c23] at H
         have LMc23 := Aside0.mk c23
         clear c23
         obtain ⟨y288, hy288⟩ : ∃ y_ : List Int, y_ = (x9_1 ++ [x10_1]) := ⟨_, rfl⟩
         replace H : ((impl_ToneOf.f x10_1).bind fun t291 => (if t291 = 0 then (if x286002_1.length < 17592186044416 then (if x286003_1.length < 5864062014805 then (impl_GrammarOf.l0 k1 a2 y288 (wrap64 (x10_1 + 1)) a0_0 l0_1 l0_2 a0_3 a0_4 l0_5 (wrap64 (x286000_1 + 1)) 0 (x286002_1 ++ [x286000_1]) (x286003_1 ++ [(⟨0, x10_1, x286000_1⟩ : S67)])) else (none)) else (none)) else (if x286003_1.length < 5864062014805 then (impl_GrammarOf.l0 k1 a2 y288 (wrap64 (x10_1 + 1)) a0_0 l0_1 l0_2 a0_3 a0_4 l0_5 (wrap64 (x286000_1 + 1)) 0 x286002_1 (x286003_1 ++ [(⟨0, x10_1, x286000_1⟩ : S67)])) else (none)))) = some (r1, r2, r3, r4, r5) := by first | (rw [hy288]; with_reducible exact H) | (have H2_ := (Option.bind_some _ _).symm.trans H; rw [hy288]; with_reducible exact H2_) | (have H2_ := (Option.bind_some _ _).symm.trans H; with_reducible exact H2_) | with_reducible exact H | (rw [hy288]; exact H) | exact H
         have Ny288 := Aside0.mk hy288
         clear hy288
         replace H := Option.bind_eq_some_iff.mp H
         obtain ⟨t291, A240, H⟩ := H
         replace H : (if t291 = 0 then (if x286002_1.length < 17592186044416 then (if x286003_1.length < 5864062014805 then (impl_GrammarOf.l0 k1 a2 y288 (wrap64 (x10_1 + 1)) a0_0 l0_1 l0_2 a0_3 a0_4 l0_5 (wrap64 (x286000_1 + 1)) 0 (x286002_1 ++ [x286000_1]) (x286003_1 ++ [(⟨0, x10_1, x286000_1⟩ : S67)])) else (none)) else (none)) else (if x286003_1.length < 5864062014805 then (impl_GrammarOf.l0 k1 a2 y288 (wrap64 (x10_1 + 1)) a0_0 l0_1 l0_2 a0_3 a0_4 l0_5 (wrap64 (x286000_1 + 1)) 0 x286002_1 (x286003_1 ++ [(⟨0, x10_1, x286000_1⟩ : S67)])) else (none))) = some (r1, r2, r3, r4, r5) := H
         have A24 := Aside0.mk A240
         clear A240
         by_cases c25 : t291 = 0
         ·rw [if_pos c25] at H
          have c25b0 : (t291 == 0) = true := beq_iff_eq.mpr c25
          have c25b1 : (t291 != 0) = false := bne_eq_false_iff_eq.mpr c25
          clear c25
          by_cases c26 : x286002_1.length < 17592186044416
          ·rw [if_pos c26] at H
           have LMc26 := Aside0.mk c26
           clear c26
           obtain ⟨y292, hy292⟩ : ∃ y_ : List Int, y_ = (x286002_1 ++ [x286000_1]) := ⟨_, rfl⟩
           replace H : (if x286003_1.length < 5864062014805 then (impl_GrammarOf.l0 k1 a2 y288 (wrap64 (x10_1 + 1)) a0_0 l0_1 l0_2 a0_3 a0_4 l0_5 (wrap64 (x286000_1 + 1)) 0 y292 (x286003_1 ++ [(⟨0, x10_1, x286000_1⟩ : S67)])) else (none)) = some (r1, r2, r3, r4, r5) := by first | (rw [hy292]; with_reducible exact H) | (have H2_ := (Option.bind_some _ _).symm.trans H; rw [hy292]; with_reducible exact H2_) | (have H2_ := (Option.bind_some _ _).symm.trans H; with_reducible exact H2_) | with_reducible exact H | (rw [hy292]; exact H) | exact H
           have Ny292 := Aside0.mk hy292
           clear hy292
           by_cases c27 : x286003_1.length < 5864062014805
           ·rw [if_pos c27] at H
            have LMc27 := Aside0.mk c27
            clear c27
            obtain ⟨y295, hy295⟩ : ∃ y_ : List (S67), y_ = (x286003_1 ++ [(⟨0, x10_1, x286000_1⟩ : S67)]) := ⟨_, rfl⟩
            replace H : (impl_GrammarOf.l0 k1 a2 y288 (wrap64 (x10_1 + 1)) a0_0 l0_1 l0_2 a0_3 a0_4 l0_5 (wrap64 (x286000_1 + 1)) 0 y292 y295) = some (r1, r2, r3, r4, r5) := by first | (rw [hy295]; with_reducible exact H) | (have H2_ := (Option.bind_some _ _).symm.trans H; rw [hy295]; with_reducible exact H2_) | (have H2_ := (Option.bind_some _ _).symm.trans H; with_reducible exact H2_) | with_reducible exact H | (rw [hy295]; exact H) | exact H
            have Ny295 := Aside0.mk hy295
            clear hy295
            have H' := Aside0.mk H
            clear H
            try go_wp2
            have n0_ := Aside0.mk (rD HO_9.out)
            have n1_ := Aside0.mk (rD HO_286002.out)
            have n2_ := Aside0.mk (rD HO_286003.out)
            have n3_ := Aside0.mk (kD BK280.out)
            have n4_ := Aside0.mk (kD BK281.out)
            have n5_ := Aside0.mk (kD BK285.out)
            have n6_ := Aside0.mk (bD HB.out)
            clear HO_9
            clear HO_286002
            clear HO_286003
            clear BK280
            clear BK281
            clear BK285
            clear HB
            have HO_9 := n0_
            have HO_286002 := n1_
            have HO_286003 := n2_
            have BK280 := n3_
            have BK281 := n4_
            have BK285 := n5_
            have HB := n6_
            clear n0_ n1_ n2_ n3_ n4_ n5_ n6_
            refine start_ (n := 5) (S := fun w' => w'.cell? ⟨gb280, 0, none⟩ = some (.string a0_0) ∧ w'.cell? ⟨gb280, 1, none⟩ = some (.slice A0_1 l0_1.length c0_1) ∧ w'.cell? ⟨gb280, 2, none⟩ = some (.slice A0_2 l0_2.length c0_2) ∧ w'.cell? ⟨gb280, 3, none⟩ = some (.int .i64 a0_3) ∧ w'.cell? ⟨gb280, 4, none⟩ = some (.int .i64 a0_4) ∧ w'.cell? ⟨gb280, 5, none⟩ = some (.slice A0_5 l0_5.length c0_5)) (ds := []) #[F,F,F,F,F] (by kernel_rfl) rfl rfl ⟨(kC BK280.out 0).trans rfl, (kC BK280.out 1).trans rfl, (kC BK280.out 2).trans rfl, (kC BK280.out 3).trans rfl, (kC BK280.out 4).trans rfl, (kC BK280.out 5).trans rfl⟩ (fun hHeld => ?_)
            generalize wr.drew = w28 at HO_9 HO_286002 HO_286003 BK280 BK281 BK285 HB hHeld ⊢
            refine pure_ (i := 1) (N := some 39) (v := ?_) (a' := ?_) #[F,T,F,F,F] rfl rfl (by kernel_rfl) (fun _ _ _ h => h) (Or.inl ⟨by rfl, ?_⟩) ?_ ?_; rotate_left; (·intro w'; go_simp; with_reducible rfl); rotate_left; (·simp only [Act.put, sI, sZ, sS, iW, jW]; rfl)
            refine take_ (i := 0) (N := some 38) (v := ?_) (a' := ?_) #[T,T,F,F,F] rfl rfl (by kernel_rfl) (fun _ _ _ h => h) (Or.inl ⟨by rfl, ?_⟩) hHeld ?_ ?_; rotate_left; (·rintro w' ⟨s0, s1, s2, s3, s4, s5⟩; go_simp; with_reducible rfl); rotate_left; (·simp only [Act.put, sI, sZ, sS, iW, jW]; rfl)
            refine one_ (i := 2) (N := some 40) #[T,T,T,F,F] rfl rfl (by kernel_rfl) (by decide) (fun K hK => ?_)
            refine goes_ Try.func96 (by kernel_rfl) rfl #[.int .i64 x10_1] (by rfl) rfl rfl lQ ?_
            with_reducible refine (impl_ToneOf.calls x10_1 t286 _ A20.out).mono ?_
            rintro e w' ⟨rfl, ⟨nd, rfl⟩⟩
            refine ⟨_, rfl, ?_⟩
            refine hK.out _ _ ⟨(kC BK280.out 0).trans rfl, (kC BK280.out 1).trans rfl, (kC BK280.out 2).trans rfl, (kC BK280.out 3).trans rfl, (kC BK280.out 4).trans rfl, (kC BK280.out 5).trans rfl⟩ (fun hHeld => ?_)
            clear hK K
            refine norm_ (a' := ?_) ?_ ?_
            rotate_left
            ·show Act.put _ (some 40) _ = _
             simp only [Act.put, sI, sZ, sS, iW, jW]
             rfl
            refine one_ (i := 3) (N := some 41) #[T,T,T,T,F] rfl rfl (by kernel_rfl) (by decide) (fun K hK => ?_)
            refine goes_ Try.func95 (by kernel_rfl) rfl #[.agg #[.string a0_0, .slice A0_1 l0_1.length c0_1, .slice A0_2 l0_2.length c0_2, .int .i64 a0_3, .int .i64 a0_4, .slice A0_5 l0_5.length c0_5], .int .i64 t286] (by rfl) rfl rfl lQ ?_
            with_reducible refine (impl_Raga_hasTone.calls k1 a0_0 _ _ l0_1 _ _ l0_2 a0_3 a0_4 _ _ l0_5 t286 true _ ?side1 ?side2 ?side3 ?side4 ?side5 ?side6 A21.out).mono ?_
            (case side1 => repeat (first | exact (cB HR0_1.out (by repeat (first | (with_reducible first | exact HB.out | apply bA | apply bN | apply bD | refine bS ?_ GE280.out | refine bS ?_ GE281.out | refine bS ?_ GE285.out) | exact HB.out))) | (with_reducible refine cA ?_ _) | (with_reducible refine cN ?_ _) | (with_reducible refine cD ?_)))
            (case side2 => exact HC0_1.out)
            (case side3 => repeat (first | exact (cB HR0_2.out (by repeat (first | (with_reducible first | exact HB.out | apply bA | apply bN | apply bD | refine bS ?_ GE280.out | refine bS ?_ GE281.out | refine bS ?_ GE285.out) | exact HB.out))) | (with_reducible refine cA ?_ _) | (with_reducible refine cN ?_ _) | (with_reducible refine cD ?_)))
            (case side4 => exact HC0_2.out)
            (case side5 => repeat (first | exact (cB HR0_5.out (by repeat (first | (with_reducible first | exact HB.out | apply bA | apply bN | apply bD | refine bS ?_ GE280.out | refine bS ?_ GE281.out | refine bS ?_ GE285.out) | exact HB.out))) | (with_reducible refine cA ?_ _) | (with_reducible refine cN ?_ _) | (with_reducible refine cD ?_)))
            (case side6 => exact HC0_5.out)
            rintro e w29 ⟨rfl, hb⟩
            refine ⟨_, rfl, ?_⟩
            have n0_ := Aside0.mk (rB (rQ HO_9) hb)
            have n1_ := Aside0.mk (rB (rQ HO_286002) hb)
            have n2_ := Aside0.mk (rB (rQ HO_286003) hb)
            have n3_ := Aside0.mk (kB (kQ BK280) hb)
            have n4_ := Aside0.mk (kB (kQ BK281) hb)
            have n5_ := Aside0.mk (kB (kQ BK285) hb)
            have n6_ := Aside0.mk (bP (by repeat (first | (with_reducible first | exact HB.out | apply bA | apply bN | apply bD | refine bS ?_ GE280.out | refine bS ?_ GE281.out | refine bS ?_ GE285.out) | exact HB.out)) hb)
            clear HO_9
            clear HO_286002
            clear HO_286003
            clear BK280
            clear BK281
            clear BK285
            clear HB
            have HO_9 := n0_
            have HO_286002 := n1_
            have HO_286003 := n2_
            have BK280 := n3_
            have BK281 := n4_
            have BK285 := n5_
            have HB := n6_
            clear n0_ n1_ n2_ n3_ n4_ n5_ n6_
            (try clear hb)
            (try clear hb2)
            (try clear hk)
            (try clear hi)
            refine hK.out _ _ ⟨(kC BK280.out 0).trans rfl, (kC BK280.out 1).trans rfl, (kC BK280.out 2).trans rfl, (kC BK280.out 3).trans rfl, (kC BK280.out 4).trans rfl, (kC BK280.out 5).trans rfl⟩ (fun hHeld => ?_)
            clear hK K
            refine norm_ (a' := ?_) ?_ ?_
            rotate_left
            ·show Act.put _ (some 41) _ = _
             simp only [Act.put, sI, sZ, sS, iW, jW]
             rfl
            refine pure_ (i := 4) (N := some 42) (v := ?_) (a' := ?_) #[T,T,T,T,T] rfl rfl (by kernel_rfl) (fun _ _ _ h => h) (Or.inl ⟨by rfl, ?_⟩) ?_ ?_; rotate_left; (·intro w'; go_simp; with_reducible rfl); rotate_left; (·simp only [Act.put, sI, sZ, sS, iW, jW]; rfl)
            refine done_ (by kernel_rfl) ?_
            try go_wp2_with (first | ((with_reducible refine gate_builtin (b := .append) (xs := #[.tmp 43, .tmp 45]) rfl ?_); (try (refine gate_guard (by rfl) ?_; dsimp only)); at_builtin; refine Kd.R_append (Kd.int .i64) (w0 := w) w.heap.size rfl (.tmp 43) (.tmp 45) 22 2 (.int .i64 0) 8 rfl Try.underlying22 info2 rfl (by decide) (by omega) u9 x9_1 x10_1 [.int .i64 x10_1] (fun k_ => some k_ ≠ (u286002 : Value).ownBlock) (fun _ => False) rfl rfl ?aP (fun _ hk => hk.elim) ?aF ?aO ?aB ?aS ?aL ?_; (case aP => exact rfl); (case aB => exact (by repeat (first | (with_reducible first | exact HB.out | apply bA | apply bN | apply bD | refine bS ?_ GE280.out | refine bS ?_ GE281.out | refine bS ?_ GE285.out) | exact HB.out))); (case aF => exact (fun k_ hk => Kd.fresh' (rT (rQ HO_286002)) k_ hk)); (case aO => exact (rQ HO_9)); (case aS => exact (bZ (by repeat (first | (with_reducible first | exact HB.out | apply bA | apply bN | apply bD | refine bS ?_ GE280.out | refine bS ?_ GE281.out | refine bS ?_ GE285.out) | exact HB.out)))); (case aL => have := LMc23.out; omega); intro v289 w30 ho hb hg hat; rw [← Ny288.out] at ho; have n0_ := Aside0.mk (Kd.R_after (ok := (fun _ => True)) (by (with_reducible repeat (first | apply rA | apply rN | apply rD)); exact rM HO_286002.out (fun _ hk => ⟨trivial, hk⟩)) hg hat); have n1_ := Aside0.mk (Kd.R_over' (rQ HO_286003) (Kd.R_typed (rQ HO_9)) (by decide) hg); have n2_ := Aside0.mk (blk_grown (kQ BK280) hg (Kd.R_ne HO_9.out BK280.out (by decide))); have n3_ := Aside0.mk (blk_grown (kQ BK281) hg (Kd.R_ne HO_9.out BK281.out (by decide))); have n4_ := Aside0.mk (blk_grown (kQ BK285) hg (Kd.R_ne HO_9.out BK285.out (by decide))); have n5_ := Aside0.mk (hb); have n6_ := Aside0.mk (ho); clear HO_286002; clear HO_286003; clear BK280; clear BK281; clear BK285; clear HB; clear HO_9; have HO_286002 := n0_; have HO_286003 := n1_; have BK280 := n2_; have BK281 := n3_; have BK285 := n4_; have HB := n5_; have HO290 := n6_; clear n0_ n1_ n2_ n3_ n4_ n5_ n6_; clear ho hb hg hat) | ((with_reducible refine gC (f := 96) rfl ?_); refine goesL_ (some 48) rfl rfl Try.func96 (by kernel_rfl) rfl #[.int .i64 x10_1] rfl lQ ?_; (with_reducible refine (impl_ToneOf.calls x10_1 t291 _ A24.out).mono ?_); rintro e w' ⟨rfl, ⟨nd, rfl⟩⟩; refine ⟨_, rfl, ?_⟩; (try (rw [drewN_self w30]; generalize hq_ : World.drewN w30 _ = w30; have n0_ : Aside0 (Kd.R (Kd.int .i64) 2 w30 w.heap.size (fun k_ => some k_ ≠ (u286002 : Value).ownBlock) v289 y288) := ⟨by rw [← hq_]; exact (rQ HO290)⟩; have n1_ : Aside0 (Kd.R (Kd.int .i64) 2 w30 w.heap.size (fun k_ => True ∧ some k_ ≠ (v289 : Value).ownBlock) u286002 x286002_1) := ⟨by rw [← hq_]; exact (by (with_reducible repeat (first | apply rA | apply rN | apply rD)); exact rM HO_286002.out (fun _ hk => ⟨trivial, hk.2⟩))⟩; have n2_ : Aside0 (Kd.R k67 67 w30 w.heap.size (fun _ => True) u286003 x286003_1) := ⟨by rw [← hq_]; exact (rQ HO_286003)⟩; have n3_ : Aside0 (w30.heap[gb280]? = some (.cells #[.string a0_0, .slice A0_1 l0_1.length c0_1, .slice A0_2 l0_2.length c0_2, .int .i64 a0_3, .int .i64 a0_4, .slice A0_5 l0_5.length c0_5] 58 (0, 0))) := ⟨by rw [← hq_]; exact (kQ BK280)⟩; have n4_ : Aside0 (w30.heap[gb281]? = some (.cells #[.int .i64 0, .int .i64 0, .slice none 0 0, .slice none 0 0] 30 (0, 0))) := ⟨by rw [← hq_]; exact (kQ BK281)⟩; have n5_ : Aside0 (w30.heap[gb285]? = some (.cells #[.int .i64 x286000_1, .int .i64 0, u286002, u286003] 30 (0, 0))) := ⟨by rw [← hq_]; exact (kQ BK285)⟩; have n6_ : Aside0 (Below w.heap.size w w30) := ⟨by rw [← hq_]; exact (by repeat (first | (with_reducible first | exact HB.out | apply bA | apply bN | apply bD | refine bS ?_ GE280.out | refine bS ?_ GE281.out | refine bS ?_ GE285.out) | exact HB.out))⟩; clear HO290 HO_286002 HO_286003 BK280 BK281 BK285 HB hq_; have HO290 := n0_; have HO_286002 := n1_; have HO_286003 := n2_; have BK280 := n3_; have BK281 := n4_; have BK285 := n5_; have HB := n6_; clear n0_ n1_ n2_ n3_ n4_ n5_ n6_)); have hnb31 := NB285_280.out; have hnc31 := NB280_285.out; have hnb32 := NB285_281.out; have hnc32 := NB281_285.out; obtain ⟨hcz33_0, hcz33_1, hcz33_2, hcz33_3⟩ := cZ4 BK285.out; obtain ⟨hfz33_0, hfz33_1, hfz33_2, hfz33_3⟩ := fZ4 BK285.out) | ((with_reducible refine gate_builtin (b := .append) (xs := #[.tmp 51, .tmp 54]) rfl ?_); (try (refine gate_guard (by rfl) ?_; dsimp only)); at_builtin; refine Kd.R_append (Kd.int .i64) (w0 := w) w.heap.size rfl (.tmp 51) (.tmp 54) 22 2 (.int .i64 0) 8 rfl Try.underlying22 info2 rfl (by decide) (by omega) u286002 x286002_1 x286000_1 [.int .i64 x286000_1] (fun k_ => some k_ ≠ (v289 : Value).ownBlock) (fun _ => False) rfl rfl ?aP (fun _ hk => hk.elim) ?aF ?aO ?aB ?aS ?aL ?_; (case aP => exact rfl); (case aB => exact (by repeat (first | (with_reducible first | exact HB.out | apply bA | apply bN | apply bD | refine bS ?_ GE280.out | refine bS ?_ GE281.out | refine bS ?_ GE285.out) | exact HB.out))); (case aF => exact (fun k_ hk => Kd.fresh' (rT (rQ HO290)) k_ hk)); (case aO => exact (by (with_reducible repeat (first | apply rA | apply rN | apply rD)); exact rM HO_286002.out (fun _ hk => hk.2))); (case aS => exact (bZ (by repeat (first | (with_reducible first | exact HB.out | apply bA | apply bN | apply bD | refine bS ?_ GE280.out | refine bS ?_ GE281.out | refine bS ?_ GE285.out) | exact HB.out)))); (case aL => have := LMc26.out; omega); intro v293 w34 ho hb hg hat; rw [← Ny292.out] at ho; have n0_ := Aside0.mk (Kd.R_over' (rQ HO_286003) (Kd.R_typed (rQ HO_286002)) (by decide) hg); have n1_ := Aside0.mk (blk_grown (kQ BK280) hg (Kd.R_ne HO_286002.out BK280.out (by decide))); have n2_ := Aside0.mk (blk_grown (kQ BK281) hg (Kd.R_ne HO_286002.out BK281.out (by decide))); have n3_ := Aside0.mk (blk_grown (kQ BK285) hg (Kd.R_ne HO_286002.out BK285.out (by decide))); have n4_ := Aside0.mk (Kd.R_after (ok := (fun _ => True)) (by (with_reducible repeat (first | apply rA | apply rN | apply rD)); exact rM HO290.out (fun _ hk => ⟨trivial, hk⟩)) hg hat); have n5_ := Aside0.mk (hb); have n6_ := Aside0.mk (ho); clear HO_286003; clear BK280; clear BK281; clear BK285; clear HO290; clear HB; clear HO_286002; have HO_286003 := n0_; have BK280 := n1_; have BK281 := n2_; have BK285 := n3_; have HO290 := n4_; have HB := n5_; have HO294 := n6_; clear n0_ n1_ n2_ n3_ n4_ n5_ n6_; clear ho hb hg hat; obtain ⟨Ao35, co35, eo35⟩ := Kd.R_slice HO294.out; subst eo35; obtain ⟨hcz36_0, hcz36_1, hcz36_2, hcz36_3⟩ := cZ4 BK285.out; obtain ⟨hfz36_0, hfz36_1, hfz36_2, hfz36_3⟩ := fZ4 BK285.out) | ((with_reducible refine gate_builtin (b := .append) (xs := #[.tmp 58, .tmp 63]) rfl ?_); (try (refine gate_guard (by rfl) ?_; dsimp only)); at_builtin; refine Kd.R_append k67 (w0 := w) w.heap.size rfl (.tmp 58) (.tmp 63) 28 67 (.agg #[(.int .i64 0), (.int .i64 0), (.int .i64 0)]) 24 rfl Try.underlying28 info67 rfl (by decide) (by omega) u286003 x286003_1 (⟨0, x10_1, x286000_1⟩ : S67) [.int .i64 0, .int .i64 x10_1, .int .i64 x286000_1] (fun _ => True) (fun _ => False) rfl (by first | (go_simp; done) | (go_simp; rfl)) ?aP (fun _ hk => hk.elim) ?aF ?aO ?aB ?aS ?aL ?_; (case aP => exact k67_mkM _ _ _ (⟨0, x10_1, x286000_1⟩ : S67)); (case aB => exact (by repeat (first | (with_reducible first | exact HB.out | apply bA | apply bN | apply bD | refine bS ?_ GE280.out | refine bS ?_ GE281.out | refine bS ?_ GE285.out) | exact HB.out))); (case aF => exact (fun _ _ => trivial)); (case aO => exact (by (with_reducible repeat (first | apply rA | apply rN | apply rD)); exact rM (Kd.R_far (p := ⟨gb285, 2, none⟩) (Kd.R_types HO_286003.out BK285.out (by decide)) (fun _ hk => hk.2) (.slice Ao35 y292.length co35)) (fun _ hk => trivial))); (case aS => exact (bZ (by repeat (first | (with_reducible first | exact HB.out | apply bA | apply bN | apply bD | refine bS ?_ GE280.out | refine bS ?_ GE281.out | refine bS ?_ GE285.out) | exact HB.out)))); (case aL => have := LMc27.out; omega); intro v296 w37 ho hb hg hat; rw [← Ny295.out] at ho; have n0_ := Aside0.mk (blk_grown (g := gb280) (o := .cells #[.string a0_0, .slice A0_1 l0_1.length c0_1, .slice A0_2 l0_2.length c0_2, .int .i64 a0_3, .int .i64 a0_4, .slice A0_5 l0_5.length c0_5] 58 (0, 0)) (by (with_reducible repeat (first | refine kN ?_ _ | refine kD ?_ | refine kA ?_ _)); refine kF ?_ NB280_285.out _; (with_reducible repeat (first | refine kN ?_ _ | refine kD ?_ | refine kA ?_ _)); exact BK280.out) hg (Kd.R_ne HO_286003.out BK280.out (by decide))); have n1_ := Aside0.mk (blk_grown (g := gb281) (o := .cells #[.int .i64 0, .int .i64 0, .slice none 0 0, .slice none 0 0] 30 (0, 0)) (by (with_reducible repeat (first | refine kN ?_ _ | refine kD ?_ | refine kA ?_ _)); refine kF ?_ NB281_285.out _; (with_reducible repeat (first | refine kN ?_ _ | refine kD ?_ | refine kA ?_ _)); exact BK281.out) hg (Kd.R_ne HO_286003.out BK281.out (by decide))); have n2_ := Aside0.mk (blk_grown (g := gb285) (o := .cells #[.int .i64 x286000_1, .int .i64 0, .slice Ao35 y292.length co35, u286003] 30 (0, 0)) (by (with_reducible repeat (first | refine kN ?_ _ | refine kD ?_ | refine kA ?_ _)); refine blk_put (cs := #[.int .i64 x286000_1, .int .i64 0, u286002, u286003]) ?_ 2 _ rfl; (with_reducible repeat (first | refine kN ?_ _ | refine kD ?_ | refine kA ?_ _)); exact BK285.out) hg (Kd.R_ne HO_286003.out BK285.out (by decide))); have n3_ := Aside0.mk (Kd.R_over' (by (with_reducible repeat (first | apply rA | apply rN | apply rD)); exact (rM (Kd.R_far (p := ⟨gb285, 2, none⟩) (Kd.R_types HO290.out BK285.out (by decide)) (fun _ hk => hk.2) (.slice Ao35 y292.length co35)) (fun _ h_ => h_.1))) (Kd.R_typed (by (with_reducible repeat (first | apply rA | apply rN | apply rD)); exact (rM (Kd.R_far (p := ⟨gb285, 2, none⟩) (Kd.R_types HO_286003.out BK285.out (by decide)) (fun _ hk => hk.2) (.slice Ao35 y292.length co35)) (fun _ h_ => h_.1)))) (by decide) hg); have n4_ := Aside0.mk (Kd.R_over' (by (with_reducible repeat (first | apply rA | apply rN | apply rD)); exact (rM (Kd.R_far (p := ⟨gb285, 2, none⟩) (Kd.R_types HO294.out BK285.out (by decide)) (fun _ hk => hk.2) (.slice Ao35 y292.length co35)) (fun _ h_ => h_.1))) (Kd.R_typed (by (with_reducible repeat (first | apply rA | apply rN | apply rD)); exact (rM (Kd.R_far (p := ⟨gb285, 2, none⟩) (Kd.R_types HO_286003.out BK285.out (by decide)) (fun _ hk => hk.2) (.slice Ao35 y292.length co35)) (fun _ h_ => h_.1)))) (by decide) hg); have n5_ := Aside0.mk (hb); have n6_ := Aside0.mk (ho); clear BK280; clear BK281; clear BK285; clear HO290; clear HO294; clear HB; clear HO_286003; have BK280 := n0_; have BK281 := n1_; have BK285 := n2_; have HO290 := n3_; have HO294 := n4_; have HB := n5_; have HO297 := n6_; clear n0_ n1_ n2_ n3_ n4_ n5_ n6_; clear ho hb hg hat; obtain ⟨Ao38, co38, eo38⟩ := Kd.R_slice HO297.out; subst eo38; obtain ⟨hcz39_0, hcz39_1, hcz39_2, hcz39_3⟩ := cZ4 BK285.out; obtain ⟨hfz39_0, hfz39_1, hfz39_2, hfz39_3⟩ := fZ4 BK285.out))
            go_roundg k1
            case measure => have := HK1.out; omega
            case rel => exact ⟨(y288), (wrap64 (x10_1 + 1)), (wrap64 (x286000_1 + 1)), (y292), (y295), (.slice Ao35 y292.length co35), (.slice Ao38 y295.length co38), eT, H', ⟨by have := HK1.out; omega⟩, ⟨by (with_reducible repeat (first | apply rA | apply rN | apply rD)); exact rM (Kd.R_far (p := ⟨gb285, 0, none⟩) (Kd.R_far (p := ⟨gb285, 3, none⟩) (Kd.R_types HO290.out BK285.out (by decide)) (fun _ hk => hk.2) (.slice Ao38 y295.length co38)) (fun _ hk => hk.2) (.int .i64 (wrap64 (x286000_1 + 1)))) (fun _ hk => hk.1.2)⟩, ⟨by (with_reducible repeat (first | apply rA | apply rN | apply rD)); exact rM (Kd.R_far (p := ⟨gb285, 0, none⟩) (Kd.R_far (p := ⟨gb285, 3, none⟩) (Kd.R_types HO294.out BK285.out (by decide)) (fun _ hk => hk.2) (.slice Ao38 y295.length co38)) (fun _ hk => hk.2) (.int .i64 (wrap64 (x286000_1 + 1)))) (fun _ hk => hk.1)⟩, ⟨by (with_reducible repeat (first | apply rA | apply rN | apply rD)); exact rM (Kd.R_far (p := ⟨gb285, 0, none⟩) (Kd.R_far (p := ⟨gb285, 3, none⟩) (Kd.R_types HO297.out BK285.out (by decide)) (fun _ hk => hk.2) (.slice Ao38 y295.length co38)) (fun _ hk => hk.2) (.int .i64 (wrap64 (x286000_1 + 1)))) (fun _ hk => trivial)⟩, ⟨by (with_reducible repeat (first | refine kN ?_ _ | refine kD ?_ | refine kA ?_ _)); refine kF ?_ NB280_285.out _; (with_reducible repeat (first | refine kN ?_ _ | refine kD ?_ | refine kA ?_ _)); refine kF ?_ NB280_285.out _; (with_reducible repeat (first | refine kN ?_ _ | refine kD ?_ | refine kA ?_ _)); exact BK280.out⟩, ⟨by (with_reducible repeat (first | refine kN ?_ _ | refine kD ?_ | refine kA ?_ _)); refine kF ?_ NB281_285.out _; (with_reducible repeat (first | refine kN ?_ _ | refine kD ?_ | refine kA ?_ _)); refine kF ?_ NB281_285.out _; (with_reducible repeat (first | refine kN ?_ _ | refine kD ?_ | refine kA ?_ _)); exact BK281.out⟩, ⟨by (with_reducible repeat (first | refine kN ?_ _ | refine kD ?_ | refine kA ?_ _)); refine blk_put (cs := #[.int .i64 x286000_1, .int .i64 0, .slice Ao35 y292.length co35, .slice Ao38 y295.length co38]) ?_ 0 _ rfl; (with_reducible repeat (first | refine kN ?_ _ | refine kD ?_ | refine kA ?_ _)); refine blk_put (cs := #[.int .i64 x286000_1, .int .i64 0, .slice Ao35 y292.length co35, u286003]) ?_ 3 _ rfl; (with_reducible repeat (first | refine kN ?_ _ | refine kD ?_ | refine kA ?_ _)); exact BK285.out⟩, ⟨by repeat (first | (with_reducible first | exact HB.out | apply bA | apply bN | apply bD | refine bS ?_ GE280.out | refine bS ?_ GE281.out | refine bS ?_ GE285.out) | exact HB.out)⟩⟩
           ·rw [if_neg c27] at H
            exact absurd H (by simp)
          ·rw [if_neg c26] at H
           exact absurd H (by simp)
         ·rw [if_neg c25] at H
          have c25b0 : (t291 == 0) = false := beq_eq_false_iff_ne.mpr c25
          have c25b1 : (t291 != 0) = true := bne_iff_ne.mpr c25
          by_cases c40 : x286003_1.length < 5864062014805
          ·rw [if_pos c40] at H
           have LMc40 := Aside0.mk c40
           clear c40
           obtain ⟨y298, hy298⟩ : ∃ y_ : List (S67), y_ = (x286003_1 ++ [(⟨0, x10_1, x286000_1⟩ : S67)]) := ⟨_, rfl⟩
           replace H : (impl_GrammarOf.l0 k1 a2 y288 (wrap64 (x10_1 + 1)) a0_0 l0_1 l0_2 a0_3 a0_4 l0_5 (wrap64 (x286000_1 + 1)) 0 x286002_1 y298) = some (r1, r2, r3, r4, r5) := by first | (rw [hy298]; with_reducible exact H) | (have H2_ := (Option.bind_some _ _).symm.trans H; rw [hy298]; with_reducible exact H2_) | (have H2_ := (Option.bind_some _ _).symm.trans H; with_reducible exact H2_) | with_reducible exact H | (rw [hy298]; exact H) | exact H
           have Ny298 := Aside0.mk hy298
           clear hy298
           have H' := Aside0.mk H
           clear H
           try go_wp2
           have n0_ := Aside0.mk (rD HO_9.out)
           have n1_ := Aside0.mk (rD HO_286002.out)
           have n2_ := Aside0.mk (rD HO_286003.out)
           have n3_ := Aside0.mk (kD BK280.out)
           have n4_ := Aside0.mk (kD BK281.out)
           have n5_ := Aside0.mk (kD BK285.out)
           have n6_ := Aside0.mk (bD HB.out)
           clear HO_9
           clear HO_286002
           clear HO_286003
           clear BK280
           clear BK281
           clear BK285
           clear HB
           have HO_9 := n0_
           have HO_286002 := n1_
           have HO_286003 := n2_
           have BK280 := n3_
           have BK281 := n4_
           have BK285 := n5_
           have HB := n6_
           clear n0_ n1_ n2_ n3_ n4_ n5_ n6_
           refine start_ (n := 5) (S := fun w' => w'.cell? ⟨gb280, 0, none⟩ = some (.string a0_0) ∧ w'.cell? ⟨gb280, 1, none⟩ = some (.slice A0_1 l0_1.length c0_1) ∧ w'.cell? ⟨gb280, 2, none⟩ = some (.slice A0_2 l0_2.length c0_2) ∧ w'.cell? ⟨gb280, 3, none⟩ = some (.int .i64 a0_3) ∧ w'.cell? ⟨gb280, 4, none⟩ = some (.int .i64 a0_4) ∧ w'.cell? ⟨gb280, 5, none⟩ = some (.slice A0_5 l0_5.length c0_5)) (ds := []) #[F,F,F,F,F] (by kernel_rfl) rfl rfl ⟨(kC BK280.out 0).trans rfl, (kC BK280.out 1).trans rfl, (kC BK280.out 2).trans rfl, (kC BK280.out 3).trans rfl, (kC BK280.out 4).trans rfl, (kC BK280.out 5).trans rfl⟩ (fun hHeld => ?_)
           generalize wr.drew = w41 at HO_9 HO_286002 HO_286003 BK280 BK281 BK285 HB hHeld ⊢
           refine pure_ (i := 1) (N := some 39) (v := ?_) (a' := ?_) #[F,T,F,F,F] rfl rfl (by kernel_rfl) (fun _ _ _ h => h) (Or.inl ⟨by rfl, ?_⟩) ?_ ?_; rotate_left; (·intro w'; go_simp; with_reducible rfl); rotate_left; (·simp only [Act.put, sI, sZ, sS, iW, jW]; rfl)
           refine take_ (i := 0) (N := some 38) (v := ?_) (a' := ?_) #[T,T,F,F,F] rfl rfl (by kernel_rfl) (fun _ _ _ h => h) (Or.inl ⟨by rfl, ?_⟩) hHeld ?_ ?_; rotate_left; (·rintro w' ⟨s0, s1, s2, s3, s4, s5⟩; go_simp; with_reducible rfl); rotate_left; (·simp only [Act.put, sI, sZ, sS, iW, jW]; rfl)
           refine one_ (i := 2) (N := some 40) #[T,T,T,F,F] rfl rfl (by kernel_rfl) (by decide) (fun K hK => ?_)
           refine goes_ Try.func96 (by kernel_rfl) rfl #[.int .i64 x10_1] (by rfl) rfl rfl lQ ?_
           with_reducible refine (impl_ToneOf.calls x10_1 t286 _ A20.out).mono ?_
           rintro e w' ⟨rfl, ⟨nd, rfl⟩⟩
           refine ⟨_, rfl, ?_⟩
           refine hK.out _ _ ⟨(kC BK280.out 0).trans rfl, (kC BK280.out 1).trans rfl, (kC BK280.out 2).trans rfl, (kC BK280.out 3).trans rfl, (kC BK280.out 4).trans rfl, (kC BK280.out 5).trans rfl⟩ (fun hHeld => ?_)
           clear hK K
           refine norm_ (a' := ?_) ?_ ?_
           rotate_left
           ·show Act.put _ (some 40) _ = _
            simp only [Act.put, sI, sZ, sS, iW, jW]
            rfl
           refine one_ (i := 3) (N := some 41) #[T,T,T,T,F] rfl rfl (by kernel_rfl) (by decide) (fun K hK => ?_)
           refine goes_ Try.func95 (by kernel_rfl) rfl #[.agg #[.string a0_0, .slice A0_1 l0_1.length c0_1, .slice A0_2 l0_2.length c0_2, .int .i64 a0_3, .int .i64 a0_4, .slice A0_5 l0_5.length c0_5], .int .i64 t286] (by rfl) rfl rfl lQ ?_
           with_reducible refine (impl_Raga_hasTone.calls k1 a0_0 _ _ l0_1 _ _ l0_2 a0_3 a0_4 _ _ l0_5 t286 true _ ?side1 ?side2 ?side3 ?side4 ?side5 ?side6 A21.out).mono ?_
           (case side1 => repeat (first | exact (cB HR0_1.out (by repeat (first | (with_reducible first | exact HB.out | apply bA | apply bN | apply bD | refine bS ?_ GE280.out | refine bS ?_ GE281.out | refine bS ?_ GE285.out) | exact HB.out))) | (with_reducible refine cA ?_ _) | (with_reducible refine cN ?_ _) | (with_reducible refine cD ?_)))
           (case side2 => exact HC0_1.out)
           (case side3 => repeat (first | exact (cB HR0_2.out (by repeat (first | (with_reducible first | exact HB.out | apply bA | apply bN | apply bD | refine bS ?_ GE280.out | refine bS ?_ GE281.out | refine bS ?_ GE285.out) | exact HB.out))) | (with_reducible refine cA ?_ _) | (with_reducible refine cN ?_ _) | (with_reducible refine cD ?_)))
           (case side4 => exact HC0_2.out)
           (case side5 => repeat (first | exact (cB HR0_5.out (by repeat (first | (with_reducible first | exact HB.out | apply bA | apply bN | apply bD | refine bS ?_ GE280.out | refine bS ?_ GE281.out | refine bS ?_ GE285.out) | exact HB.out))) | (with_reducible refine cA ?_ _) | (with_reducible refine cN ?_ _) | (with_reducible refine cD ?_)))
           (case side6 => exact HC0_5.out)
           rintro e w42 ⟨rfl, hb⟩
           refine ⟨_, rfl, ?_⟩
           have n0_ := Aside0.mk (rB (rQ HO_9) hb)
           have n1_ := Aside0.mk (rB (rQ HO_286002) hb)
           have n2_ := Aside0.mk (rB (rQ HO_286003) hb)
           have n3_ := Aside0.mk (kB (kQ BK280) hb)
           have n4_ := Aside0.mk (kB (kQ BK281) hb)
           have n5_ := Aside0.mk (kB (kQ BK285) hb)
           have n6_ := Aside0.mk (bP (by repeat (first | (with_reducible first | exact HB.out | apply bA | apply bN | apply bD | refine bS ?_ GE280.out | refine bS ?_ GE281.out | refine bS ?_ GE285.out) | exact HB.out)) hb)
           clear HO_9
           clear HO_286002
           clear HO_286003
           clear BK280
           clear BK281
           clear BK285
           clear HB
           have HO_9 := n0_
           have HO_286002 := n1_
           have HO_286003 := n2_
           have BK280 := n3_
           have BK281 := n4_
           have BK285 := n5_
           have HB := n6_
           clear n0_ n1_ n2_ n3_ n4_ n5_ n6_
           (try clear hb)
           (try clear hb2)
           (try clear hk)
           (try clear hi)
           refine hK.out _ _ ⟨(kC BK280.out 0).trans rfl, (kC BK280.out 1).trans rfl, (kC BK280.out 2).trans rfl, (kC BK280.out 3).trans rfl, (kC BK280.out 4).trans rfl, (kC BK280.out 5).trans rfl⟩ (fun hHeld => ?_)
           clear hK K
           refine norm_ (a' := ?_) ?_ ?_
           rotate_left
           ·show Act.put _ (some 41) _ = _
            simp only [Act.put, sI, sZ, sS, iW, jW]
            rfl
           refine pure_ (i := 4) (N := some 42) (v := ?_) (a' := ?_) #[T,T,T,T,T] rfl rfl (by kernel_rfl) (fun _ _ _ h => h) (Or.inl ⟨by rfl, ?_⟩) ?_ ?_; rotate_left; (·intro w'; go_simp; with_reducible rfl); rotate_left; (·simp only [Act.put, sI, sZ, sS, iW, jW]; rfl)
           refine done_ (by kernel_rfl) ?_
           try go_wp2_with (first | ((with_reducible refine gate_builtin (b := .append) (xs := #[.tmp 43, .tmp 45]) rfl ?_); (try (refine gate_guard (by rfl) ?_; dsimp only)); at_builtin; refine Kd.R_append (Kd.int .i64) (w0 := w) w.heap.size rfl (.tmp 43) (.tmp 45) 22 2 (.int .i64 0) 8 rfl Try.underlying22 info2 rfl (by decide) (by omega) u9 x9_1 x10_1 [.int .i64 x10_1] (fun k_ => some k_ ≠ (u286002 : Value).ownBlock) (fun _ => False) rfl rfl ?aP (fun _ hk => hk.elim) ?aF ?aO ?aB ?aS ?aL ?_; (case aP => exact rfl); (case aB => exact (by repeat (first | (with_reducible first | exact HB.out | apply bA | apply bN | apply bD | refine bS ?_ GE280.out | refine bS ?_ GE281.out | refine bS ?_ GE285.out) | exact HB.out))); (case aF => exact (fun k_ hk => Kd.fresh' (rT (rQ HO_286002)) k_ hk)); (case aO => exact (rQ HO_9)); (case aS => exact (bZ (by repeat (first | (with_reducible first | exact HB.out | apply bA | apply bN | apply bD | refine bS ?_ GE280.out | refine bS ?_ GE281.out | refine bS ?_ GE285.out) | exact HB.out)))); (case aL => have := LMc23.out; omega); intro v289 w43 ho hb hg hat; rw [← Ny288.out] at ho; have n0_ := Aside0.mk (Kd.R_after (ok := (fun _ => True)) (by (with_reducible repeat (first | apply rA | apply rN | apply rD)); exact rM HO_286002.out (fun _ hk => ⟨trivial, hk⟩)) hg hat); have n1_ := Aside0.mk (Kd.R_over' (rQ HO_286003) (Kd.R_typed (rQ HO_9)) (by decide) hg); have n2_ := Aside0.mk (blk_grown (kQ BK280) hg (Kd.R_ne HO_9.out BK280.out (by decide))); have n3_ := Aside0.mk (blk_grown (kQ BK281) hg (Kd.R_ne HO_9.out BK281.out (by decide))); have n4_ := Aside0.mk (blk_grown (kQ BK285) hg (Kd.R_ne HO_9.out BK285.out (by decide))); have n5_ := Aside0.mk (hb); have n6_ := Aside0.mk (ho); clear HO_286002; clear HO_286003; clear BK280; clear BK281; clear BK285; clear HB; clear HO_9; have HO_286002 := n0_; have HO_286003 := n1_; have BK280 := n2_; have BK281 := n3_; have BK285 := n4_; have HB := n5_; have HO290 := n6_; clear n0_ n1_ n2_ n3_ n4_ n5_ n6_; clear ho hb hg hat) | ((with_reducible refine gC (f := 96) rfl ?_); refine goesL_ (some 48) rfl rfl Try.func96 (by kernel_rfl) rfl #[.int .i64 x10_1] rfl lQ ?_; (with_reducible refine (impl_ToneOf.calls x10_1 t291 _ A24.out).mono ?_); rintro e w' ⟨rfl, ⟨nd, rfl⟩⟩; refine ⟨_, rfl, ?_⟩; (try (rw [drewN_self w43]; generalize hq_ : World.drewN w43 _ = w43; have n0_ : Aside0 (Kd.R (Kd.int .i64) 2 w43 w.heap.size (fun k_ => some k_ ≠ (u286002 : Value).ownBlock) v289 y288) := ⟨by rw [← hq_]; exact (rQ HO290)⟩; have n1_ : Aside0 (Kd.R (Kd.int .i64) 2 w43 w.heap.size (fun k_ => True ∧ some k_ ≠ (v289 : Value).ownBlock) u286002 x286002_1) := ⟨by rw [← hq_]; exact (by (with_reducible repeat (first | apply rA | apply rN | apply rD)); exact rM HO_286002.out (fun _ hk => ⟨trivial, hk.2⟩))⟩; have n2_ : Aside0 (Kd.R k67 67 w43 w.heap.size (fun _ => True) u286003 x286003_1) := ⟨by rw [← hq_]; exact (rQ HO_286003)⟩; have n3_ : Aside0 (w43.heap[gb280]? = some (.cells #[.string a0_0, .slice A0_1 l0_1.length c0_1, .slice A0_2 l0_2.length c0_2, .int .i64 a0_3, .int .i64 a0_4, .slice A0_5 l0_5.length c0_5] 58 (0, 0))) := ⟨by rw [← hq_]; exact (kQ BK280)⟩; have n4_ : Aside0 (w43.heap[gb281]? = some (.cells #[.int .i64 0, .int .i64 0, .slice none 0 0, .slice none 0 0] 30 (0, 0))) := ⟨by rw [← hq_]; exact (kQ BK281)⟩; have n5_ : Aside0 (w43.heap[gb285]? = some (.cells #[.int .i64 x286000_1, .int .i64 0, u286002, u286003] 30 (0, 0))) := ⟨by rw [← hq_]; exact (kQ BK285)⟩; have n6_ : Aside0 (Below w.heap.size w w43) := ⟨by rw [← hq_]; exact (by repeat (first | (with_reducible first | exact HB.out | apply bA | apply bN | apply bD | refine bS ?_ GE280.out | refine bS ?_ GE281.out | refine bS ?_ GE285.out) | exact HB.out))⟩; clear HO290 HO_286002 HO_286003 BK280 BK281 BK285 HB hq_; have HO290 := n0_; have HO_286002 := n1_; have HO_286003 := n2_; have BK280 := n3_; have BK281 := n4_; have BK285 := n5_; have HB := n6_; clear n0_ n1_ n2_ n3_ n4_ n5_ n6_)); have hnb44 := NB285_280.out; have hnc44 := NB280_285.out; have hnb45 := NB285_281.out; have hnc45 := NB281_285.out; obtain ⟨hcz46_0, hcz46_1, hcz46_2, hcz46_3⟩ := cZ4 BK285.out; obtain ⟨hfz46_0, hfz46_1, hfz46_2, hfz46_3⟩ := fZ4 BK285.out) | ((with_reducible refine gate_builtin (b := .append) (xs := #[.tmp 58, .tmp 63]) rfl ?_); (try (refine gate_guard (by rfl) ?_; dsimp only)); at_builtin; refine Kd.R_append k67 (w0 := w) w.heap.size rfl (.tmp 58) (.tmp 63) 28 67 (.agg #[(.int .i64 0), (.int .i64 0), (.int .i64 0)]) 24 rfl Try.underlying28 info67 rfl (by decide) (by omega) u286003 x286003_1 (⟨0, x10_1, x286000_1⟩ : S67) [.int .i64 0, .int .i64 x10_1, .int .i64 x286000_1] (fun _ => True) (fun _ => False) rfl rfl ?aP (fun _ hk => hk.elim) ?aF ?aO ?aB ?aS ?aL ?_; (case aP => exact k67_mkM _ _ _ (⟨0, x10_1, x286000_1⟩ : S67)); (case aB => exact (by repeat (first | (with_reducible first | exact HB.out | apply bA | apply bN | apply bD | refine bS ?_ GE280.out | refine bS ?_ GE281.out | refine bS ?_ GE285.out) | exact HB.out))); (case aF => exact (fun _ _ => trivial)); (case aO => exact (rQ HO_286003)); (case aS => exact (bZ (by repeat (first | (with_reducible first | exact HB.out | apply bA | apply bN | apply bD | refine bS ?_ GE280.out | refine bS ?_ GE281.out | refine bS ?_ GE285.out) | exact HB.out)))); (case aL => have := LMc40.out; omega); intro v299 w47 ho hb hg hat; rw [← Ny298.out] at ho; have n0_ := Aside0.mk (Kd.R_over' (rQ HO_286002) (Kd.R_typed (rQ HO_286003)) (by decide) hg); have n1_ := Aside0.mk (blk_grown (kQ BK280) hg (Kd.R_ne HO_286003.out BK280.out (by decide))); have n2_ := Aside0.mk (blk_grown (kQ BK281) hg (Kd.R_ne HO_286003.out BK281.out (by decide))); have n3_ := Aside0.mk (blk_grown (kQ BK285) hg (Kd.R_ne HO_286003.out BK285.out (by decide))); have n4_ := Aside0.mk (Kd.R_over' (rQ HO290) (Kd.R_typed (rQ HO_286003)) (by decide) hg); have n5_ := Aside0.mk (hb); have n6_ := Aside0.mk (ho); clear HO_286002; clear BK280; clear BK281; clear BK285; clear HO290; clear HB; clear HO_286003; have HO_286002 := n0_; have BK280 := n1_; have BK281 := n2_; have BK285 := n3_; have HO290 := n4_; have HB := n5_; have HO300 := n6_; clear n0_ n1_ n2_ n3_ n4_ n5_ n6_; clear ho hb hg hat; obtain ⟨Ao48, co48, eo48⟩ := Kd.R_slice HO300.out; subst eo48; obtain ⟨hcz49_0, hcz49_1, hcz49_2, hcz49_3⟩ := cZ4 BK285.out; obtain ⟨hfz49_0, hfz49_1, hfz49_2, hfz49_3⟩ := fZ4 BK285.out))
           go_roundg k1
           case measure => have := HK1.out; omega
           case rel => exact ⟨(y288), (wrap64 (x10_1 + 1)), (wrap64 (x286000_1 + 1)), (x286002_1), (y298), (u286002), (.slice Ao48 y298.length co48), eT, H', ⟨by have := HK1.out; omega⟩, ⟨by (with_reducible repeat (first | apply rA | apply rN | apply rD)); exact rM (Kd.R_far (p := ⟨gb285, 0, none⟩) (Kd.R_far (p := ⟨gb285, 3, none⟩) (Kd.R_types HO290.out BK285.out (by decide)) (fun _ hk => hk.2) (.slice Ao48 y298.length co48)) (fun _ hk => hk.2) (.int .i64 (wrap64 (x286000_1 + 1)))) (fun _ hk => hk.1)⟩, ⟨by (with_reducible repeat (first | apply rA | apply rN | apply rD)); exact rM (Kd.R_far (p := ⟨gb285, 0, none⟩) (Kd.R_far (p := ⟨gb285, 3, none⟩) (Kd.R_types HO_286002.out BK285.out (by decide)) (fun _ hk => hk.2) (.slice Ao48 y298.length co48)) (fun _ hk => hk.2) (.int .i64 (wrap64 (x286000_1 + 1)))) (fun _ hk => hk.1.2)⟩, ⟨by (with_reducible repeat (first | apply rA | apply rN | apply rD)); exact rM (Kd.R_far (p := ⟨gb285, 0, none⟩) (Kd.R_far (p := ⟨gb285, 3, none⟩) (Kd.R_types HO300.out BK285.out (by decide)) (fun _ hk => hk.2) (.slice Ao48 y298.length co48)) (fun _ hk => hk.2) (.int .i64 (wrap64 (x286000_1 + 1)))) (fun _ hk => trivial)⟩, ⟨by (with_reducible repeat (first | refine kN ?_ _ | refine kD ?_ | refine kA ?_ _)); refine kF ?_ NB280_285.out _; (with_reducible repeat (first | refine kN ?_ _ | refine kD ?_ | refine kA ?_ _)); refine kF ?_ NB280_285.out _; (with_reducible repeat (first | refine kN ?_ _ | refine kD ?_ | refine kA ?_ _)); exact BK280.out⟩, ⟨by (with_reducible repeat (first | refine kN ?_ _ | refine kD ?_ | refine kA ?_ _)); refine kF ?_ NB281_285.out _; (with_reducible repeat (first | refine kN ?_ _ | refine kD ?_ | refine kA ?_ _)); refine kF ?_ NB281_285.out _; (with_reducible repeat (first | refine kN ?_ _ | refine kD ?_ | refine kA ?_ _)); exact BK281.out⟩, ⟨by (with_reducible repeat (first | refine kN ?_ _ | refine kD ?_ | refine kA ?_ _)); refine blk_put (cs := #[.int .i64 x286000_1, .int .i64 0, u286002, .slice Ao48 y298.length co48]) ?_ 0 _ rfl; (with_reducible repeat (first | refine kN ?_ _ | refine kD ?_ | refine kA ?_ _)); refine blk_put (cs := #[.int .i64 x286000_1, .int .i64 0, u286002, u286003]) ?_ 3 _ rfl; (with_reducible repeat (first | refine kN ?_ _ | refine kD ?_ | refine kA ?_ _)); exact BK285.out⟩, ⟨by repeat (first | (with_reducible first | exact HB.out | apply bA | apply bN | apply bD | refine bS ?_ GE280.out | refine bS ?_ GE281.out | refine bS ?_ GE285.out) | exact HB.out)⟩⟩
          ·rw [if_neg c40] at H
           exact absurd H (by simp)
        ·rw [if_neg c23] at H
         exact absurd H (by simp)
       ·replace c22 := Bool.eq_false_iff.mpr c22
        subst c22
        have H1 : (impl_GrammarOf.l0 k1 a2 x9_1 (wrap64 (x10_1 + 1)) a0_0 l0_1 l0_2 a0_3 a0_4 l0_5 x286000_1 0 x286002_1 x286003_1) = some (r1, r2, r3, r4, r5) := by rw [if_neg (show ¬ (false = true) by decide)] at H; exact H
        clear H
        have H := H1
        clear H1
        have H' := Aside0.mk H
        clear H
        try go_wp2
        have n0_ := Aside0.mk (rD HO_9.out)
        have n1_ := Aside0.mk (rD HO_286002.out)
        have n2_ := Aside0.mk (rD HO_286003.out)
        have n3_ := Aside0.mk (kD BK280.out)
        have n4_ := Aside0.mk (kD BK281.out)
        have n5_ := Aside0.mk (kD BK285.out)
        have n6_ := Aside0.mk (bD HB.out)
        clear HO_9
        clear HO_286002
        clear HO_286003
        clear BK280
        clear BK281
        clear BK285
        clear HB
        have HO_9 := n0_
        have HO_286002 := n1_
        have HO_286003 := n2_
        have BK280 := n3_
        have BK281 := n4_
        have BK285 := n5_
        have HB := n6_
        clear n0_ n1_ n2_ n3_ n4_ n5_ n6_
        refine start_ (n := 5) (S := fun w' => w'.cell? ⟨gb280, 0, none⟩ = some (.string a0_0) ∧ w'.cell? ⟨gb280, 1, none⟩ = some (.slice A0_1 l0_1.length c0_1) ∧ w'.cell? ⟨gb280, 2, none⟩ = some (.slice A0_2 l0_2.length c0_2) ∧ w'.cell? ⟨gb280, 3, none⟩ = some (.int .i64 a0_3) ∧ w'.cell? ⟨gb280, 4, none⟩ = some (.int .i64 a0_4) ∧ w'.cell? ⟨gb280, 5, none⟩ = some (.slice A0_5 l0_5.length c0_5)) (ds := []) #[F,F,F,F,F] (by kernel_rfl) rfl rfl ⟨(kC BK280.out 0).trans rfl, (kC BK280.out 1).trans rfl, (kC BK280.out 2).trans rfl, (kC BK280.out 3).trans rfl, (kC BK280.out 4).trans rfl, (kC BK280.out 5).trans rfl⟩ (fun hHeld => ?_)
        generalize wr.drew = w50 at HO_9 HO_286002 HO_286003 BK280 BK281 BK285 HB hHeld ⊢
        refine pure_ (i := 1) (N := some 39) (v := ?_) (a' := ?_) #[F,T,F,F,F] rfl rfl (by kernel_rfl) (fun _ _ _ h => h) (Or.inl ⟨by rfl, ?_⟩) ?_ ?_; rotate_left; (·intro w'; go_simp; with_reducible rfl); rotate_left; (·simp only [Act.put, sI, sZ, sS, iW, jW]; rfl)
        refine take_ (i := 0) (N := some 38) (v := ?_) (a' := ?_) #[T,T,F,F,F] rfl rfl (by kernel_rfl) (fun _ _ _ h => h) (Or.inl ⟨by rfl, ?_⟩) hHeld ?_ ?_; rotate_left; (·rintro w' ⟨s0, s1, s2, s3, s4, s5⟩; go_simp; with_reducible rfl); rotate_left; (·simp only [Act.put, sI, sZ, sS, iW, jW]; rfl)
        refine one_ (i := 2) (N := some 40) #[T,T,T,F,F] rfl rfl (by kernel_rfl) (by decide) (fun K hK => ?_)
        refine goes_ Try.func96 (by kernel_rfl) rfl #[.int .i64 x10_1] (by rfl) rfl rfl lQ ?_
        with_reducible refine (impl_ToneOf.calls x10_1 t286 _ A20.out).mono ?_
        rintro e w' ⟨rfl, ⟨nd, rfl⟩⟩
        refine ⟨_, rfl, ?_⟩
        refine hK.out _ _ ⟨(kC BK280.out 0).trans rfl, (kC BK280.out 1).trans rfl, (kC BK280.out 2).trans rfl, (kC BK280.out 3).trans rfl, (kC BK280.out 4).trans rfl, (kC BK280.out 5).trans rfl⟩ (fun hHeld => ?_)
        clear hK K
        refine norm_ (a' := ?_) ?_ ?_
        rotate_left
        ·show Act.put _ (some 40) _ = _
         simp only [Act.put, sI, sZ, sS, iW, jW]
         rfl
        refine one_ (i := 3) (N := some 41) #[T,T,T,T,F] rfl rfl (by kernel_rfl) (by decide) (fun K hK => ?_)
        refine goes_ Try.func95 (by kernel_rfl) rfl #[.agg #[.string a0_0, .slice A0_1 l0_1.length c0_1, .slice A0_2 l0_2.length c0_2, .int .i64 a0_3, .int .i64 a0_4, .slice A0_5 l0_5.length c0_5], .int .i64 t286] (by rfl) rfl rfl lQ ?_
        with_reducible refine (impl_Raga_hasTone.calls k1 a0_0 _ _ l0_1 _ _ l0_2 a0_3 a0_4 _ _ l0_5 t286 false _ ?side1 ?side2 ?side3 ?side4 ?side5 ?side6 A21.out).mono ?_
        (case side1 => repeat (first | exact (cB HR0_1.out (by repeat (first | (with_reducible first | exact HB.out | apply bA | apply bN | apply bD | refine bS ?_ GE280.out | refine bS ?_ GE281.out | refine bS ?_ GE285.out) | exact HB.out))) | (with_reducible refine cA ?_ _) | (with_reducible refine cN ?_ _) | (with_reducible refine cD ?_)))
        (case side2 => exact HC0_1.out)
        (case side3 => repeat (first | exact (cB HR0_2.out (by repeat (first | (with_reducible first | exact HB.out | apply bA | apply bN | apply bD | refine bS ?_ GE280.out | refine bS ?_ GE281.out | refine bS ?_ GE285.out) | exact HB.out))) | (with_reducible refine cA ?_ _) | (with_reducible refine cN ?_ _) | (with_reducible refine cD ?_)))
        (case side4 => exact HC0_2.out)
        (case side5 => repeat (first | exact (cB HR0_5.out (by repeat (first | (with_reducible first | exact HB.out | apply bA | apply bN | apply bD | refine bS ?_ GE280.out | refine bS ?_ GE281.out | refine bS ?_ GE285.out) | exact HB.out))) | (with_reducible refine cA ?_ _) | (with_reducible refine cN ?_ _) | (with_reducible refine cD ?_)))
        (case side6 => exact HC0_5.out)
        rintro e w51 ⟨rfl, hb⟩
        refine ⟨_, rfl, ?_⟩
        have n0_ := Aside0.mk (rB (rQ HO_9) hb)
        have n1_ := Aside0.mk (rB (rQ HO_286002) hb)
        have n2_ := Aside0.mk (rB (rQ HO_286003) hb)
        have n3_ := Aside0.mk (kB (kQ BK280) hb)
        have n4_ := Aside0.mk (kB (kQ BK281) hb)
        have n5_ := Aside0.mk (kB (kQ BK285) hb)
        have n6_ := Aside0.mk (bP (by repeat (first | (with_reducible first | exact HB.out | apply bA | apply bN | apply bD | refine bS ?_ GE280.out | refine bS ?_ GE281.out | refine bS ?_ GE285.out) | exact HB.out)) hb)
        clear HO_9
        clear HO_286002
        clear HO_286003
        clear BK280
        clear BK281
        clear BK285
        clear HB
        have HO_9 := n0_
        have HO_286002 := n1_
        have HO_286003 := n2_
        have BK280 := n3_
        have BK281 := n4_
        have BK285 := n5_
        have HB := n6_
        clear n0_ n1_ n2_ n3_ n4_ n5_ n6_
        (try clear hb)
        (try clear hb2)
        (try clear hk)
        (try clear hi)
        refine hK.out _ _ ⟨(kC BK280.out 0).trans rfl, (kC BK280.out 1).trans rfl, (kC BK280.out 2).trans rfl, (kC BK280.out 3).trans rfl, (kC BK280.out 4).trans rfl, (kC BK280.out 5).trans rfl⟩ (fun hHeld => ?_)
        clear hK K
        refine norm_ (a' := ?_) ?_ ?_
        rotate_left
        ·show Act.put _ (some 41) _ = _
         simp only [Act.put, sI, sZ, sS, iW, jW]
         rfl
        refine pure_ (i := 4) (N := some 42) (v := ?_) (a' := ?_) #[T,T,T,T,T] rfl rfl (by kernel_rfl) (fun _ _ _ h => h) (Or.inl ⟨by rfl, ?_⟩) ?_ ?_; rotate_left; (·intro w'; go_simp; with_reducible rfl); rotate_left; (·simp only [Act.put, sI, sZ, sS, iW, jW]; rfl)
        refine done_ (by kernel_rfl) ?_
        try go_wp2
        go_roundg k1
        case measure => have := HK1.out; omega
        case rel => exact ⟨(x9_1), (wrap64 (x10_1 + 1)), (x286000_1), (x286002_1), (x286003_1), (u286002), (u286003), eT, H', ⟨by have := HK1.out; omega⟩, ⟨rQ HO_9⟩, ⟨rQ HO_286002⟩, ⟨rQ HO_286003⟩, ⟨kQ BK280⟩, ⟨kQ BK281⟩, ⟨kQ BK285⟩, ⟨by repeat (first | (with_reducible first | exact HB.out | apply bA | apply bN | apply bD | refine bS ?_ GE280.out | refine bS ?_ GE281.out | refine bS ?_ GE285.out) | exact HB.out)⟩⟩
      ·rw [if_neg c19] at H
       have c19b0 : decide (x10_1 ≤ a2) = false := decide_eq_false c19
       clear c19
       have H' := Aside0.mk H
       clear H
       obtain ⟨Ao52, co52, eo52⟩ := Kd.R_slice HO_9.out
       subst eo52
       go_wp2
       go_loopg [72] k1 (fun kq v72 w' => ∃ (x72_2 : Int) (x286003_2 : List (S67)) (u286003 : Value), v72 = .int .i64 x72_2 ∧ Aside0 (impl_GrammarOf.l1 kq x9_1 x9_1 (x9_1.length : Int) x72_2 a0_0 l0_1 l0_2 a0_3 a0_4 l0_5 x286000_1 0 x286002_1 x286003_2 = some (r1, r2, r3, r4, r5)) ∧ Aside0 (kq ≤ k1) ∧ Aside0 (Kd.R (Kd.int .i64) 2 w' w.heap.size (fun k_ => some k_ ≠ (u286002 : Value).ownBlock) (.slice Ao52 x9_1.length co52) x9_1) ∧ Aside0 (Kd.R (Kd.int .i64) 2 w' w.heap.size (fun k_ => some k_ ≠ (u286002 : Value).ownBlock) (.slice Ao52 x9_1.length co52) x9_1) ∧ Aside0 (Kd.R (Kd.int .i64) 2 w' w.heap.size (fun k_ => some k_ ≠ ((.slice Ao52 x9_1.length co52) : Value).ownBlock ∧ some k_ ≠ ((.slice Ao52 x9_1.length co52) : Value).ownBlock) u286002 x286002_1) ∧ Aside0 (Kd.R k67 67 w' w.heap.size (fun _ => True) u286003 x286003_2) ∧ Aside0 (w'.heap[gb280]? = some (.cells #[.string a0_0, (.slice A0_1 l0_1.length c0_1), (.slice A0_2 l0_2.length c0_2), .int .i64 a0_3, .int .i64 a0_4, (.slice A0_5 l0_5.length c0_5)] 58 (0, 0))) ∧ Aside0 (w'.heap[gb281]? = some (.cells #[.int .i64 0, .int .i64 0, (.slice none 0 0), (.slice none 0 0)] 30 (0, 0))) ∧ Aside0 (w'.heap[gb285]? = some (.cells #[.int .i64 x286000_1, .int .i64 0, u286002, u286003] 30 (0, 0))) ∧ Aside0 (Below w.heap.size w w'))
       case atStart => exact ⟨(0), (x286003_1), (u286003), eT, H', ⟨Nat.le_refl _⟩, ⟨rQ HO_9⟩, ⟨rQ HO_9⟩, ⟨by (with_reducible repeat (first | apply rA | apply rN | apply rD)); exact rM HO_286002.out (fun _ hk => ⟨hk, hk⟩)⟩, ⟨rQ HO_286003⟩, ⟨kQ BK280⟩, ⟨kQ BK281⟩, ⟨kQ BK285⟩, ⟨by repeat (first | (with_reducible first | exact HB.out | apply bA | apply bN | apply bD | refine bS ?_ GE280.out | refine bS ?_ GE281.out | refine bS ?_ GE285.out) | exact HB.out)⟩⟩
       case round =>
        clear H'
        try clear c1
        try clear c2
        try clear p2
        try clear c3
        try clear c4
        try clear c5
        try clear c6
        try clear p6
        try clear c7
        try clear c8
        try clear c9
        try clear c12
        try clear c16
        try clear c17
        try clear c19
        try clear c19b0
        try clear c22
        try clear c23
        try clear c25
        try clear c25b0
        try clear c25b1
        try clear c26
        try clear c27
        try clear c31
        try clear c32
        try clear c40
        try clear c44
        try clear c45
        try clear c50
        try clear hcz13_0
        try clear hcz13_1
        try clear hcz13_2
        try clear hcz13_3
        try clear hcz13_4
        try clear hcz13_5
        try clear hcz18_0
        try clear hcz18_1
        try clear hcz18_2
        try clear hcz18_3
        try clear hcz33_0
        try clear hcz33_1
        try clear hcz33_2
        try clear hcz33_3
        try clear hcz36_0
        try clear hcz36_1
        try clear hcz36_2
        try clear hcz36_3
        try clear hcz39_0
        try clear hcz39_1
        try clear hcz39_2
        try clear hcz39_3
        try clear hcz46_0
        try clear hcz46_1
        try clear hcz46_2
        try clear hcz46_3
        try clear hcz49_0
        try clear hcz49_1
        try clear hcz49_2
        try clear hcz49_3
        try clear hfz13_0
        try clear hfz13_1
        try clear hfz13_2
        try clear hfz13_3
        try clear hfz13_4
        try clear hfz13_5
        try clear hfz18_0
        try clear hfz18_1
        try clear hfz18_2
        try clear hfz18_3
        try clear hfz33_0
        try clear hfz33_1
        try clear hfz33_2
        try clear hfz33_3
        try clear hfz36_0
        try clear hfz36_1
        try clear hfz36_2
        try clear hfz36_3
        try clear hfz39_0
        try clear hfz39_1
        try clear hfz39_2
        try clear hfz39_3
        try clear hfz46_0
        try clear hfz46_1
        try clear hfz46_2
        try clear hfz46_3
        try clear hfz49_0
        try clear hfz49_1
        try clear hfz49_2
        try clear hfz49_3
        try clear p2
        obtain ⟨x72_2, x286003_2, u286003, rfl, HA, HK2, HO_9, HO_70, HO_286002, HO_286003, BK280, BK281, BK285, HB⟩ := hrel
        cases gk with
        | zero => exact absurd HA.out (by simp [impl_GrammarOf.l1])
        | succ k2 =>
         have H := HA.out
         clear HA
         simp only [impl_GrammarOf.l1] at H
         by_cases c53 : x72_2 < (x9_1.length : Int)
         ·rw [if_pos c53] at H
          have c53b0 : decide (x72_2 < (x9_1.length : Int)) = true := decide_eq_true c53
          clear c53
          by_cases c54 : 0 ≤ x72_2
          ·rw [if_pos c54] at H
           have c54b0 : decide (0 ≤ x72_2) = true := decide_eq_true c54
           clear c54
           by_cases c55 : x72_2 < (x9_1.length : Int)
           ·rw [if_pos c55] at H
            have c55b0 : decide (x72_2 < (x9_1.length : Int)) = true := decide_eq_true c55
            clear c55
            have H' := Aside0.mk H
            clear H
            have p301 : 0 ≤ (x72_2 : Int) := oT
            have q301 : x72_2 < (x9_1.length : Int) := oT
            obtain ⟨ad301, e301, hx301_0⟩ := Kd.at_int (Kd.R_reads' HO_70.out).2.2 x72_2 p301 q301
            cases e301
            replace p301 := eq_true p301
            replace q301 := eq_true q301
            go_wp2
            go_loopg [79] k2 (fun kq v79 w' => ∃ (x79_3 : Int) (x286003_3 : List (S67)) (u286003 : Value), v79 = .int .i64 x79_3 ∧ Aside0 (impl_GrammarOf.l2 kq x9_1 x72_2 (rd x9_1 x72_2) x9_1 (x9_1.length : Int) x72_2 x9_1 (x9_1.length : Int) x79_3 a0_0 l0_1 l0_2 a0_3 a0_4 l0_5 x286000_1 0 x286002_1 x286003_3 = some (r1, r2, r3, r4, r5)) ∧ Aside0 (kq ≤ k2) ∧ Aside0 (Kd.R (Kd.int .i64) 2 w' w.heap.size (fun k_ => some k_ ≠ (u286002 : Value).ownBlock) (.slice (some ad301) x9_1.length co52) x9_1) ∧ Aside0 (Kd.R (Kd.int .i64) 2 w' w.heap.size (fun k_ => some k_ ≠ (u286002 : Value).ownBlock) (.slice (some ad301) x9_1.length co52) x9_1) ∧ Aside0 (Kd.R (Kd.int .i64) 2 w' w.heap.size (fun k_ => some k_ ≠ (u286002 : Value).ownBlock) (.slice (some ad301) x9_1.length co52) x9_1) ∧ Aside0 (Kd.R (Kd.int .i64) 2 w' w.heap.size (fun k_ => some k_ ≠ ((.slice (some ad301) x9_1.length co52) : Value).ownBlock ∧ some k_ ≠ ((.slice (some ad301) x9_1.length co52) : Value).ownBlock ∧ some k_ ≠ ((.slice (some ad301) x9_1.length co52) : Value).ownBlock) u286002 x286002_1) ∧ Aside0 (Kd.R k67 67 w' w.heap.size (fun _ => True) u286003 x286003_3) ∧ Aside0 (w'.heap[gb280]? = some (.cells #[.string a0_0, (.slice A0_1 l0_1.length c0_1), (.slice A0_2 l0_2.length c0_2), .int .i64 a0_3, .int .i64 a0_4, (.slice A0_5 l0_5.length c0_5)] 58 (0, 0))) ∧ Aside0 (w'.heap[gb281]? = some (.cells #[.int .i64 0, .int .i64 0, (.slice none 0 0), (.slice none 0 0)] 30 (0, 0))) ∧ Aside0 (w'.heap[gb285]? = some (.cells #[.int .i64 x286000_1, .int .i64 0, u286002, u286003] 30 (0, 0))) ∧ Aside0 (Below w.heap.size w w'))
            case atStart => exact ⟨(0), (x286003_2), (u286003), eT, H', ⟨Nat.le_refl _⟩, ⟨rQ HO_9⟩, ⟨rQ HO_70⟩, ⟨rQ HO_9⟩, ⟨by (with_reducible repeat (first | apply rA | apply rN | apply rD)); exact rM HO_286002.out (fun _ hk => ⟨hk.1, ⟨hk.2, hk.1⟩⟩)⟩, ⟨rQ HO_286003⟩, ⟨kQ BK280⟩, ⟨kQ BK281⟩, ⟨kQ BK285⟩, ⟨by repeat (first | (with_reducible first | exact HB.out | apply bA | apply bN | apply bD | refine bS ?_ GE280.out | refine bS ?_ GE281.out | refine bS ?_ GE285.out) | exact HB.out)⟩⟩
            case round =>
             clear H'
             try clear c1
             try clear c2
             try clear p2
             try clear c3
             try clear p3
             try clear q3
             try clear hx3
             try clear c4
             try clear c5
             try clear c6
             try clear p6
             try clear c7
             try clear c8
             try clear c9
             try clear c12
             try clear c16
             try clear c17
             try clear c19
             try clear c19b0
             try clear c22
             try clear c23
             try clear c25
             try clear c25b0
             try clear c25b1
             try clear c26
             try clear c27
             try clear p30
             try clear q30
             try clear hx30
             try clear c31
             try clear c32
             try clear c40
             try clear c44
             try clear c45
             try clear c50
             try clear c53
             try clear c53b0
             try clear c54
             try clear c54b0
             try clear c55
             try clear c55b0
             try clear hcz13_0
             try clear hcz13_1
             try clear hcz13_2
             try clear hcz13_3
             try clear hcz13_4
             try clear hcz13_5
             try clear hcz18_0
             try clear hcz18_1
             try clear hcz18_2
             try clear hcz18_3
             try clear hcz33_0
             try clear hcz33_1
             try clear hcz33_2
             try clear hcz33_3
             try clear hcz36_0
             try clear hcz36_1
             try clear hcz36_2
             try clear hcz36_3
             try clear hcz39_0
             try clear hcz39_1
             try clear hcz39_2
             try clear hcz39_3
             try clear hcz46_0
             try clear hcz46_1
             try clear hcz46_2
             try clear hcz46_3
             try clear hcz49_0
             try clear hcz49_1
             try clear hcz49_2
             try clear hcz49_3
             try clear hfz13_0
             try clear hfz13_1
             try clear hfz13_2
             try clear hfz13_3
             try clear hfz13_4
             try clear hfz13_5
             try clear hfz18_0
             try clear hfz18_1
             try clear hfz18_2
             try clear hfz18_3
             try clear hfz33_0
             try clear hfz33_1
             try clear hfz33_2
             try clear hfz33_3
             try clear hfz36_0
             try clear hfz36_1
             try clear hfz36_2
             try clear hfz36_3
             try clear hfz39_0
             try clear hfz39_1
             try clear hfz39_2
             try clear hfz39_3
             try clear hfz46_0
             try clear hfz46_1
             try clear hfz46_2
             try clear hfz46_3
             try clear hfz49_0
             try clear hfz49_1
             try clear hfz49_2
             try clear hfz49_3
             try clear hx301_0
             try clear p2
             try clear p301
             try clear p6
             try clear q301
             obtain ⟨x79_3, x286003_3, u286003, rfl, HA, HK3, HO_9, HO_70, HO_77, HO_286002, HO_286003, BK280, BK281, BK285, HB⟩ := hrel
             cases gk with
             | zero => exact absurd HA.out (by simp [impl_GrammarOf.l2])
             | succ k3 =>
              have H := HA.out
              clear HA
              simp only [impl_GrammarOf.l2] at H
              by_cases c56 : x79_3 < (x9_1.length : Int)
              ·rw [if_pos c56] at H
               have c56b0 : decide (x79_3 < (x9_1.length : Int)) = true := decide_eq_true c56
               clear c56
               by_cases c57 : 0 ≤ x79_3
               ·rw [if_pos c57] at H
                have c57b0 : decide (0 ≤ x79_3) = true := decide_eq_true c57
                clear c57
                by_cases c58 : x79_3 < (x9_1.length : Int)
                ·rw [if_pos c58] at H
                 have c58b0 : decide (x79_3 < (x9_1.length : Int)) = true := decide_eq_true c58
                 clear c58
                 replace H := Option.bind_eq_some_iff.mp H
                 obtain ⟨t303, A590, H⟩ := H
                 replace H : (if t303 = 0 then (if x286003_3.length < 5864062014805 then (impl_GrammarOf.l2 k3 x9_1 x72_2 (rd x9_1 x72_2) x9_1 (x9_1.length : Int) x72_2 x9_1 (x9_1.length : Int) (wrap64 (x79_3 + 1)) a0_0 l0_1 l0_2 a0_3 a0_4 l0_5 x286000_1 0 x286002_1 (x286003_3 ++ [(⟨wrap64 (x72_2 + 1), rd x9_1 x79_3, wrap64 (x79_3 + 1)⟩ : S67)])) else (none)) else (impl_GrammarOf.l2 k3 x9_1 x72_2 (rd x9_1 x72_2) x9_1 (x9_1.length : Int) x72_2 x9_1 (x9_1.length : Int) (wrap64 (x79_3 + 1)) a0_0 l0_1 l0_2 a0_3 a0_4 l0_5 x286000_1 0 x286002_1 x286003_3)) = some (r1, r2, r3, r4, r5) := H
                 have A59 := Aside0.mk A590
                 clear A590
                 by_cases c60 : t303 = 0
                 ·rw [if_pos c60] at H
                  have c60b0 : (t303 == 0) = true := beq_iff_eq.mpr c60
                  have c60b1 : (t303 != 0) = false := bne_eq_false_iff_eq.mpr c60
                  clear c60
                  by_cases c61 : x286003_3.length < 5864062014805
                  ·rw [if_pos c61] at H
                   have LMc61 := Aside0.mk c61
                   clear c61
                   obtain ⟨y304, hy304⟩ : ∃ y_ : List (S67), y_ = (x286003_3 ++ [(⟨wrap64 (x72_2 + 1), rd x9_1 x79_3, wrap64 (x79_3 + 1)⟩ : S67)]) := ⟨_, rfl⟩
                   replace H : (impl_GrammarOf.l2 k3 x9_1 x72_2 (rd x9_1 x72_2) x9_1 (x9_1.length : Int) x72_2 x9_1 (x9_1.length : Int) (wrap64 (x79_3 + 1)) a0_0 l0_1 l0_2 a0_3 a0_4 l0_5 x286000_1 0 x286002_1 y304) = some (r1, r2, r3, r4, r5) := by first | (rw [hy304]; with_reducible exact H) | (have H2_ := (Option.bind_some _ _).symm.trans H; rw [hy304]; with_reducible exact H2_) | (have H2_ := (Option.bind_some _ _).symm.trans H; with_reducible exact H2_) | with_reducible exact H | (rw [hy304]; exact H) | exact H
                   have Ny304 := Aside0.mk hy304
                   clear hy304
                   have H' := Aside0.mk H
                   clear H
                   have p302 : 0 ≤ (x79_3 : Int) := oT
                   have q302 : x79_3 < (x9_1.length : Int) := oT
                   obtain ⟨ad302, e302, hx302_0⟩ := Kd.at_int (Kd.R_reads' HO_77.out).2.2 x79_3 p302 q302
                   obtain rfl : ad301 = ad302 := (by injection e302)
                   replace p302 := eq_true p302
                   replace q302 := eq_true q302
                   have hnb62 := NB280_281.out
                   have hnc62 := NB281_280.out
                   have hnb63 := NB280_285.out
                   have hnc63 := NB285_280.out
                   obtain ⟨hcz64_0, hcz64_1, hcz64_2, hcz64_3, hcz64_4, hcz64_5⟩ := cZ6 BK280.out
                   obtain ⟨hfz64_0, hfz64_1, hfz64_2, hfz64_3, hfz64_4, hfz64_5⟩ := fZ6 BK280.out
                   go_wp2_with (first | ((with_reducible refine gC (f := 97) rfl ?_); refine goesL_ (some 87) rfl rfl Try.func97 (by kernel_rfl) rfl #[.agg #[.string a0_0, .slice A0_1 l0_1.length c0_1, .slice A0_2 l0_2.length c0_2, .int .i64 a0_3, .int .i64 a0_4, .slice A0_5 l0_5.length c0_5], .int .i64 (rd x9_1 x72_2), .int .i64 (rd x9_1 x79_3)] rfl lQ ?_; (with_reducible refine (impl_Raga_reason.calls k3 a0_0 _ _ l0_1 _ _ l0_2 a0_3 a0_4 _ _ l0_5 (rd x9_1 x72_2) (rd x9_1 x79_3) t303 _ ?side1 ?side2 ?side3 ?side4 ?side5 ?side6 A59.out).mono ?_); (case side1 => exact cP (cB HR0_1.out HB.out)); (case side2 => exact HC0_1.out); (case side3 => exact cP (cB HR0_2.out HB.out)); (case side4 => exact HC0_2.out); (case side5 => exact cP (cB HR0_5.out HB.out)); (case side6 => exact HC0_5.out); rintro e w65 ⟨rfl, hb⟩; refine ⟨_, rfl, ?_⟩; have n0_ := Aside0.mk (rB (rQ HO_9) hb); have n1_ := Aside0.mk (rB (rQ HO_70) hb); have n2_ := Aside0.mk (rB (rQ HO_77) hb); have n3_ := Aside0.mk (rB (rQ HO_286002) hb); have n4_ := Aside0.mk (rB (rQ HO_286003) hb); have n5_ := Aside0.mk (kB (kQ BK280) hb); have n6_ := Aside0.mk (kB (kQ BK281) hb); have n7_ := Aside0.mk (kB (kQ BK285) hb); have n8_ := Aside0.mk (bP (by repeat (first | (with_reducible first | exact HB.out | apply bA | apply bN | apply bD | refine bS ?_ GE280.out | refine bS ?_ GE281.out | refine bS ?_ GE285.out) | exact HB.out)) hb); clear HO_9; clear HO_70; clear HO_77; clear HO_286002; clear HO_286003; clear BK280; clear BK281; clear BK285; clear HB; have HO_9 := n0_; have HO_70 := n1_; have HO_77 := n2_; have HO_286002 := n3_; have HO_286003 := n4_; have BK280 := n5_; have BK281 := n6_; have BK285 := n7_; have HB := n8_; clear n0_ n1_ n2_ n3_ n4_ n5_ n6_ n7_ n8_; (try clear hb); (try clear hb2); (try clear hk); (try clear hi); have hnb66 := NB285_281.out; have hnc66 := NB281_285.out; obtain ⟨hcz67_0, hcz67_1, hcz67_2, hcz67_3⟩ := cZ4 BK285.out; obtain ⟨hfz67_0, hfz67_1, hfz67_2, hfz67_3⟩ := fZ4 BK285.out) | ((with_reducible refine gate_builtin (b := .append) (xs := #[.tmp 90, .tmp 97]) rfl ?_); (try (refine gate_guard (by rfl) ?_; dsimp only)); at_builtin; refine Kd.R_append k67 (w0 := w) w.heap.size rfl (.tmp 90) (.tmp 97) 28 67 (.agg #[(.int .i64 0), (.int .i64 0), (.int .i64 0)]) 24 rfl Try.underlying28 info67 rfl (by decide) (by omega) u286003 x286003_3 (⟨wrap64 (x72_2 + 1), rd x9_1 x79_3, wrap64 (x79_3 + 1)⟩ : S67) [.int .i64 (wrap64 (x72_2 + 1)), .int .i64 (rd x9_1 x79_3), .int .i64 (wrap64 (x79_3 + 1))] (fun _ => True) (fun _ => False) rfl rfl ?aP (fun _ hk => hk.elim) ?aF ?aO ?aB ?aS ?aL ?_; (case aP => exact k67_mkM _ _ _ (⟨wrap64 (x72_2 + 1), rd x9_1 x79_3, wrap64 (x79_3 + 1)⟩ : S67)); (case aB => exact (by repeat (first | (with_reducible first | exact HB.out | apply bA | apply bN | apply bD | refine bS ?_ GE280.out | refine bS ?_ GE281.out | refine bS ?_ GE285.out) | exact HB.out))); (case aF => exact (fun _ _ => trivial)); (case aO => exact (rQ HO_286003)); (case aS => exact (bZ (by repeat (first | (with_reducible first | exact HB.out | apply bA | apply bN | apply bD | refine bS ?_ GE280.out | refine bS ?_ GE281.out | refine bS ?_ GE285.out) | exact HB.out)))); (case aL => have := LMc61.out; omega); intro v305 w68 ho hb hg hat; rw [← Ny304.out] at ho; have n0_ := Aside0.mk (Kd.R_over' (rQ HO_9) (Kd.R_typed (rQ HO_286003)) (by decide) hg); have n1_ := Aside0.mk (Kd.R_over' (rQ HO_70) (Kd.R_typed (rQ HO_286003)) (by decide) hg); have n2_ := Aside0.mk (Kd.R_over' (rQ HO_77) (Kd.R_typed (rQ HO_286003)) (by decide) hg); have n3_ := Aside0.mk (Kd.R_over' (rQ HO_286002) (Kd.R_typed (rQ HO_286003)) (by decide) hg); have n4_ := Aside0.mk (blk_grown (kQ BK280) hg (Kd.R_ne HO_286003.out BK280.out (by decide))); have n5_ := Aside0.mk (blk_grown (kQ BK281) hg (Kd.R_ne HO_286003.out BK281.out (by decide))); have n6_ := Aside0.mk (blk_grown (kQ BK285) hg (Kd.R_ne HO_286003.out BK285.out (by decide))); have n7_ := Aside0.mk (hb); have n8_ := Aside0.mk (ho); clear HO_9; clear HO_70; clear HO_77; clear HO_286002; clear BK280; clear BK281; clear BK285; clear HB; clear HO_286003; have HO_9 := n0_; have HO_70 := n1_; have HO_77 := n2_; have HO_286002 := n3_; have BK280 := n4_; have BK281 := n5_; have BK285 := n6_; have HB := n7_; have HO306 := n8_; clear n0_ n1_ n2_ n3_ n4_ n5_ n6_ n7_ n8_; clear ho hb hg hat; obtain ⟨Ao69, co69, eo69⟩ := Kd.R_slice HO306.out; subst eo69; obtain ⟨hcz70_0, hcz70_1, hcz70_2, hcz70_3⟩ := cZ4 BK285.out; obtain ⟨hfz70_0, hfz70_1, hfz70_2, hfz70_3⟩ := fZ4 BK285.out))
                   go_roundg k3
                   case measure => have := HK1.out; have := HK2.out; have := HK3.out; omega
                   case rel => exact ⟨(wrap64 (x79_3 + 1)), (y304), (.slice Ao69 y304.length co69), eT, H', ⟨by have := HK1.out; have := HK2.out; have := HK3.out; omega⟩, ⟨by (with_reducible repeat (first | apply rA | apply rN | apply rD)); exact rM (Kd.R_far (p := ⟨gb285, 3, none⟩) (Kd.R_types HO_9.out BK285.out (by decide)) (fun _ hk => hk.2) (.slice Ao69 y304.length co69)) (fun _ hk => hk.1)⟩, ⟨by (with_reducible repeat (first | apply rA | apply rN | apply rD)); exact rM (Kd.R_far (p := ⟨gb285, 3, none⟩) (Kd.R_types HO_70.out BK285.out (by decide)) (fun _ hk => hk.2) (.slice Ao69 y304.length co69)) (fun _ hk => hk.1)⟩, ⟨by (with_reducible repeat (first | apply rA | apply rN | apply rD)); exact rM (Kd.R_far (p := ⟨gb285, 3, none⟩) (Kd.R_types HO_77.out BK285.out (by decide)) (fun _ hk => hk.2) (.slice Ao69 y304.length co69)) (fun _ hk => hk.1)⟩, ⟨by (with_reducible repeat (first | apply rA | apply rN | apply rD)); exact rM (Kd.R_far (p := ⟨gb285, 3, none⟩) (Kd.R_types HO_286002.out BK285.out (by decide)) (fun _ hk => hk.2) (.slice Ao69 y304.length co69)) (fun _ hk => ⟨hk.1.1, ⟨hk.1.2.1, hk.1.2.2⟩⟩)⟩, ⟨by (with_reducible repeat (first | apply rA | apply rN | apply rD)); exact rM (Kd.R_far (p := ⟨gb285, 3, none⟩) (Kd.R_types HO306.out BK285.out (by decide)) (fun _ hk => hk.2) (.slice Ao69 y304.length co69)) (fun _ hk => trivial)⟩, ⟨by (with_reducible repeat (first | refine kN ?_ _ | refine kD ?_ | refine kA ?_ _)); refine kF ?_ NB280_285.out _; (with_reducible repeat (first | refine kN ?_ _ | refine kD ?_ | refine kA ?_ _)); exact BK280.out⟩, ⟨by (with_reducible repeat (first | refine kN ?_ _ | refine kD ?_ | refine kA ?_ _)); refine kF ?_ NB281_285.out _; (with_reducible repeat (first | refine kN ?_ _ | refine kD ?_ | refine kA ?_ _)); exact BK281.out⟩, ⟨by (with_reducible repeat (first | refine kN ?_ _ | refine kD ?_ | refine kA ?_ _)); refine blk_put (cs := #[.int .i64 x286000_1, .int .i64 0, u286002, u286003]) ?_ 3 _ rfl; (with_reducible repeat (first | refine kN ?_ _ | refine kD ?_ | refine kA ?_ _)); exact BK285.out⟩, ⟨by repeat (first | (with_reducible first | exact HB.out | apply bA | apply bN | apply bD | refine bS ?_ GE280.out | refine bS ?_ GE281.out | refine bS ?_ GE285.out) | exact HB.out)⟩⟩
                  ·rw [if_neg c61] at H
                   exact absurd H (by simp)
                 ·rw [if_neg c60] at H
                  have c60b0 : (t303 == 0) = false := beq_eq_false_iff_ne.mpr c60
                  have c60b1 : (t303 != 0) = true := bne_iff_ne.mpr c60
                  have H' := Aside0.mk H
                  clear H
                  have p302 : 0 ≤ (x79_3 : Int) := oT
                  have q302 : x79_3 < (x9_1.length : Int) := oT
                  obtain ⟨ad302, e302, hx302_0⟩ := Kd.at_int (Kd.R_reads' HO_77.out).2.2 x79_3 p302 q302
                  obtain rfl : ad301 = ad302 := (by injection e302)
                  replace p302 := eq_true p302
                  replace q302 := eq_true q302
                  have hnb71 := NB280_281.out
                  have hnc71 := NB281_280.out
                  have hnb72 := NB280_285.out
                  have hnc72 := NB285_280.out
                  obtain ⟨hcz73_0, hcz73_1, hcz73_2, hcz73_3, hcz73_4, hcz73_5⟩ := cZ6 BK280.out
                  obtain ⟨hfz73_0, hfz73_1, hfz73_2, hfz73_3, hfz73_4, hfz73_5⟩ := fZ6 BK280.out
                  go_wp2_with (first | ((with_reducible refine gC (f := 97) rfl ?_); refine goesL_ (some 87) rfl rfl Try.func97 (by kernel_rfl) rfl #[.agg #[.string a0_0, .slice A0_1 l0_1.length c0_1, .slice A0_2 l0_2.length c0_2, .int .i64 a0_3, .int .i64 a0_4, .slice A0_5 l0_5.length c0_5], .int .i64 (rd x9_1 x72_2), .int .i64 (rd x9_1 x79_3)] rfl lQ ?_; (with_reducible refine (impl_Raga_reason.calls k3 a0_0 _ _ l0_1 _ _ l0_2 a0_3 a0_4 _ _ l0_5 (rd x9_1 x72_2) (rd x9_1 x79_3) t303 _ ?side1 ?side2 ?side3 ?side4 ?side5 ?side6 A59.out).mono ?_); (case side1 => exact cP (cB HR0_1.out HB.out)); (case side2 => exact HC0_1.out); (case side3 => exact cP (cB HR0_2.out HB.out)); (case side4 => exact HC0_2.out); (case side5 => exact cP (cB HR0_5.out HB.out)); (case side6 => exact HC0_5.out); rintro e w74 ⟨rfl, hb⟩; refine ⟨_, rfl, ?_⟩; have n0_ := Aside0.mk (rB (rQ HO_9) hb); have n1_ := Aside0.mk (rB (rQ HO_70) hb); have n2_ := Aside0.mk (rB (rQ HO_77) hb); have n3_ := Aside0.mk (rB (rQ HO_286002) hb); have n4_ := Aside0.mk (rB (rQ HO_286003) hb); have n5_ := Aside0.mk (kB (kQ BK280) hb); have n6_ := Aside0.mk (kB (kQ BK281) hb); have n7_ := Aside0.mk (kB (kQ BK285) hb); have n8_ := Aside0.mk (bP (by repeat (first | (with_reducible first | exact HB.out | apply bA | apply bN | apply bD | refine bS ?_ GE280.out | refine bS ?_ GE281.out | refine bS ?_ GE285.out) | exact HB.out)) hb); clear HO_9; clear HO_70; clear HO_77; clear HO_286002; clear HO_286003; clear BK280; clear BK281; clear BK285; clear HB; have HO_9 := n0_; have HO_70 := n1_; have HO_77 := n2_; have HO_286002 := n3_; have HO_286003 := n4_; have BK280 := n5_; have BK281 := n6_; have BK285 := n7_; have HB := n8_; clear n0_ n1_ n2_ n3_ n4_ n5_ n6_ n7_ n8_; (try clear hb); (try clear hb2); (try clear hk); (try clear hi)))
                  go_roundg k3
                  case measure => have := HK1.out; have := HK2.out; have := HK3.out; omega
                  case rel => exact ⟨(wrap64 (x79_3 + 1)), (x286003_3), (u286003), eT, H', ⟨by have := HK1.out; have := HK2.out; have := HK3.out; omega⟩, ⟨rQ HO_9⟩, ⟨rQ HO_70⟩, ⟨rQ HO_77⟩, ⟨rQ HO_286002⟩, ⟨rQ HO_286003⟩, ⟨kQ BK280⟩, ⟨kQ BK281⟩, ⟨kQ BK285⟩, ⟨by repeat (first | (with_reducible first | exact HB.out | apply bA | apply bN | apply bD | refine bS ?_ GE280.out | refine bS ?_ GE281.out | refine bS ?_ GE285.out) | exact HB.out)⟩⟩
                ·rw [if_neg c58] at H
                 exact absurd H (by simp)
               ·rw [if_neg c57] at H
                exact absurd H (by simp)
              ·rw [if_neg c56] at H
               have c56b0 : decide (x79_3 < (x9_1.length : Int)) = false := decide_eq_false c56
               clear c56
               have H' := Aside0.mk H
               clear H
               go_wp2
               go_roundg k3
               case measure => have := HK1.out; have := HK2.out; have := HK3.out; omega
               case rel => exact ⟨(wrap64 (x72_2 + 1)), (x286003_3), (u286003), eT, H', ⟨by have := HK1.out; have := HK2.out; have := HK3.out; omega⟩, ⟨rQ HO_9⟩, ⟨rQ HO_70⟩, ⟨by (with_reducible repeat (first | apply rA | apply rN | apply rD)); exact rM HO_286002.out (fun _ hk => ⟨hk.1, hk.2.1⟩)⟩, ⟨rQ HO_286003⟩, ⟨kQ BK280⟩, ⟨kQ BK281⟩, ⟨kQ BK285⟩, ⟨by repeat (first | (with_reducible first | exact HB.out | apply bA | apply bN | apply bD | refine bS ?_ GE280.out | refine bS ?_ GE281.out | refine bS ?_ GE285.out) | exact HB.out)⟩⟩
           ·rw [if_neg c55] at H
            exact absurd H (by simp)
          ·rw [if_neg c54] at H
           exact absurd H (by simp)
         ·rw [if_neg c53] at H
          have c53b0 : decide (x72_2 < (x9_1.length : Int)) = false := decide_eq_false c53
          clear c53
          by_cases c75 : x286000_1 > 32
          ·rw [if_pos c75] at H
           have c75b0 : decide (32 < x286000_1) = true := decide_eq_true c75
           clear c75
           simp only [Option.some.injEq, Prod.mk.injEq] at H
           obtain ⟨rfl, rfl, rfl, rfl, rfl⟩ := H
           have hnb76 := NB285_280.out
           have hnc76 := NB280_285.out
           have hnb77 := NB285_281.out
           have hnc77 := NB281_285.out
           obtain ⟨hcz78_0, hcz78_1, hcz78_2, hcz78_3⟩ := cZ4 BK285.out
           obtain ⟨hfz78_0, hfz78_1, hfz78_2, hfz78_3⟩ := fZ4 BK285.out
           have hnb79 := NB281_280.out
           have hnc79 := NB280_281.out
           obtain ⟨hcz80_0, hcz80_1, hcz80_2, hcz80_3⟩ := cZ4 BK281.out
           obtain ⟨hfz80_0, hfz80_1, hfz80_2, hfz80_3⟩ := fZ4 BK281.out
           go_wp2
           refine bodyPost_ret (results_ct rfl _ _ gb281 30 #[.int .i64 0, .int .i64 0, .slice none 0 0, .slice none 0 0] (0, 0) _ rfl (by (with_reducible repeat (first | refine kN ?_ _ | refine kD ?_ | refine kA ?_ _)); refine blk_put (cs := #[.int .i64 0, .int .i64 0, .slice none 0 0, .slice none 0 0]) ?_ 3 _ rfl; (with_reducible repeat (first | refine kN ?_ _ | refine kD ?_ | refine kA ?_ _)); refine blk_put (cs := #[.int .i64 0, .int .i64 0, .slice none 0 0, .slice none 0 0]) ?_ 2 _ rfl; (with_reducible repeat (first | refine kN ?_ _ | refine kD ?_ | refine kA ?_ _)); refine blk_put (cs := #[.int .i64 0, .int .i64 0, .slice none 0 0, .slice none 0 0]) ?_ 1 _ rfl; (with_reducible repeat (first | refine kN ?_ _ | refine kD ?_ | refine kA ?_ _)); refine blk_put (cs := #[.int .i64 0, .int .i64 0, .slice none 0 0, .slice none 0 0]) ?_ 0 _ rfl; (with_reducible repeat (first | refine kN ?_ _ | refine kD ?_ | refine kA ?_ _)); exact BK281.out) Try.underlying30 rfl (by kernel_rfl)) rfl ?_
           exact ⟨_, _, by first | rfl | (simp [errW_none, errW_some] <;> rfl) | (simp [*, errW_none, errW_some] <;> rfl), by first | exact Kd.R_nil _ _ _ _ _ | exact Kd.N_nil _ _ _ _ _ | exact Kd.V_nil _ _ _ _ _ | exact Kd.Q_nil _ _ _ _ _ | exact Kd.S_nil _ _ _ _ _, by first | exact Kd.R_nil _ _ _ _ _ | exact Kd.N_nil _ _ _ _ _ | exact Kd.V_nil _ _ _ _ _ | exact Kd.Q_nil _ _ _ _ _ | exact Kd.S_nil _ _ _ _ _, by repeat (first | (with_reducible first | exact HB.out | apply bA | apply bN | apply bD | refine bS ?_ GE280.out | refine bS ?_ GE281.out | refine bS ?_ GE285.out) | exact HB.out)⟩
          ·rw [if_neg c75] at H
           have c75b0 : decide (32 < x286000_1) = false := decide_eq_false c75
           clear c75
           by_cases c81 : (x286003_2.length : Int) > 256
           ·rw [if_pos c81] at H
            have c81b0 : decide (256 < (x286003_2.length : Int)) = true := decide_eq_true c81
            have c81b1 : decide (256 < x286003_2.length) = true := decide_eq_true (by omega)
            clear c81
            simp only [Option.some.injEq, Prod.mk.injEq] at H
            obtain ⟨rfl, rfl, rfl, rfl, rfl⟩ := H
            have hnb82 := NB285_280.out
            have hnc82 := NB280_285.out
            have hnb83 := NB285_281.out
            have hnc83 := NB281_285.out
            obtain ⟨hcz84_0, hcz84_1, hcz84_2, hcz84_3⟩ := cZ4 BK285.out
            obtain ⟨hfz84_0, hfz84_1, hfz84_2, hfz84_3⟩ := fZ4 BK285.out
            obtain ⟨Ao85, co85, eo85⟩ := Kd.R_slice HO_286003.out
            subst eo85
            have hnb86 := NB281_280.out
            have hnc86 := NB280_281.out
            obtain ⟨hcz87_0, hcz87_1, hcz87_2, hcz87_3⟩ := cZ4 BK281.out
            obtain ⟨hfz87_0, hfz87_1, hfz87_2, hfz87_3⟩ := fZ4 BK281.out
            go_wp2
            refine bodyPost_ret (results_ct rfl _ _ gb281 30 #[.int .i64 0, .int .i64 0, .slice none 0 0, .slice none 0 0] (0, 0) _ rfl (by (with_reducible repeat (first | refine kN ?_ _ | refine kD ?_ | refine kA ?_ _)); refine blk_put (cs := #[.int .i64 0, .int .i64 0, .slice none 0 0, .slice none 0 0]) ?_ 3 _ rfl; (with_reducible repeat (first | refine kN ?_ _ | refine kD ?_ | refine kA ?_ _)); refine blk_put (cs := #[.int .i64 0, .int .i64 0, .slice none 0 0, .slice none 0 0]) ?_ 2 _ rfl; (with_reducible repeat (first | refine kN ?_ _ | refine kD ?_ | refine kA ?_ _)); refine blk_put (cs := #[.int .i64 0, .int .i64 0, .slice none 0 0, .slice none 0 0]) ?_ 1 _ rfl; (with_reducible repeat (first | refine kN ?_ _ | refine kD ?_ | refine kA ?_ _)); refine blk_put (cs := #[.int .i64 0, .int .i64 0, .slice none 0 0, .slice none 0 0]) ?_ 0 _ rfl; (with_reducible repeat (first | refine kN ?_ _ | refine kD ?_ | refine kA ?_ _)); exact BK281.out) Try.underlying30 rfl (by kernel_rfl)) rfl ?_
            exact ⟨_, _, by first | rfl | (simp [errW_none, errW_some] <;> rfl) | (simp [*, errW_none, errW_some] <;> rfl), by first | exact Kd.R_nil _ _ _ _ _ | exact Kd.N_nil _ _ _ _ _ | exact Kd.V_nil _ _ _ _ _ | exact Kd.Q_nil _ _ _ _ _ | exact Kd.S_nil _ _ _ _ _, by first | exact Kd.R_nil _ _ _ _ _ | exact Kd.N_nil _ _ _ _ _ | exact Kd.V_nil _ _ _ _ _ | exact Kd.Q_nil _ _ _ _ _ | exact Kd.S_nil _ _ _ _ _, by repeat (first | (with_reducible first | exact HB.out | apply bA | apply bN | apply bD | refine bS ?_ GE280.out | refine bS ?_ GE281.out | refine bS ?_ GE285.out) | exact HB.out)⟩
           ·rw [if_neg c81] at H
            have c81b0 : decide (256 < (x286003_2.length : Int)) = false := decide_eq_false c81
            have c81b1 : decide (256 < x286003_2.length) = false := decide_eq_false (by omega)
            clear c81
            simp only [Option.some.injEq, Prod.mk.injEq] at H
            obtain ⟨rfl, rfl, rfl, rfl, rfl⟩ := H
            have hnb88 := NB285_280.out
            have hnc88 := NB280_285.out
            have hnb89 := NB285_281.out
            have hnc89 := NB281_285.out
            obtain ⟨hcz90_0, hcz90_1, hcz90_2, hcz90_3⟩ := cZ4 BK285.out
            obtain ⟨hfz90_0, hfz90_1, hfz90_2, hfz90_3⟩ := fZ4 BK285.out
            obtain ⟨Ao91, co91, eo91⟩ := Kd.R_slice HO_286003.out
            subst eo91
            have hnb92 := NB281_280.out
            have hnc92 := NB280_281.out
            obtain ⟨hcz93_0, hcz93_1, hcz93_2, hcz93_3⟩ := cZ4 BK281.out
            obtain ⟨hfz93_0, hfz93_1, hfz93_2, hfz93_3⟩ := fZ4 BK281.out
            obtain ⟨Ao94, co94, eo94⟩ := Kd.R_slice HO_286002.out
            subst eo94
            go_wp2
            refine bodyPost_ret (results_ct rfl _ _ gb281 30 #[.int .i64 x286000_1, .int .i64 0, .slice Ao94 x286002_1.length co94, .slice Ao91 x286003_2.length co91] (0, 0) _ rfl (by (with_reducible repeat (first | refine kN ?_ _ | refine kD ?_ | refine kA ?_ _)); refine blk_put (cs := #[.int .i64 x286000_1, .int .i64 0, .slice Ao94 x286002_1.length co94, .slice none 0 0]) ?_ 3 _ rfl; (with_reducible repeat (first | refine kN ?_ _ | refine kD ?_ | refine kA ?_ _)); refine blk_put (cs := #[.int .i64 x286000_1, .int .i64 0, .slice none 0 0, .slice none 0 0]) ?_ 2 _ rfl; (with_reducible repeat (first | refine kN ?_ _ | refine kD ?_ | refine kA ?_ _)); refine blk_put (cs := #[.int .i64 x286000_1, .int .i64 0, .slice none 0 0, .slice none 0 0]) ?_ 1 _ rfl; (with_reducible repeat (first | refine kN ?_ _ | refine kD ?_ | refine kA ?_ _)); refine blk_put (cs := #[.int .i64 0, .int .i64 0, .slice none 0 0, .slice none 0 0]) ?_ 0 _ rfl; (with_reducible repeat (first | refine kN ?_ _ | refine kD ?_ | refine kA ?_ _)); exact BK281.out) Try.underlying30 rfl (by kernel_rfl)) rfl ?_
            exact ⟨_, _, by first | rfl | (simp [errW_none, errW_some] <;> rfl) | (simp [*, errW_none, errW_some] <;> rfl), by (with_reducible repeat (first | apply rA | apply rN | apply rD)); exact rM (Kd.R_far (p := ⟨gb281, 3, none⟩) (Kd.R_far (p := ⟨gb281, 2, none⟩) (Kd.R_far (p := ⟨gb281, 1, none⟩) (Kd.R_far (p := ⟨gb281, 0, none⟩) (Kd.R_types HO_286002.out BK281.out (by decide)) (fun _ hk => hk.2) (.int .i64 x286000_1)) (fun _ hk => hk.2) (.int .i64 0)) (fun _ hk => hk.2) (.slice Ao94 x286002_1.length co94)) (fun _ hk => hk.2) (.slice Ao91 x286003_2.length co91)) (fun _ hk => trivial), by (with_reducible repeat (first | apply rA | apply rN | apply rD)); exact rM (Kd.R_far (p := ⟨gb281, 3, none⟩) (Kd.R_far (p := ⟨gb281, 2, none⟩) (Kd.R_far (p := ⟨gb281, 1, none⟩) (Kd.R_far (p := ⟨gb281, 0, none⟩) (Kd.R_types HO_286003.out BK281.out (by decide)) (fun _ hk => hk.2) (.int .i64 x286000_1)) (fun _ hk => hk.2) (.int .i64 0)) (fun _ hk => hk.2) (.slice Ao94 x286002_1.length co94)) (fun _ hk => hk.2) (.slice Ao91 x286003_2.length co91)) (fun _ hk => trivial), by repeat (first | (with_reducible first | exact HB.out | apply bA | apply bN | apply bD | refine bS ?_ GE280.out | refine bS ?_ GE281.out | refine bS ?_ GE285.out) | exact HB.out)⟩
   ·replace c9 := Bool.eq_false_iff.mpr c9
    subst c9
    have H1 : (some (0, 0, ([] : List Int), ([] : List (S67)), 2)) = some (r1, r2, r3, r4, r5) := by rw [if_neg (show ¬ (false = true) by decide)] at H; exact H
    clear H
    have H := H1
    clear H1
    simp only [Option.some.injEq, Prod.mk.injEq] at H
    obtain ⟨rfl, rfl, rfl, rfl, rfl⟩ := H
    go_enter Try.func50, Try.ntmps50
    go_wp2_with (first | ((with_reducible refine gate_dst (N := 3) rfl ?_); (try (refine gate_guard (by rfl) ?_; dsimp only)); refine bE ?hg (N := 3) ?hd (cs := #[.string a0_0, .slice A0_1 l0_1.length c0_1, .slice A0_2 l0_2.length c0_2, .int .i64 a0_3, .int .i64 a0_4, .slice A0_5 l0_5.length c0_5]) (t := 58) ?hr ?_; (case hd => rfl); (case hg => rfl); (case hr => first | (go_simp; done) | (go_simp; rfl)); intro gb280 hg w95 hbox hb; have z_ := bX hb (hQ HB); have n0_ := Aside0.mk (bP z_ hb); have n1_ := Aside0.mk (hbox); have n2_ := Aside0.mk ((by rw [hg]; exact (bZ z_) : w.heap.size ≤ gb280)); have n3_ := Aside0.mk ((by rw [hg]; exact (bZ z_) : w.heap.size ≤ gb280)); clear HB; have HB := n0_; have BK280 := n1_; have GW280 := n2_; have GE280 := n3_; clear z_ n0_ n1_ n2_ n3_; clear hb hbox hg) | ((with_reducible refine gate_dst (N := 6) rfl ?_); (try (refine gate_guard (by rfl) ?_; dsimp only)); refine bE ?hg (N := 6) ?hd (cs := #[.int .i64 0, .int .i64 0, .slice none 0 0, .slice none 0 0]) (t := 30) ?hr ?_; (case hd => rfl); (case hg => rfl); (case hr => first | (go_simp; done) | (go_simp; rfl)); intro gb281 hg w96 hbox hb; have z_ := bX hb (by repeat (first | (with_reducible first | exact HB.out | apply bA | apply bN | apply bD | refine bS ?_ GE280.out) | exact HB.out)); have n0_ := Aside0.mk (kB (kQ BK280) hb); have n1_ := Aside0.mk (bP z_ hb); have n2_ := Aside0.mk (hbox); have n3_ := Aside0.mk ((by rw [hg]; exact (bZ z_) : w.heap.size ≤ gb281)); have n4_ := Aside0.mk ((by rw [hg]; exact (bZ z_) : w.heap.size ≤ gb281)); have n5_ := Aside0.mk ((by rw [hg]; exact Nat.ne_of_lt (kL (kQ BK280)) : gb280 ≠ gb281)); have n6_ := Aside0.mk ((by rw [hg]; exact Nat.ne_of_gt (kL (kQ BK280)) : gb281 ≠ gb280)); clear BK280; clear HB; have BK280 := n0_; have HB := n1_; have BK281 := n2_; have GW281 := n3_; have GE281 := n4_; have NB280_281 := n5_; have NB281_280 := n6_; clear z_ n0_ n1_ n2_ n3_ n4_ n5_ n6_; clear hb hbox hg; have hnb97 := NB280_281.out; have hnc97 := NB281_280.out; obtain ⟨hcz98_0, hcz98_1, hcz98_2, hcz98_3, hcz98_4, hcz98_5⟩ := cZ6 BK280.out; obtain ⟨hfz98_0, hfz98_1, hfz98_2, hfz98_3, hfz98_4, hfz98_5⟩ := fZ6 BK280.out) | ((with_reducible refine gC (f := 89) rfl ?_); refine goesL_ (some 17) rfl rfl Try.func89 (by kernel_rfl) rfl #[.agg #[.string a0_0, .slice A0_1 l0_1.length c0_1, .slice A0_2 l0_2.length c0_2, .int .i64 a0_3, .int .i64 a0_4, .slice A0_5 l0_5.length c0_5]] rfl lQ ?_; (with_reducible refine (impl_ValidRaga.calls k a0_0 _ _ l0_1 _ _ l0_2 a0_3 a0_4 _ _ l0_5 true _ ?side1 ?side2 ?side3 ?side4 ?side5 ?side6 A4.out).mono ?_); (case side1 => exact cP (cB HR0_1.out HB.out)); (case side2 => exact HC0_1.out); (case side3 => exact cP (cB HR0_2.out HB.out)); (case side4 => exact HC0_2.out); (case side5 => exact cP (cB HR0_5.out HB.out)); (case side6 => exact HC0_5.out); rintro e w99 ⟨rfl, hb⟩; refine ⟨_, rfl, ?_⟩; have n0_ := Aside0.mk (kB (kQ BK280) hb); have n1_ := Aside0.mk (kB (kQ BK281) hb); have n2_ := Aside0.mk (bP (by repeat (first | (with_reducible first | exact HB.out | apply bA | apply bN | apply bD | refine bS ?_ GE280.out | refine bS ?_ GE281.out) | exact HB.out)) hb); clear BK280; clear BK281; clear HB; have BK280 := n0_; have BK281 := n1_; have HB := n2_; clear n0_ n1_ n2_; (try clear hb); (try clear hb2); (try clear hk); (try clear hi)) | ((with_reducible refine gC (f := 64) rfl ?_); refine goesL_ (some 22) rfl rfl Try.func64 (by kernel_rfl) rfl #[.int .i64 a1] rfl lQ ?_; (with_reducible refine (impl_pitchOk.calls a1 true _ A6.out).mono ?_); rintro e w' ⟨rfl, ⟨nd, rfl⟩⟩; refine ⟨_, rfl, ?_⟩; (try (rw [drewN_self w99]; generalize hq_ : World.drewN w99 _ = w99; have n0_ : Aside0 (w99.heap[gb280]? = some (.cells #[.string a0_0, .slice A0_1 l0_1.length c0_1, .slice A0_2 l0_2.length c0_2, .int .i64 a0_3, .int .i64 a0_4, .slice A0_5 l0_5.length c0_5] 58 (0, 0))) := ⟨by rw [← hq_]; exact (kQ BK280)⟩; have n1_ : Aside0 (w99.heap[gb281]? = some (.cells #[.int .i64 0, .int .i64 0, .slice none 0 0, .slice none 0 0] 30 (0, 0))) := ⟨by rw [← hq_]; exact (kQ BK281)⟩; have n2_ : Aside0 (Below w.heap.size w w99) := ⟨by rw [← hq_]; exact (by repeat (first | (with_reducible first | exact HB.out | apply bA | apply bN | apply bD | refine bS ?_ GE280.out | refine bS ?_ GE281.out) | exact HB.out))⟩; clear BK280 BK281 HB hq_; have BK280 := n0_; have BK281 := n1_; have HB := n2_; clear n0_ n1_ n2_))) | (go_at_call 60; (with_reducible refine (impl_within.calls a2 a1 23 false _ A8.out).mono ?_); rintro e w' ⟨rfl, ⟨nd, rfl⟩⟩; (try (rw [drewN_self w99]; generalize hq_ : World.drewN w99 _ = w99; have n0_ : Aside0 (w99.heap[gb280]? = some (.cells #[.string a0_0, .slice A0_1 l0_1.length c0_1, .slice A0_2 l0_2.length c0_2, .int .i64 a0_3, .int .i64 a0_4, .slice A0_5 l0_5.length c0_5] 58 (0, 0))) := ⟨by rw [← hq_]; exact (kQ BK280)⟩; have n1_ : Aside0 (w99.heap[gb281]? = some (.cells #[.int .i64 0, .int .i64 0, .slice none 0 0, .slice none 0 0] 30 (0, 0))) := ⟨by rw [← hq_]; exact (kQ BK281)⟩; have n2_ : Aside0 (Below w.heap.size w w99) := ⟨by rw [← hq_]; exact (by repeat (first | (with_reducible first | exact HB.out | apply bA | apply bN | apply bD | refine bS ?_ GE280.out | refine bS ?_ GE281.out) | exact HB.out))⟩; clear BK280 BK281 HB hq_; have BK280 := n0_; have BK281 := n1_; have HB := n2_; clear n0_ n1_ n2_)); obtain ⟨hcz100_0, hcz100_1, hcz100_2, hcz100_3⟩ := cZ4 BK281.out; obtain ⟨hfz100_0, hfz100_1, hfz100_2, hfz100_3⟩ := fZ4 BK281.out))
    refine bodyPost_ret (results_ct rfl _ _ gb281 30 #[.int .i64 0, .int .i64 0, .slice none 0 0, .slice none 0 0] (0, 0) _ rfl (by (with_reducible repeat (first | refine kN ?_ _ | refine kD ?_ | refine kA ?_ _)); refine blk_put (cs := #[.int .i64 0, .int .i64 0, .slice none 0 0, .slice none 0 0]) ?_ 3 _ rfl; (with_reducible repeat (first | refine kN ?_ _ | refine kD ?_ | refine kA ?_ _)); refine blk_put (cs := #[.int .i64 0, .int .i64 0, .slice none 0 0, .slice none 0 0]) ?_ 2 _ rfl; (with_reducible repeat (first | refine kN ?_ _ | refine kD ?_ | refine kA ?_ _)); refine blk_put (cs := #[.int .i64 0, .int .i64 0, .slice none 0 0, .slice none 0 0]) ?_ 1 _ rfl; (with_reducible repeat (first | refine kN ?_ _ | refine kD ?_ | refine kA ?_ _)); refine blk_put (cs := #[.int .i64 0, .int .i64 0, .slice none 0 0, .slice none 0 0]) ?_ 0 _ rfl; (with_reducible repeat (first | refine kN ?_ _ | refine kD ?_ | refine kA ?_ _)); exact BK281.out) Try.underlying30 rfl (by kernel_rfl)) rfl ?_
    exact ⟨_, _, by first | rfl | (simp [errW_none, errW_some] <;> rfl) | (simp [*, errW_none, errW_some] <;> rfl), by first | exact Kd.R_nil _ _ _ _ _ | exact Kd.N_nil _ _ _ _ _ | exact Kd.V_nil _ _ _ _ _ | exact Kd.Q_nil _ _ _ _ _ | exact Kd.S_nil _ _ _ _ _, by first | exact Kd.R_nil _ _ _ _ _ | exact Kd.N_nil _ _ _ _ _ | exact Kd.V_nil _ _ _ _ _ | exact Kd.Q_nil _ _ _ _ _ | exact Kd.S_nil _ _ _ _ _, by repeat (first | (with_reducible first | exact HB.out | apply bA | apply bN | apply bD | refine bS ?_ GE280.out | refine bS ?_ GE281.out) | exact HB.out)⟩
  ·replace c7 := Bool.eq_false_iff.mpr c7
   subst c7
   have H1 : (some (0, 0, ([] : List Int), ([] : List (S67)), 2)) = some (r1, r2, r3, r4, r5) := by rw [if_neg (show ¬ (false = true) by decide)] at H; exact H
   clear H
   have H := H1
   clear H1
   simp only [Option.some.injEq, Prod.mk.injEq] at H
   obtain ⟨rfl, rfl, rfl, rfl, rfl⟩ := H
   go_enter Try.func50, Try.ntmps50
   go_wp2_with (first | ((with_reducible refine gate_dst (N := 3) rfl ?_); (try (refine gate_guard (by rfl) ?_; dsimp only)); refine bE ?hg (N := 3) ?hd (cs := #[.string a0_0, .slice A0_1 l0_1.length c0_1, .slice A0_2 l0_2.length c0_2, .int .i64 a0_3, .int .i64 a0_4, .slice A0_5 l0_5.length c0_5]) (t := 58) ?hr ?_; (case hd => rfl); (case hg => rfl); (case hr => first | (go_simp; done) | (go_simp; rfl)); intro gb280 hg w101 hbox hb; have z_ := bX hb (hQ HB); have n0_ := Aside0.mk (bP z_ hb); have n1_ := Aside0.mk (hbox); have n2_ := Aside0.mk ((by rw [hg]; exact (bZ z_) : w.heap.size ≤ gb280)); have n3_ := Aside0.mk ((by rw [hg]; exact (bZ z_) : w.heap.size ≤ gb280)); clear HB; have HB := n0_; have BK280 := n1_; have GW280 := n2_; have GE280 := n3_; clear z_ n0_ n1_ n2_ n3_; clear hb hbox hg) | ((with_reducible refine gate_dst (N := 6) rfl ?_); (try (refine gate_guard (by rfl) ?_; dsimp only)); refine bE ?hg (N := 6) ?hd (cs := #[.int .i64 0, .int .i64 0, .slice none 0 0, .slice none 0 0]) (t := 30) ?hr ?_; (case hd => rfl); (case hg => rfl); (case hr => first | (go_simp; done) | (go_simp; rfl)); intro gb281 hg w102 hbox hb; have z_ := bX hb (by repeat (first | (with_reducible first | exact HB.out | apply bA | apply bN | apply bD | refine bS ?_ GE280.out) | exact HB.out)); have n0_ := Aside0.mk (kB (kQ BK280) hb); have n1_ := Aside0.mk (bP z_ hb); have n2_ := Aside0.mk (hbox); have n3_ := Aside0.mk ((by rw [hg]; exact (bZ z_) : w.heap.size ≤ gb281)); have n4_ := Aside0.mk ((by rw [hg]; exact (bZ z_) : w.heap.size ≤ gb281)); have n5_ := Aside0.mk ((by rw [hg]; exact Nat.ne_of_lt (kL (kQ BK280)) : gb280 ≠ gb281)); have n6_ := Aside0.mk ((by rw [hg]; exact Nat.ne_of_gt (kL (kQ BK280)) : gb281 ≠ gb280)); clear BK280; clear HB; have BK280 := n0_; have HB := n1_; have BK281 := n2_; have GW281 := n3_; have GE281 := n4_; have NB280_281 := n5_; have NB281_280 := n6_; clear z_ n0_ n1_ n2_ n3_ n4_ n5_ n6_; clear hb hbox hg; have hnb103 := NB280_281.out; have hnc103 := NB281_280.out; obtain ⟨hcz104_0, hcz104_1, hcz104_2, hcz104_3, hcz104_4, hcz104_5⟩ := cZ6 BK280.out; obtain ⟨hfz104_0, hfz104_1, hfz104_2, hfz104_3, hfz104_4, hfz104_5⟩ := fZ6 BK280.out) | ((with_reducible refine gC (f := 89) rfl ?_); refine goesL_ (some 17) rfl rfl Try.func89 (by kernel_rfl) rfl #[.agg #[.string a0_0, .slice A0_1 l0_1.length c0_1, .slice A0_2 l0_2.length c0_2, .int .i64 a0_3, .int .i64 a0_4, .slice A0_5 l0_5.length c0_5]] rfl lQ ?_; (with_reducible refine (impl_ValidRaga.calls k a0_0 _ _ l0_1 _ _ l0_2 a0_3 a0_4 _ _ l0_5 true _ ?side1 ?side2 ?side3 ?side4 ?side5 ?side6 A4.out).mono ?_); (case side1 => exact cP (cB HR0_1.out HB.out)); (case side2 => exact HC0_1.out); (case side3 => exact cP (cB HR0_2.out HB.out)); (case side4 => exact HC0_2.out); (case side5 => exact cP (cB HR0_5.out HB.out)); (case side6 => exact HC0_5.out); rintro e w105 ⟨rfl, hb⟩; refine ⟨_, rfl, ?_⟩; have n0_ := Aside0.mk (kB (kQ BK280) hb); have n1_ := Aside0.mk (kB (kQ BK281) hb); have n2_ := Aside0.mk (bP (by repeat (first | (with_reducible first | exact HB.out | apply bA | apply bN | apply bD | refine bS ?_ GE280.out | refine bS ?_ GE281.out) | exact HB.out)) hb); clear BK280; clear BK281; clear HB; have BK280 := n0_; have BK281 := n1_; have HB := n2_; clear n0_ n1_ n2_; (try clear hb); (try clear hb2); (try clear hk); (try clear hi)) | ((with_reducible refine gC (f := 64) rfl ?_); refine goesL_ (some 22) rfl rfl Try.func64 (by kernel_rfl) rfl #[.int .i64 a1] rfl lQ ?_; (with_reducible refine (impl_pitchOk.calls a1 false _ A6.out).mono ?_); rintro e w' ⟨rfl, ⟨nd, rfl⟩⟩; refine ⟨_, rfl, ?_⟩; (try (rw [drewN_self w105]; generalize hq_ : World.drewN w105 _ = w105; have n0_ : Aside0 (w105.heap[gb280]? = some (.cells #[.string a0_0, .slice A0_1 l0_1.length c0_1, .slice A0_2 l0_2.length c0_2, .int .i64 a0_3, .int .i64 a0_4, .slice A0_5 l0_5.length c0_5] 58 (0, 0))) := ⟨by rw [← hq_]; exact (kQ BK280)⟩; have n1_ : Aside0 (w105.heap[gb281]? = some (.cells #[.int .i64 0, .int .i64 0, .slice none 0 0, .slice none 0 0] 30 (0, 0))) := ⟨by rw [← hq_]; exact (kQ BK281)⟩; have n2_ : Aside0 (Below w.heap.size w w105) := ⟨by rw [← hq_]; exact (by repeat (first | (with_reducible first | exact HB.out | apply bA | apply bN | apply bD | refine bS ?_ GE280.out | refine bS ?_ GE281.out) | exact HB.out))⟩; clear BK280 BK281 HB hq_; have BK280 := n0_; have BK281 := n1_; have HB := n2_; clear n0_ n1_ n2_)); obtain ⟨hcz106_0, hcz106_1, hcz106_2, hcz106_3⟩ := cZ4 BK281.out; obtain ⟨hfz106_0, hfz106_1, hfz106_2, hfz106_3⟩ := fZ4 BK281.out))
   refine bodyPost_ret (results_ct rfl _ _ gb281 30 #[.int .i64 0, .int .i64 0, .slice none 0 0, .slice none 0 0] (0, 0) _ rfl (by (with_reducible repeat (first | refine kN ?_ _ | refine kD ?_ | refine kA ?_ _)); refine blk_put (cs := #[.int .i64 0, .int .i64 0, .slice none 0 0, .slice none 0 0]) ?_ 3 _ rfl; (with_reducible repeat (first | refine kN ?_ _ | refine kD ?_ | refine kA ?_ _)); refine blk_put (cs := #[.int .i64 0, .int .i64 0, .slice none 0 0, .slice none 0 0]) ?_ 2 _ rfl; (with_reducible repeat (first | refine kN ?_ _ | refine kD ?_ | refine kA ?_ _)); refine blk_put (cs := #[.int .i64 0, .int .i64 0, .slice none 0 0, .slice none 0 0]) ?_ 1 _ rfl; (with_reducible repeat (first | refine kN ?_ _ | refine kD ?_ | refine kA ?_ _)); refine blk_put (cs := #[.int .i64 0, .int .i64 0, .slice none 0 0, .slice none 0 0]) ?_ 0 _ rfl; (with_reducible repeat (first | refine kN ?_ _ | refine kD ?_ | refine kA ?_ _)); exact BK281.out) Try.underlying30 rfl (by kernel_rfl)) rfl ?_
   exact ⟨_, _, by first | rfl | (simp [errW_none, errW_some] <;> rfl) | (simp [*, errW_none, errW_some] <;> rfl), by first | exact Kd.R_nil _ _ _ _ _ | exact Kd.N_nil _ _ _ _ _ | exact Kd.V_nil _ _ _ _ _ | exact Kd.Q_nil _ _ _ _ _ | exact Kd.S_nil _ _ _ _ _, by first | exact Kd.R_nil _ _ _ _ _ | exact Kd.N_nil _ _ _ _ _ | exact Kd.V_nil _ _ _ _ _ | exact Kd.Q_nil _ _ _ _ _ | exact Kd.S_nil _ _ _ _ _, by repeat (first | (with_reducible first | exact HB.out | apply bA | apply bN | apply bD | refine bS ?_ GE280.out | refine bS ?_ GE281.out) | exact HB.out)⟩
 ·replace c5 := Bool.eq_false_iff.mpr c5
  subst c5
  have H1 : (some (0, 0, ([] : List Int), ([] : List (S67)), 1)) = some (r1, r2, r3, r4, r5) := by rw [if_neg (show ¬ (false = true) by decide)] at H; exact H
  clear H
  have H := H1
  clear H1
  simp only [Option.some.injEq, Prod.mk.injEq] at H
  obtain ⟨rfl, rfl, rfl, rfl, rfl⟩ := H
  go_enter Try.func50, Try.ntmps50
  go_wp2_with (first | ((with_reducible refine gate_dst (N := 3) rfl ?_); (try (refine gate_guard (by rfl) ?_; dsimp only)); refine bE ?hg (N := 3) ?hd (cs := #[.string a0_0, .slice A0_1 l0_1.length c0_1, .slice A0_2 l0_2.length c0_2, .int .i64 a0_3, .int .i64 a0_4, .slice A0_5 l0_5.length c0_5]) (t := 58) ?hr ?_; (case hd => rfl); (case hg => rfl); (case hr => first | (go_simp; done) | (go_simp; rfl)); intro gb280 hg w107 hbox hb; have z_ := bX hb (hQ HB); have n0_ := Aside0.mk (bP z_ hb); have n1_ := Aside0.mk (hbox); have n2_ := Aside0.mk ((by rw [hg]; exact (bZ z_) : w.heap.size ≤ gb280)); have n3_ := Aside0.mk ((by rw [hg]; exact (bZ z_) : w.heap.size ≤ gb280)); clear HB; have HB := n0_; have BK280 := n1_; have GW280 := n2_; have GE280 := n3_; clear z_ n0_ n1_ n2_ n3_; clear hb hbox hg) | ((with_reducible refine gate_dst (N := 6) rfl ?_); (try (refine gate_guard (by rfl) ?_; dsimp only)); refine bE ?hg (N := 6) ?hd (cs := #[.int .i64 0, .int .i64 0, .slice none 0 0, .slice none 0 0]) (t := 30) ?hr ?_; (case hd => rfl); (case hg => rfl); (case hr => first | (go_simp; done) | (go_simp; rfl)); intro gb281 hg w108 hbox hb; have z_ := bX hb (by repeat (first | (with_reducible first | exact HB.out | apply bA | apply bN | apply bD | refine bS ?_ GE280.out) | exact HB.out)); have n0_ := Aside0.mk (kB (kQ BK280) hb); have n1_ := Aside0.mk (bP z_ hb); have n2_ := Aside0.mk (hbox); have n3_ := Aside0.mk ((by rw [hg]; exact (bZ z_) : w.heap.size ≤ gb281)); have n4_ := Aside0.mk ((by rw [hg]; exact (bZ z_) : w.heap.size ≤ gb281)); have n5_ := Aside0.mk ((by rw [hg]; exact Nat.ne_of_lt (kL (kQ BK280)) : gb280 ≠ gb281)); have n6_ := Aside0.mk ((by rw [hg]; exact Nat.ne_of_gt (kL (kQ BK280)) : gb281 ≠ gb280)); clear BK280; clear HB; have BK280 := n0_; have HB := n1_; have BK281 := n2_; have GW281 := n3_; have GE281 := n4_; have NB280_281 := n5_; have NB281_280 := n6_; clear z_ n0_ n1_ n2_ n3_ n4_ n5_ n6_; clear hb hbox hg; have hnb109 := NB280_281.out; have hnc109 := NB281_280.out; obtain ⟨hcz110_0, hcz110_1, hcz110_2, hcz110_3, hcz110_4, hcz110_5⟩ := cZ6 BK280.out; obtain ⟨hfz110_0, hfz110_1, hfz110_2, hfz110_3, hfz110_4, hfz110_5⟩ := fZ6 BK280.out) | ((with_reducible refine gC (f := 89) rfl ?_); refine goesL_ (some 17) rfl rfl Try.func89 (by kernel_rfl) rfl #[.agg #[.string a0_0, .slice A0_1 l0_1.length c0_1, .slice A0_2 l0_2.length c0_2, .int .i64 a0_3, .int .i64 a0_4, .slice A0_5 l0_5.length c0_5]] rfl lQ ?_; (with_reducible refine (impl_ValidRaga.calls k a0_0 _ _ l0_1 _ _ l0_2 a0_3 a0_4 _ _ l0_5 false _ ?side1 ?side2 ?side3 ?side4 ?side5 ?side6 A4.out).mono ?_); (case side1 => exact cP (cB HR0_1.out HB.out)); (case side2 => exact HC0_1.out); (case side3 => exact cP (cB HR0_2.out HB.out)); (case side4 => exact HC0_2.out); (case side5 => exact cP (cB HR0_5.out HB.out)); (case side6 => exact HC0_5.out); rintro e w111 ⟨rfl, hb⟩; refine ⟨_, rfl, ?_⟩; have n0_ := Aside0.mk (kB (kQ BK280) hb); have n1_ := Aside0.mk (kB (kQ BK281) hb); have n2_ := Aside0.mk (bP (by repeat (first | (with_reducible first | exact HB.out | apply bA | apply bN | apply bD | refine bS ?_ GE280.out | refine bS ?_ GE281.out) | exact HB.out)) hb); clear BK280; clear BK281; clear HB; have BK280 := n0_; have BK281 := n1_; have HB := n2_; clear n0_ n1_ n2_; (try clear hb); (try clear hb2); (try clear hk); (try clear hi); obtain ⟨hcz112_0, hcz112_1, hcz112_2, hcz112_3⟩ := cZ4 BK281.out; obtain ⟨hfz112_0, hfz112_1, hfz112_2, hfz112_3⟩ := fZ4 BK281.out))
  refine bodyPost_ret (results_ct rfl _ _ gb281 30 #[.int .i64 0, .int .i64 0, .slice none 0 0, .slice none 0 0] (0, 0) _ rfl (by (with_reducible repeat (first | refine kN ?_ _ | refine kD ?_ | refine kA ?_ _)); refine blk_put (cs := #[.int .i64 0, .int .i64 0, .slice none 0 0, .slice none 0 0]) ?_ 3 _ rfl; (with_reducible repeat (first | refine kN ?_ _ | refine kD ?_ | refine kA ?_ _)); refine blk_put (cs := #[.int .i64 0, .int .i64 0, .slice none 0 0, .slice none 0 0]) ?_ 2 _ rfl; (with_reducible repeat (first | refine kN ?_ _ | refine kD ?_ | refine kA ?_ _)); refine blk_put (cs := #[.int .i64 0, .int .i64 0, .slice none 0 0, .slice none 0 0]) ?_ 1 _ rfl; (with_reducible repeat (first | refine kN ?_ _ | refine kD ?_ | refine kA ?_ _)); refine blk_put (cs := #[.int .i64 0, .int .i64 0, .slice none 0 0, .slice none 0 0]) ?_ 0 _ rfl; (with_reducible repeat (first | refine kN ?_ _ | refine kD ?_ | refine kA ?_ _)); exact BK281.out) Try.underlying30 rfl (by kernel_rfl)) rfl ?_
  exact ⟨_, _, by first | rfl | (simp [errW_none, errW_some] <;> rfl) | (simp [*, errW_none, errW_some] <;> rfl), by first | exact Kd.R_nil _ _ _ _ _ | exact Kd.N_nil _ _ _ _ _ | exact Kd.V_nil _ _ _ _ _ | exact Kd.Q_nil _ _ _ _ _ | exact Kd.S_nil _ _ _ _ _, by first | exact Kd.R_nil _ _ _ _ _ | exact Kd.N_nil _ _ _ _ _ | exact Kd.V_nil _ _ _ _ _ | exact Kd.Q_nil _ _ _ _ _ | exact Kd.S_nil _ _ _ _ _, by repeat (first | (with_reducible first | exact HB.out | apply bA | apply bN | apply bD | refine bS ?_ GE280.out | refine bS ?_ GE281.out) | exact HB.out)⟩


/-! ### laws_markInt64SS: function 98 -/
def mkA : Nat → Int → Int
 | 0, a => a
 | n + 1, a => mkA n (wrap64 (a + 1))
def mkS : List (List Int) → Int → Int
 | [], a => a
 | x :: l, a => mkS l (mkA x.length a)
def WRow (w : World) (base : Nat) (P : Nat → Prop) (v : Value) (n : Nat) : Prop := ∃ (A : Option Addr) (cap : Nat), v = .slice A n cap ∧ n ≤ maxLen ∧ (n = 0 ∨ ∃ (g : Nat) (cur : Array Value), A = some ⟨g, 0, none⟩ ∧ base ≤ g ∧ P g ∧ w.heap[g]? = some (.cells cur 2 (0, 0)) ∧ n ≤ cur.size)
theorem WRow.of_R {w : World} {base : Nat} {P : Nat → Prop} {v : Value} {xs : List Int} (h : Kd.R (Kd.int .i64) 2 w base P v xs) : WRow w base P v xs.length := by
 obtain ⟨h0, inner, ⟨_, h1⟩, _⟩ := h
 rcases h1 with ⟨rfl, hn⟩ | ⟨g, cap, cur, rfl, hg, hh, hn, hc, hs, _⟩
 ·rw [hn]
  exact ⟨none, 0, rfl, Nat.zero_le _, .inl rfl⟩
 ·exact ⟨_, cap, rfl, by omega, .inr ⟨g, cur, rfl, hg, h0 g rfl, hh, by rw [hs]; simp [Kd.int, Kd.scalar]; omega⟩⟩
theorem setCell_blk {w : World} {g : Nat} {cur : Array Value} {t : TypeId} (h : w.heap[g]? = some (.cells cur t (0, 0))) (i : Nat) (v : Value) : (w.setCell ⟨g, i, none⟩ v).heap[g]? = some (.cells (cur.setIfInBounds i v) t (0, 0)) := by
 simp [World.setCell, Array.getElem?_modify, h]
def SzK (w W : World) : Prop := ∀ (g : Nat) (cur : Array Value), w.heap[g]? = some (.cells cur 2 (0, 0)) → ∃ cur' : Array Value, W.heap[g]? = some (.cells cur' 2 (0, 0)) ∧ cur'.size = cur.size
theorem SzK.refl (w : World) : SzK w w := fun _ cur h => ⟨cur, h, rfl⟩
theorem SzK.trans {w W W2 : World} (h : SzK w W) (h2 : SzK W W2) : SzK w W2 := fun g cur e => by
 obtain ⟨c1, e1, s1⟩ := h g cur e
 obtain ⟨c2, e2, s2⟩ := h2 g c1 e1
 exact ⟨c2, e2, s2.trans s1⟩
theorem SzK.set {w : World} {g : Nat} {cur : Array Value} (hg : w.heap[g]? = some (.cells cur 2 (0, 0))) (i : Nat) (v : Value) : SzK w (w.setCell ⟨g, i, none⟩ v) := fun k c e => by
 by_cases hk : k = g
 ·subst hk
  rw [hg] at e
  cases e
  exact ⟨_, setCell_blk hg i v, by simp⟩
 ·exact ⟨c, (Below.heap_setCell w ⟨g, i, none⟩ v k hk).trans e, rfl⟩
theorem SzK.drew {w W : World} (h : SzK w W) (n : Nat) : SzK w (W.drewN n) := h
theorem WRow.szk {w W : World} {base : Nat} {P : Nat → Prop} {v : Value} {n : Nat} (h : WRow w base P v n) (hs : SzK w W) : WRow W base P v n := by
 obtain ⟨A, cap, rfl, hm, h⟩ := h
 refine ⟨A, cap, rfl, hm, ?_⟩
 rcases h with h | ⟨g, cur, e, hb, hp, hh, hn⟩
 ·exact .inl h
 ·obtain ⟨c, e2, e3⟩ := hs g cur hh
  exact .inr ⟨g, c, e, hb, hp, e2, by omega⟩
theorem kept_set {w W : World} {S : Nat → Prop} {g : Nat} (h : Kept w W S) (hg : S g) (i : Nat) (v : Value) : Kept w (W.setCell ⟨g, i, none⟩ v) S := ⟨by have := h.1; simpa [World.setCell] using this, fun k hk hs => (Below.heap_setCell W ⟨g, i, none⟩ v k (fun e => hs (by rw [e]; exact hg))).trans (h.2 k hk hs)⟩
set_option maxHeartbeats 1600000 in
set_option maxRecDepth 100000 in
theorem mk31 (A : Option Addr) (n cap : Nat) (a : Int) (P : Nat → Prop) (w0 w : World) (hB : Below w0.heap.size w0 w) (hr : WRow w w0.heap.size P (.slice A n cap) n) :
  Calls Try.prog 31 #[.slice A n cap, .int .i64 a] w fun e w' => e = .returned (.int .i64 (mkA n a)) ∧ Below w0.heap.size w0 w' ∧ Kept w w' (fun k => 0 < n ∧ some k = (Value.slice A n cap).ownBlock) ∧ SzK w w' := by
 have HBB := Aside0.mk hB
 have HR := Aside0.mk hr
 clear hB hr
 go_enter Try.func31, Try.ntmps31
 go_wp2
 go_loopw [1, 5] (fun v1 v5 wr => ∃ (i : Nat) (a' : Int), v1 = .int .i64 a' ∧ v5 = .int .i64 (i : Int) ∧ i ≤ n ∧ Aside0 (mkA (n - i) a' = mkA n a) ∧ Aside0 (Below w0.heap.size w0 wr) ∧ Aside0 (Kept w wr (fun k => 0 < n ∧ some k = (Value.slice A n cap).ownBlock)) ∧ Aside0 (SzK w wr)) (fun _ v5 _ => n - (intOf v5).toNat)
 case atStart => exact ⟨0, a, rfl, rfl, Nat.zero_le _, ⟨rfl⟩, HBB, ⟨Kept.refl _ _⟩, ⟨SzK.refl _⟩⟩
 case round =>
  obtain ⟨i, a', rfl, rfl, hi, HA, HB, HK, HS⟩ := hrel
  obtain ⟨A', cap', e, hm, hg⟩ := HR.out.szk HS.out
  cases e
  have hm2 : n ≤ 9223372036854775807 := hm
  by_cases hlt : i < n
  ·rcases hg with hg | ⟨g, cur, rfl, hb, hp, hh, hn⟩
   ·omega
   ·have hx : wr.cell? ⟨g, i, none⟩ = some cur[i] := (kC hh i).trans (Array.getElem?_eq_getElem (by omega))
    have hf := blk_frozen hh i
    have HH := Aside0.mk hh
    have HBG := Aside0.mk hb
    clear hh hm hb
    go_wp2
    go_roundw
    case rel => exact ⟨i + 1, wrap64 (a' + 1), rfl, by go_num, by omega, ⟨by rw [← HA.out, show n - i = (n - (i + 1)) + 1 by omega, mkA]⟩, ⟨bS HB.out HBG.out⟩, ⟨kept_set HK.out ⟨by omega, rfl⟩ _ _⟩, ⟨HS.out.trans (SzK.set HH.out _ _)⟩⟩
    case measure => simp [intOf]; omega
  ·go_wp2
   go_ret
   have e0 : mkA (n - i) a' = a' := by rw [show n - i = 0 by omega]; rfl
   exact ⟨by rw [show mkA n a = a' from HA.out.symm.trans e0]; rfl, HB.out, HK.out, HS.out⟩
theorem Kept.via {w W W2 : World} {S S2 : Nat → Prop} (h : Kept w W S) (h2 : Kept W W2 S2) (hs : ∀ k, S2 k → S k) : Kept w W2 S := ⟨Nat.le_trans h.1 h2.1, fun k hk hn => (h2.2 k (Nat.lt_of_lt_of_le hk h.1) (fun e => hn (hs k e))).trans (h.2 k hk hn)⟩
/-- The rows inside: by their places alone. -/
def Inner (w : World) (base : Nat) (P : Nat → Prop) (cells : List Value) (l : List (List Int)) : Prop := cells.length = l.length ∧ ∀ (j : Nat) (x : List Int) (v : Value), l[j]? = some x → cells[j]? = some v → WRow w base P v x.length
theorem Inner.szk {w W : World} {base : Nat} {P : Nat → Prop} {cells : List Value} {l : List (List Int)} (h : Inner w base P cells l) (hs : SzK w W) : Inner W base P cells l := ⟨h.1, fun j x v e1 e2 => (h.2 j x v e1 e2).szk hs⟩
theorem rows_open {w : World} {base : Nat} {P : Nat → Prop} {u : Value} {l : List (List Int)} (h : Kd.R (Kd.slice 2 (Kd.int .i64)) 22 w base P u l) : ∃ (A : Option Addr) (cap : Nat) (cells : List Value), u = .slice A l.length cap ∧ l.length ≤ maxLen ∧ (l.length = 0 ∨ ∃ (G : Nat) (cur : Array Value), A = some ⟨G, 0, none⟩ ∧ w.heap[G]? = some (.cells cur 22 (0, 0)) ∧ (∀ j, j < l.length → cur[j]? = cells[j]?) ∧ G < w.heap.size) ∧ Inner w base (fun k => P k ∧ some k ≠ u.ownBlock) cells l := by
 obtain ⟨h0, inner, ⟨hl, h1⟩, hr⟩ := h
 have hin : Inner w base (fun k => P k ∧ some k ≠ u.ownBlock) inner l := by
  refine ⟨by rw [hl]; simp [Kd.slice], fun j x v e1 e2 => ?_⟩
  have q := hr.2 j x e1
  have hs : (inner.drop (j * 1)).take 1 = [v] := by
   rw [Nat.mul_one]
   have hj : j < inner.length := (List.getElem?_eq_some_iff.1 e2).1
   rw [List.drop_eq_getElem_cons hj]
   simp [(List.getElem?_eq_some_iff.1 e2).2]
  rw [show (Kd.slice 2 (Kd.int .i64)).sz = 1 from rfl, hs] at q
  obtain ⟨v2, e, hR⟩ := q
  cases e
  exact WRow.of_R hR
 rcases h1 with ⟨rfl, hn⟩ | ⟨g, cap, cur, rfl, hg, hh, hn, hc, hs, ht⟩
 ·refine ⟨none, 0, inner, by rw [hn], by rw [hn]; exact Nat.zero_le _, .inl hn, hin⟩
 ·refine ⟨_, cap, inner, rfl, by omega, .inr ⟨g, cur, rfl, hh, fun j hj => ?_, (Array.getElem?_eq_some_iff.1 hh).1⟩, hin⟩
  rw [← ht, show (Kd.slice 2 (Kd.int .i64)).sz = 1 from rfl, Nat.mul_one, List.getElem?_take, if_pos hj, Array.getElem?_toList]
def Outer (w : World) (A : Option Addr) (n : Nat) (cells : List Value) : Prop := n = 0 ∨ ∃ (G : Nat) (cur : Array Value), A = some ⟨G, 0, none⟩ ∧ w.heap[G]? = some (.cells cur 22 (0, 0)) ∧ (∀ j, j < n → cur[j]? = cells[j]?) ∧ G < w.heap.size
theorem Outer.kept {w W : World} {A : Option Addr} {n : Nat} {cells : List Value} (h : Outer w A n cells) {base n2 : Nat} {P : Nat → Prop} {v : Value} (hv : WRow w base P v n2) (hk : Kept w W (fun k => 0 < n2 ∧ some k = v.ownBlock)) : Outer W A n cells := by
 rcases h with h | ⟨G, cur, rfl, hh, hc, hG⟩
 ·exact .inl h
 ·refine .inr ⟨G, cur, rfl, (hk.2 G hG fun e => ?_).trans hh, hc, Nat.lt_of_lt_of_le hG hk.1⟩
  obtain ⟨A2, c2, rfl, _, hq⟩ := hv
  rcases hq with hq | ⟨g, cu, rfl, _, _, hg, _⟩
  ·have := e.1
   omega
  ·obtain rfl := Option.some.inj e.2
   rw [hh] at hg
   simp at hg
set_option maxHeartbeats 1600000 in
set_option maxRecDepth 100000 in
theorem ss98 (P : Nat → Prop) (A : Option Addr) (cap : Nat) (cells : List Value) (l0 : List (List Int)) (a1 : Int) (w0 w : World) (hB : Below w0.heap.size w0 w) (hm : l0.length ≤ maxLen) (hg : Outer w A l0.length cells) (hi : Inner w w0.heap.size P cells l0) (hp : ∀ k, P k → some k ≠ (Value.slice A l0.length cap).ownBlock) :
  Calls Try.prog 98 #[.slice A l0.length cap, .int .i64 a1] w fun e w' => e = .returned (.int .i64 (mkS l0 a1)) ∧ Below w0.heap.size w0 w' ∧ Kept w w' P := by
 have HBB := Aside0.mk hB
 have HG := Aside0.mk hg
 have HI := Aside0.mk hi
 have HP := Aside0.mk hp
 have hm2 : l0.length ≤ 9223372036854775807 := hm
 clear hB hi hm hg hp
 go_enter Try.func98, Try.ntmps98
 go_wp2
 go_loopw [1, 5] (fun v1 v5 wr => ∃ (i : Nat) (a' : Int), v1 = .int .i64 a' ∧ v5 = .int .i64 (i : Int) ∧ i ≤ l0.length ∧ Aside0 (mkS (l0.drop i) a' = mkS l0 a1) ∧ Aside0 (Below w0.heap.size w0 wr) ∧ Aside0 (Kept w wr P) ∧ Aside0 (SzK w wr)) (fun _ v5 _ => l0.length - (intOf v5).toNat)
 case atStart => exact ⟨0, a1, rfl, rfl, Nat.zero_le _, ⟨rfl⟩, HBB, ⟨Kept.refl _ _⟩, ⟨SzK.refl _⟩⟩
 case round =>
  obtain ⟨i, a', rfl, rfl, hi, HA, HB, HK, HS⟩ := hrel
  by_cases hlt : i < l0.length
  ·rcases HG.out with hg | ⟨G, cur, rfl, hh, hc, hG⟩
   ·omega
   ·obtain ⟨A2, cap2, e2, hm3, hg2⟩ := HI.out.2 i l0[i] (cells[i]'(by rw [HI.out.1]; exact hlt)) (List.getElem?_eq_getElem hlt) (List.getElem?_eq_getElem _)
    have hh2 := (HK.out.2 G hG (fun e => HP.out G e rfl)).trans hh
    have hx : wr.cell? ⟨G, i, none⟩ = some (.slice A2 l0[i].length cap2) := (kC hh2 i).trans ((hc i hlt).trans (by rw [List.getElem?_eq_getElem (by rw [HI.out.1]; exact hlt), e2]))
    have HW := Aside0.mk (show WRow w w0.heap.size P (.slice A2 l0[i].length cap2) l0[i].length from ⟨A2, cap2, rfl, hm3, hg2⟩)
    clear hh2 hg2 hm3 e2 hc hh
    go_wp2_with (go_at_call 31; (with_reducible refine (mk31 A2 l0[i].length cap2 a' P w0 _ HB.out (HW.out.szk HS.out)).mono ?_); rintro e w' ⟨rfl, hb, hk, hs⟩; have n1_ := Aside0.mk (Kept.via HK.out hk (fun k e => by
     obtain ⟨A3, c3, e3, _, hq⟩ := HW.out
     cases e3
     rcases hq with hq | ⟨g, cu, rfl, _, hp, _⟩
     ·have := e.1
      omega
     ·obtain rfl := Option.some.inj e.2
      exact hp)); have n2_ := Aside0.mk hb; have n3_ := Aside0.mk (HS.out.trans hs); clear hb hk hs HB HK HS; have HB := n2_; have HK := n1_; have HS := n3_; clear n1_ n2_ n3_)
    go_roundw
    case rel => exact ⟨i + 1, mkA l0[i].length a', rfl, by go_num, by omega, ⟨by rw [← HA.out, List.drop_eq_getElem_cons hlt, mkS]⟩, HB, HK, HS⟩
    case measure => simp [intOf]; omega
  ·go_wp2
   go_ret
   have e0 : mkS (l0.drop i) a' = a' := by rw [List.drop_eq_nil_of_le (by omega)]; rfl
   exact ⟨by rw [show mkS l0 a1 = a' from HA.out.symm.trans e0]; rfl, HB.out, HK.out⟩
def laws_markInt64SS.f (l0 : List (List Int)) (a1 : Int) : Option Int := some (mkS l0 a1)
theorem laws_markInt64SS.calls (P0_ : Nat → Prop) (u9000_ : Value) (l0 : List (List Int)) (a1 : Int) (r : Int) (w0 w : World) (hB : Below w0.heap.size w0 w) (ho0 : Kd.R (Kd.slice 2 (Kd.int .i64)) 22 w w0.heap.size P0_ u9000_ l0) (h : laws_markInt64SS.f l0 a1 = some r) :
  Calls Try.prog 98 #[u9000_, .int .i64 a1] w fun e w' => e = .returned (.int .i64 r) ∧ Below w0.heap.size w0 w' ∧ Kept w w' (fun k_ => P0_ k_) := by
 obtain ⟨A, cap, cells, rfl, hm, hg, hi⟩ := rows_open ho0
 obtain rfl := Option.some.inj h
 exact (ss98 _ A cap cells l0 a1 w0 w hB hm hg hi (fun k hk => hk.2)).mono fun e w' ⟨h1, h2, h3⟩ => ⟨h1, h2, h3.1, fun k hk hn => h3.2 k hk (fun e => hn e.1)⟩

/-! ### laws_markRaga: function 51 -/
def laws_markRaga.f (a0_0 : ByteArray) (l0_1 : List Int) (l0_2 : List Int) (a0_3 : Int) (a0_4 : Int) (l0_5 : List (List Int)) (a1 : Int) : Option Int := some (mkS l0_5 (mkA l0_2.length (mkA l0_1.length a1)))
theorem kept_of {w W : World} {base n : Nat} {P S : Nat → Prop} {v : Value} (hv : WRow w base P v n) (hk : Kept w W (fun k => 0 < n ∧ some k = v.ownBlock)) (hs : ∀ k, P k → S k) : Kept w W S := ⟨hk.1, fun k hl hn => hk.2 k hl fun e => by
 obtain ⟨A2, c2, rfl, _, hq⟩ := hv
 rcases hq with hq | ⟨g, cu, rfl, _, hp, _⟩
 ·have := e.1
  omega
 ·obtain rfl := Option.some.inj e.2
  exact hn (hs _ hp)⟩
theorem kept_lt {w W : World} {B : Nat} {S : Nat → Prop} {o : Obj} (h : w.heap[B]? = some o) (hk : Kept w W S) (hn : ¬ S B) : W.heap[B]? = some o := (hk.2 B (Array.getElem?_eq_some_iff.1 h).1 hn).trans h
theorem WRow.not_box {w : World} {base n B t : Nat} {P : Nat → Prop} {v : Value} {cs : Array Value} (hv : WRow w base P v n) (h : w.heap[B]? = some (.cells cs t (0, 0))) (ht : t ≠ 2) : ¬ (0 < n ∧ some B = v.ownBlock) := by
 rintro ⟨h1, h2⟩
 obtain ⟨A2, c2, rfl, _, hq⟩ := hv
 rcases hq with hq | ⟨g, cu, rfl, _, hp, hg, _⟩
 ·omega
 ·obtain rfl := Option.some.inj h2
  rw [h] at hg
  simp at hg
  exact ht hg.2
theorem WRow.alloc {w : World} {base n : Nat} {P : Nat → Prop} {v : Value} (hv : WRow w base P v n) (o : Obj) : WRow (w.alloc o) base P v n := by
 obtain ⟨A2, c2, rfl, hm, hq⟩ := hv
 refine ⟨A2, c2, rfl, hm, ?_⟩
 rcases hq with hq | ⟨g, cu, rfl, hb, hp, hg, hn⟩
 ·exact .inl hq
 ·exact .inr ⟨g, cu, rfl, hb, hp, kA hg _, hn⟩
theorem Outer.alloc {w : World} {A : Option Addr} {n : Nat} {cells : List Value} (h : Outer w A n cells) (o : Obj) : Outer (w.alloc o) A n cells := by
 rcases h with h | ⟨G, cur, rfl, hh, hc, hG⟩
 ·exact .inl h
 ·exact .inr ⟨G, cur, rfl, kA hh _, hc, Nat.lt_of_lt_of_le hG (bA (Below.refl w.heap.size w) o).size⟩
theorem Inner.alloc {w : World} {base : Nat} {P : Nat → Prop} {cells : List Value} {l : List (List Int)} (h : Inner w base P cells l) (o : Obj) : Inner (w.alloc o) base P cells l := ⟨h.1, fun j x v e1 e2 => (h.2 j x v e1 e2).alloc o⟩
set_option maxHeartbeats 1600000 in
set_option maxRecDepth 100000 in
theorem laws_markRaga.calls (a0_0 : ByteArray) (P0_1_ : Nat → Prop) (u9000_ : Value) (l0_1 : List Int) (P0_2_ : Nat → Prop) (u9001_ : Value) (l0_2 : List Int) (a0_3 : Int) (a0_4 : Int) (P0_5_ : Nat → Prop) (u9002_ : Value) (l0_5 : List (List Int)) (a1 : Int) (r1 : Int) (w0 w : World) (hB : Below w0.heap.size w0 w) (ho0_1 : Kd.R (Kd.int .i64) 2 w w0.heap.size P0_1_ u9000_ l0_1) (_hp0_1_0_2 : ∀ k_, P0_1_ k_ → ¬ P0_2_ k_) (ho0_2 : Kd.R (Kd.int .i64) 2 w w0.heap.size P0_2_ u9001_ l0_2) (_hp0_2_0_1 : ∀ k_, P0_2_ k_ → ¬ P0_1_ k_) (ho0_5 : Kd.R (Kd.slice 2 (Kd.int .i64)) 22 w w0.heap.size P0_5_ u9002_ l0_5) (h : laws_markRaga.f a0_0 l0_1 l0_2 a0_3 a0_4 l0_5 a1 = some r1) :
  Calls Try.prog 51 #[.agg #[.string a0_0, u9000_, u9001_, .int .i64 a0_3, .int .i64 a0_4, u9002_], .int .i64 a1] w fun e w' => e = .returned (.int .i64 r1) ∧ Below w0.heap.size w0 w' ∧ Kept w w' (fun k_ => P0_1_ k_ ∨ P0_2_ k_ ∨ P0_5_ k_) := by
 have hu := Try.underlying58
 obtain rfl := Option.some.inj h
 have v1 := WRow.of_R ho0_1
 have v2 := WRow.of_R ho0_2
 obtain ⟨A5, c5, cells, rfl, hm, hg, hi⟩ := rows_open ho0_5
 obtain ⟨A1, c1, rfl, hm1, v1'⟩ := v1
 have v1 : WRow w w0.heap.size P0_1_ (.slice A1 l0_1.length c1) l0_1.length := ⟨A1, c1, rfl, hm1, v1'⟩
 obtain ⟨A2, c2, rfl, hm2, v2'⟩ := v2
 have v2 : WRow w w0.heap.size P0_2_ (.slice A2 l0_2.length c2) l0_2.length := ⟨A2, c2, rfl, hm2, v2'⟩
 have hBX := heap_alloc_new w (.cells #[.string a0_0, .slice A1 l0_1.length c1, .slice A2 l0_2.length c2, .int .i64 a0_3, .int .i64 a0_4, .slice A5 l0_5.length c5] 58)
 have V1 := Aside0.mk (v1.alloc (.cells #[.string a0_0, .slice A1 l0_1.length c1, .slice A2 l0_2.length c2, .int .i64 a0_3, .int .i64 a0_4, .slice A5 l0_5.length c5] 58))
 have V2 := Aside0.mk (v2.alloc (.cells #[.string a0_0, .slice A1 l0_1.length c1, .slice A2 l0_2.length c2, .int .i64 a0_3, .int .i64 a0_4, .slice A5 l0_5.length c5] 58))
 have HO := Aside0.mk (Outer.alloc (show Outer w A5 l0_5.length cells from hg) (.cells #[.string a0_0, .slice A1 l0_1.length c1, .slice A2 l0_2.length c2, .int .i64 a0_3, .int .i64 a0_4, .slice A5 l0_5.length c5] 58))
 have HI := Aside0.mk (hi.alloc (.cells #[.string a0_0, .slice A1 l0_1.length c1, .slice A2 l0_2.length c2, .int .i64 a0_3, .int .i64 a0_4, .slice A5 l0_5.length c5] 58))
 have HBX := Aside0.mk hBX
 have HB := Aside0.mk (bA hB (.cells #[.string a0_0, .slice A1 l0_1.length c1, .slice A2 l0_2.length c2, .int .i64 a0_3, .int .i64 a0_4, .slice A5 l0_5.length c5] 58))
 have HK := Aside0.mk (show Kept w (w.alloc (.cells #[.string a0_0, .slice A1 l0_1.length c1, .slice A2 l0_2.length c2, .int .i64 a0_3, .int .i64 a0_4, .slice A5 l0_5.length c5] 58)) (fun k_ => P0_1_ k_ ∨ P0_2_ k_ ∨ P0_5_ k_) from Kept.alloc (Kept.refl _ _) _)
 clear hB ho0_1 ho0_2 ho0_5 h hg hi hm1 hm2 v1 v2 v1' v2' hBX
 go_enter Try.func51, Try.ntmps51
 go_wp2_with (first
  | (go_at_call 31; (with_reducible refine (mk31 A1 l0_1.length c1 a1 P0_1_ w0 _ HB.out V1.out).mono ?_); rintro e w' ⟨rfl, hb, hk, hs⟩; have m1 := Aside0.mk (V2.out.szk hs); have m2 := Aside0.mk (HI.out.szk hs); have m3 := Aside0.mk (HO.out.kept V1.out hk); have m4 := Aside0.mk (kept_lt HBX.out hk (V1.out.not_box HBX.out (by decide))); have m5 := Aside0.mk (Kept.via HK.out (kept_of (S := P0_1_) V1.out hk (fun _ e => e)) (fun _ e => .inl e)); have m6 := Aside0.mk hb; clear V1 V2 HI HO HBX HK HB hb hk hs; have V2 := m1; have HI := m2; have HO := m3; have HBX := m4; have HK := m5; have HB := m6; clear m1 m2 m3 m4 m5 m6; have z2 := (kC HBX.out 2).trans (rfl : _ = some (Value.slice A2 l0_2.length c2)); have z5 := (kC HBX.out 5).trans (rfl : _ = some (Value.slice A5 l0_5.length c5)))
  | (go_at_call 31; (with_reducible refine (mk31 A2 l0_2.length c2 _ P0_2_ w0 _ HB.out V2.out).mono ?_); rintro e w' ⟨rfl, hb, hk, hs⟩; have m2 := Aside0.mk (HI.out.szk hs); have m3 := Aside0.mk (HO.out.kept V2.out hk); have m4 := Aside0.mk (kept_lt HBX.out hk (V2.out.not_box HBX.out (by decide))); have m5 := Aside0.mk (Kept.via HK.out (kept_of (S := P0_2_) V2.out hk (fun _ e => e)) (fun _ e => .inr (.inl e))); have m6 := Aside0.mk hb; clear V2 HI HO HBX HK HB hb hk hs z2 z5; have HI := m2; have HO := m3; have HBX := m4; have HK := m5; have HB := m6; clear m2 m3 m4 m5 m6; have z5 := (kC HBX.out 5).trans (rfl : _ = some (Value.slice A5 l0_5.length c5)))
  | (go_at_call 98; (with_reducible refine (ss98 _ A5 c5 cells l0_5 _ w0 _ HB.out hm HO.out HI.out (fun k hk => hk.2)).mono ?_); rintro e w' ⟨rfl, hb, hk⟩; have m5 := Aside0.mk (Kept.via HK.out hk (fun _ e => .inr (.inr e.1))); have m6 := Aside0.mk hb; clear HK HB hb hk; have HK := m5; have HB := m6; clear m5 m6))
 go_ret
 exact ⟨rfl, HB.out, HK.out⟩

end Go.Proofs.Ytijbhcalknfijaa.M7
-- shrunk
-- tight
