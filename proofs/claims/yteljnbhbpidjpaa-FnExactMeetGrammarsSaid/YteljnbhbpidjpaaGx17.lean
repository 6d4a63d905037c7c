/- What functions of the given program compute, as plain Lean functions, and that the code comes to just that; by a program of this session over the kit's print. No condition. -/
import Derived.Test.YteljnbhbpidjpaaTight
import Derived.Test.YteljnbhbpidjpaaGx0
import Derived.Test.YteljnbhbpidjpaaGx14
import Derived.Test.YteljnbhbpidjpaaGx15
namespace Go.Proofs.Yteljnbhbpidjpaa.G
open Go.RowKit Go.Proofs.YteljnbhbpidjpaaW.PrintWords Go.Proofs.YteljnbhbpidjpaaW.PrintLast Go.Proofs.YteljnbhbpidjpaaW.PrintMore
open Go.Proofs.YteljnbhbpidjpaaW.PrintWords renaming below_alloc → bA, pw_below_drewN → bN, below_drew1 → bD, below_set → bS, blk_drewN → kN, blk_drew → kD, blk_alloc → kA, blk_below → kB, below_size → bZ, below_step → bP, blk_far → kF, blk_lt → kL, gate_callee → gC, box_event → bE, blk_cell → kC
open Go.Proofs.YteljnbhbpidjpaaW.PrintLast renaming take_ofW → tW, one_of → oO, i64_w → iW, i32_w → jW
open Go.Proofs.YteljnbhbpidjpaaW.PrintWords.Kd renaming R_alloc → rA, R_drewN → rN, R_drew → rD, C_alloc → cA, C_drewN → cN, C_drew → cD, C_below → cB, R_lower → rL, R_below → rB, R_elder' → rE, R_new' → rW, R_lt → rT, R_mono → rM
open List renaming setIfInBounds_toArray → sI, set_cons_zero → sZ, set_cons_succ → sS
open Bool renaming true → T, false → F
attribute [local go_sem] max2_int min2_int max_two min_two max_three min_three max_four min_four   -- for this text's walks alone
set_option linter.unusedVariables false
set_option linter.unusedSimpArgs false

/-! ### impl_MeetGrammars: function 18 -/
mutual
def impl_MeetGrammars.j0 : Nat → Bool → Int → Int → List Int → List (S68) → Int → Int → List Int → List (S68) → Option (Int × Int × List Int × (List (S68)) × Int)
 | 0, _, _, _, _, _, _, _, _, _ => none
 | k + 1, x24, x245000, x245001, x245002, x245003, x246000, x246001, x246002, x246003 => if x24 = true then (some (0, 0, ([] : List Int), ([] : List (S68)), 1)) else (impl_MeetGrammars.l0 k (([(⟨x245001, x246001⟩ : S73)] : List (S73))) 0 x245000 x245001 x245002 x245003 x246000 x246001 x246002 x246003 0 0 ([] : List (S68)))
def impl_MeetGrammars.l0 : Nat → List (S73) → Int → Int → Int → List Int → List (S68) → Int → Int → List Int → List (S68) → Int → Int → List (S68) → Option (Int × Int × List Int × (List (S68)) × Int)
 | 0, _, _, _, _, _, _, _, _, _, _, _, _, _ => none
 | k + 1, x6, x8, x245000, x245001, x245002, x245003, x246000, x246001, x246002, x246003, x253000, x253001, x253003 => if x8 < (x6.length : Int) then (if 0 ≤ x8 then ((impl_Grammar_arcsOf.f k x245000 x245001 x245002 x245003 ((rd_T73 x6 x8).f0)).bind fun t254 => (impl_MeetGrammars.l1 k x6 x8 t254 (t254.length : Int) 0 x245000 x245001 x245002 x245003 x246000 x246001 x246002 x246003 x253000 x253001 x253003)) else (none)) else (impl_MeetGrammars.l3 k x6 (x6.length : Int) 0 x245000 x245001 x245002 x245003 x246000 x246001 x246002 x246003 (x6.length : Int) x253001 ([] : List Int) x253003)
def impl_MeetGrammars.l1 : Nat → List (S73) → Int → List (S68) → Int → Int → Int → Int → List Int → List (S68) → Int → Int → List Int → List (S68) → Int → Int → List (S68) → Option (Int × Int × List Int × (List (S68)) × Int)
 | 0, _, _, _, _, _, _, _, _, _, _, _, _, _, _, _, _ => none
 | k + 1, x6, x8, x44, x45, x46, x245000, x245001, x245002, x245003, x246000, x246001, x246002, x246003, x253000, x253001, x253003 => if x46 < x45 then (if 0 ≤ x46 then (if x46 < (x44.length : Int) then (if 0 ≤ x8 then (if x8 < (x6.length : Int) then ((impl_Grammar_arcsOf.f k x246000 x246001 x246002 x246003 ((rd_T73 x6 x8).f1)).bind fun t260 => (impl_MeetGrammars.l2 k x6 x8 x44 x45 x46 t260 (t260.length : Int) 0 x245000 x245001 x245002 x245003 x246000 x246001 x246002 x246003 x253000 x253001 x253003 ((rd_T68 x44 x46).f0) ((rd_T68 x44 x46).f1) ((rd_T68 x44 x46).f2))) else (none)) else (none)) else (none)) else (none)) else (if (x6.length : Int) > 32 then (some (0, 0, ([] : List Int), ([] : List (S68)), 5)) else (if (x253003.length : Int) > 256 then (some (0, 0, ([] : List Int), ([] : List (S68)), 5)) else (impl_MeetGrammars.l0 k x6 (wrap64 (x8 + 1)) x245000 x245001 x245002 x245003 x246000 x246001 x246002 x246003 x253000 x253001 x253003)))
def impl_MeetGrammars.l2 : Nat → List (S73) → Int → List (S68) → Int → Int → List (S68) → Int → Int → Int → Int → List Int → List (S68) → Int → Int → List Int → List (S68) → Int → Int → List (S68) → Int → Int → Int → Option (Int × Int × List Int × (List (S68)) × Int)
 | 0, _, _, _, _, _, _, _, _, _, _, _, _, _, _, _, _, _, _, _, _, _, _ => none
 | k + 1, x6, x8, x44, x45, x46, x56, x57, x58, x245000, x245001, x245002, x245003, x246000, x246001, x246002, x246003, x253000, x253001, x253003, x259000, x259001, x259002 => if x58 < x57 then (if 0 ≤ x58 then (if x58 < (x56.length : Int) then (if x259001 = ((rd_T68 x56 x58).f1) then ((slices_Index_2_int64_2_int64.f k x6 x259002 ((rd_T68 x56 x58).f2)).bind fun t266 => (if t266 < 0 then (if x6.length < 8796093022208 then (if x253003.length < 5864062014805 then (impl_MeetGrammars.l2 k (x6 ++ [(⟨x259002, (rd_T68 x56 x58).f2⟩ : S73)]) x8 x44 x45 x46 x56 x57 (wrap64 (x58 + 1)) x245000 x245001 x245002 x245003 x246000 x246001 x246002 x246003 x253000 x253001 (x253003 ++ [(⟨x8, x259001, (x6.length : Int)⟩ : S68)]) x259000 x259001 x259002) else (none)) else (none)) else (if x253003.length < 5864062014805 then (impl_MeetGrammars.l2 k x6 x8 x44 x45 x46 x56 x57 (wrap64 (x58 + 1)) x245000 x245001 x245002 x245003 x246000 x246001 x246002 x246003 x253000 x253001 (x253003 ++ [(⟨x8, x259001, t266⟩ : S68)]) x259000 x259001 x259002) else (none)))) else (impl_MeetGrammars.l2 k x6 x8 x44 x45 x46 x56 x57 (wrap64 (x58 + 1)) x245000 x245001 x245002 x245003 x246000 x246001 x246002 x246003 x253000 x253001 x253003 x259000 x259001 x259002)) else (none)) else (none)) else (impl_MeetGrammars.l1 k x6 x8 x44 x45 (wrap64 (x46 + 1)) x245000 x245001 x245002 x245003 x246000 x246001 x246002 x246003 x253000 x253001 x253003)
def impl_MeetGrammars.l3 : Nat → List (S73) → Int → Int → Int → Int → List Int → List (S68) → Int → Int → List Int → List (S68) → Int → Int → List Int → List (S68) → Option (Int × Int × List Int × (List (S68)) × Int)
 | 0, _, _, _, _, _, _, _, _, _, _, _, _, _, _, _ => none
 | k + 1, x108, x109, x110, x245000, x245001, x245002, x245003, x246000, x246001, x246002, x246003, x253000, x253001, x253002, x253003 => if x110 < x109 then (if 0 ≤ x110 then (if x110 < (x108.length : Int) then ((impl_Grammar_isFinal.f k x245000 x245001 x245002 x245003 ((rd_T73 x108 x110).f0)).bind fun t278 => (if t278 = true then ((impl_Grammar_isFinal.f k x246000 x246001 x246002 x246003 ((rd_T73 x108 x110).f1)).bind fun t279 => (if t279 = true then (if x253002.length < 17592186044416 then (impl_MeetGrammars.l3 k x108 x109 (wrap64 (x110 + 1)) x245000 x245001 x245002 x245003 x246000 x246001 x246002 x246003 x253000 x253001 (x253002 ++ [x110]) x253003) else (none)) else (impl_MeetGrammars.l3 k x108 x109 (wrap64 (x110 + 1)) x245000 x245001 x245002 x245003 x246000 x246001 x246002 x246003 x253000 x253001 x253002 x253003))) else (impl_MeetGrammars.l3 k x108 x109 (wrap64 (x110 + 1)) x245000 x245001 x245002 x245003 x246000 x246001 x246002 x246003 x253000 x253001 x253002 x253003))) else (none)) else (none)) else (some (x253000, x253001, x253002, x253003, 0))
end
def impl_MeetGrammars.f (k : Nat) (a0_0 : Int) (a0_1 : Int) (l0_2 : List Int) (l0_3 : List (S68)) (a1_0 : Int) (a1_1 : Int) (l1_2 : List Int) (l1_3 : List (S68)) : Option (Int × Int × List Int × (List (S68)) × Int) := (impl_ValidGrammar.f k a0_0 a0_1 l0_2 l0_3).bind fun t247 => (if t247 = true then ((impl_ValidGrammar.f k a1_0 a1_1 l1_2 l1_3).bind fun t248 => (impl_MeetGrammars.j0 k (!t248) a0_0 a0_1 l0_2 l0_3 a1_0 a1_1 l1_2 l1_3)) else (impl_MeetGrammars.j0 k true a0_0 a0_1 l0_2 l0_3 a1_0 a1_1 l1_2 l1_3))
theorem impl_MeetGrammars.mono_l : ∀ k, (∀ y0 y1 y2 y3 y4 y5 y6 y7 y8, LeO (impl_MeetGrammars.j0 k y0 y1 y2 y3 y4 y5 y6 y7 y8) (impl_MeetGrammars.j0 (k + 1) y0 y1 y2 y3 y4 y5 y6 y7 y8)) ∧ (∀ y0 y1 y2 y3 y4 y5 y6 y7 y8 y9 y10 y11 y12, LeO (impl_MeetGrammars.l0 k y0 y1 y2 y3 y4 y5 y6 y7 y8 y9 y10 y11 y12) (impl_MeetGrammars.l0 (k + 1) y0 y1 y2 y3 y4 y5 y6 y7 y8 y9 y10 y11 y12)) ∧ (∀ y0 y1 y2 y3 y4 y5 y6 y7 y8 y9 y10 y11 y12 y13 y14 y15, LeO (impl_MeetGrammars.l1 k y0 y1 y2 y3 y4 y5 y6 y7 y8 y9 y10 y11 y12 y13 y14 y15) (impl_MeetGrammars.l1 (k + 1) y0 y1 y2 y3 y4 y5 y6 y7 y8 y9 y10 y11 y12 y13 y14 y15)) ∧ (∀ y0 y1 y2 y3 y4 y5 y6 y7 y8 y9 y10 y11 y12 y13 y14 y15 y16 y17 y18 y19 y20 y21, LeO (impl_MeetGrammars.l2 k y0 y1 y2 y3 y4 y5 y6 y7 y8 y9 y10 y11 y12 y13 y14 y15 y16 y17 y18 y19 y20 y21) (impl_MeetGrammars.l2 (k + 1) y0 y1 y2 y3 y4 y5 y6 y7 y8 y9 y10 y11 y12 y13 y14 y15 y16 y17 y18 y19 y20 y21)) ∧ (∀ y0 y1 y2 y3 y4 y5 y6 y7 y8 y9 y10 y11 y12 y13 y14, LeO (impl_MeetGrammars.l3 k y0 y1 y2 y3 y4 y5 y6 y7 y8 y9 y10 y11 y12 y13 y14) (impl_MeetGrammars.l3 (k + 1) y0 y1 y2 y3 y4 y5 y6 y7 y8 y9 y10 y11 y12 y13 y14))
 | 0 => ⟨fun _ _ _ _ _ _ _ _ _ r h => by simp [impl_MeetGrammars.j0] at h, fun _ _ _ _ _ _ _ _ _ _ _ _ _ r h => by simp [impl_MeetGrammars.l0] at h, fun _ _ _ _ _ _ _ _ _ _ _ _ _ _ _ _ r h => by simp [impl_MeetGrammars.l1] at h, fun _ _ _ _ _ _ _ _ _ _ _ _ _ _ _ _ _ _ _ _ _ _ r h => by simp [impl_MeetGrammars.l2] at h, fun _ _ _ _ _ _ _ _ _ _ _ _ _ _ _ r h => by simp [impl_MeetGrammars.l3] at h⟩
 | k + 1 => by
  obtain ⟨ih0, ih1, ih2, ih3, ih4⟩ := impl_MeetGrammars.mono_l k
  refine ⟨?_, ?_, ?_, ?_, ?_⟩
  ·intro y0 y1 y2 y3 y4 y5 y6 y7 y8
   unfold impl_MeetGrammars.j0
   repeat' first
   | (with_reducible exact ih0 _ _ _ _ _ _ _ _ _)
   | (with_reducible exact ih1 _ _ _ _ _ _ _ _ _ _ _ _ _)
   | (with_reducible exact ih2 _ _ _ _ _ _ _ _ _ _ _ _ _ _ _ _)
   | (with_reducible exact ih3 _ _ _ _ _ _ _ _ _ _ _ _ _ _ _ _ _ _ _ _ _ _)
   | (with_reducible exact ih4 _ _ _ _ _ _ _ _ _ _ _ _ _ _ _)
   | (with_reducible exact impl_Grammar_arcsOf.mono _ _ _ _ _ _)
   | (with_reducible exact impl_Grammar_isFinal.mono _ _ _ _ _ _)
   | (with_reducible exact impl_ValidGrammar.mono _ _ _ _ _)
   | (with_reducible exact slices_Index_2_int64_2_int64.mono _ _ _ _)
   | (with_reducible exact LeO.refl _)
   | (with_reducible exact LeO.none _)
   | (with_reducible refine LeO.ite ?_ ?_)
   | (with_reducible refine LeO.bind ?_ (fun _ => ?_))
   | exact ih0 _ _ _ _ _ _ _ _ _
   | exact ih1 _ _ _ _ _ _ _ _ _ _ _ _ _
   | exact ih2 _ _ _ _ _ _ _ _ _ _ _ _ _ _ _ _
   | exact ih3 _ _ _ _ _ _ _ _ _ _ _ _ _ _ _ _ _ _ _ _ _ _
   | exact ih4 _ _ _ _ _ _ _ _ _ _ _ _ _ _ _
   | exact impl_Grammar_arcsOf.mono _ _ _ _ _ _
   | exact impl_Grammar_isFinal.mono _ _ _ _ _ _
   | exact impl_ValidGrammar.mono _ _ _ _ _
   | exact slices_Index_2_int64_2_int64.mono _ _ _ _
   | exact LeO.none _
   | refine LeO.ite ?_ ?_
   | refine LeO.bind ?_ (fun _ => ?_)
  ·intro y0 y1 y2 y3 y4 y5 y6 y7 y8 y9 y10 y11 y12
   unfold impl_MeetGrammars.l0
   repeat' first
   | (with_reducible exact ih0 _ _ _ _ _ _ _ _ _)
   | (with_reducible exact ih1 _ _ _ _ _ _ _ _ _ _ _ _ _)
   | (with_reducible exact ih2 _ _ _ _ _ _ _ _ _ _ _ _ _ _ _ _)
   | (with_reducible exact ih3 _ _ _ _ _ _ _ _ _ _ _ _ _ _ _ _ _ _ _ _ _ _)
   | (with_reducible exact ih4 _ _ _ _ _ _ _ _ _ _ _ _ _ _ _)
   | (with_reducible exact impl_Grammar_arcsOf.mono _ _ _ _ _ _)
   | (with_reducible exact impl_Grammar_isFinal.mono _ _ _ _ _ _)
   | (with_reducible exact impl_ValidGrammar.mono _ _ _ _ _)
   | (with_reducible exact slices_Index_2_int64_2_int64.mono _ _ _ _)
   | (with_reducible exact LeO.refl _)
   | (with_reducible exact LeO.none _)
   | (with_reducible refine LeO.ite ?_ ?_)
   | (with_reducible refine LeO.bind ?_ (fun _ => ?_))
   | exact ih0 _ _ _ _ _ _ _ _ _
   | exact ih1 _ _ _ _ _ _ _ _ _ _ _ _ _
   | exact ih2 _ _ _ _ _ _ _ _ _ _ _ _ _ _ _ _
   | exact ih3 _ _ _ _ _ _ _ _ _ _ _ _ _ _ _ _ _ _ _ _ _ _
   | exact ih4 _ _ _ _ _ _ _ _ _ _ _ _ _ _ _
   | exact impl_Grammar_arcsOf.mono _ _ _ _ _ _
   | exact impl_Grammar_isFinal.mono _ _ _ _ _ _
   | exact impl_ValidGrammar.mono _ _ _ _ _
   | exact slices_Index_2_int64_2_int64.mono _ _ _ _
   | exact LeO.none _
   | refine LeO.ite ?_ ?_
   | refine LeO.bind ?_ (fun _ => ?_)
  ·intro y0 y1 y2 y3 y4 y5 y6 y7 y8 y9 y10 y11 y12 y13 y14 y15
   unfold impl_MeetGrammars.l1
   repeat' first
   | (with_reducible exact ih0 _ _ _ _ _ _ _ _ _)
   | (with_reducible exact ih1 _ _ _ _ _ _ _ _ _ _ _ _ _)
   | (with_reducible exact ih2 _ _ _ _ _ _ _ _ _ _ _ _ _ _ _ _)
   | (with_reducible exact ih3 _ _ _ _ _ _ _ _ _ _ _ _ _ _ _ _ _ _ _ _ _ _)
   | (with_reducible exact ih4 _ _ _ _ _ _ _ _ _ _ _ _ _ _ _)
   | (with_reducible exact impl_Grammar_arcsOf.mono _ _ _ _ _ _)
   | (with_reducible exact impl_Grammar_isFinal.mono _ _ _ _ _ _)
   | (with_reducible exact impl_ValidGrammar.mono _ _ _ _ _)
   | (with_reducible exact slices_Index_2_int64_2_int64.mono _ _ _ _)
   | (with_reducible exact LeO.refl _)
   | (with_reducible exact LeO.none _)
   | (with_reducible refine LeO.ite ?_ ?_)
   | (with_reducible refine LeO.bind ?_ (fun _ => ?_))
   | exact ih0 _ _ _ _ _ _ _ _ _
   | exact ih1 _ _ _ _ _ _ _ _ _ _ _ _ _
   | exact ih2 _ _ _ _ _ _ _ _ _ _ _ _ _ _ _ _
   | exact ih3 _ _ _ _ _ _ _ _ _ _ _ _ _ _ _ _ _ _ _ _ _ _
   | exact ih4 _ _ _ _ _ _ _ _ _ _ _ _ _ _ _
   | exact impl_Grammar_arcsOf.mono _ _ _ _ _ _
   | exact impl_Grammar_isFinal.mono _ _ _ _ _ _
   | exact impl_ValidGrammar.mono _ _ _ _ _
   | exact slices_Index_2_int64_2_int64.mono _ _ _ _
   | exact LeO.none _
   | refine LeO.ite ?_ ?_
   | refine LeO.bind ?_ (fun _ => ?_)
  ·intro y0 y1 y2 y3 y4 y5 y6 y7 y8 y9 y10 y11 y12 y13 y14 y15 y16 y17 y18 y19 y20 y21
   unfold impl_MeetGrammars.l2
   repeat' first
   | (with_reducible exact ih0 _ _ _ _ _ _ _ _ _)
   | (with_reducible exact ih1 _ _ _ _ _ _ _ _ _ _ _ _ _)
   | (with_reducible exact ih2 _ _ _ _ _ _ _ _ _ _ _ _ _ _ _ _)
   | (with_reducible exact ih3 _ _ _ _ _ _ _ _ _ _ _ _ _ _ _ _ _ _ _ _ _ _)
   | (with_reducible exact ih4 _ _ _ _ _ _ _ _ _ _ _ _ _ _ _)
   | (with_reducible exact impl_Grammar_arcsOf.mono _ _ _ _ _ _)
   | (with_reducible exact impl_Grammar_isFinal.mono _ _ _ _ _ _)
   | (with_reducible exact impl_ValidGrammar.mono _ _ _ _ _)
   | (with_reducible exact slices_Index_2_int64_2_int64.mono _ _ _ _)
   | (with_reducible exact LeO.refl _)
   | (with_reducible exact LeO.none _)
   | (with_reducible refine LeO.ite ?_ ?_)
   | (with_reducible refine LeO.bind ?_ (fun _ => ?_))
   | exact ih0 _ _ _ _ _ _ _ _ _
   | exact ih1 _ _ _ _ _ _ _ _ _ _ _ _ _
   | exact ih2 _ _ _ _ _ _ _ _ _ _ _ _ _ _ _ _
   | exact ih3 _ _ _ _ _ _ _ _ _ _ _ _ _ _ _ _ _ _ _ _ _ _
   | exact ih4 _ _ _ _ _ _ _ _ _ _ _ _ _ _ _
   | exact impl_Grammar_arcsOf.mono _ _ _ _ _ _
   | exact impl_Grammar_isFinal.mono _ _ _ _ _ _
   | exact impl_ValidGrammar.mono _ _ _ _ _
   | exact slices_Index_2_int64_2_int64.mono _ _ _ _
   | exact LeO.none _
   | refine LeO.ite ?_ ?_
   | refine LeO.bind ?_ (fun _ => ?_)
  ·intro y0 y1 y2 y3 y4 y5 y6 y7 y8 y9 y10 y11 y12 y13 y14
   unfold impl_MeetGrammars.l3
   repeat' first
   | (with_reducible exact ih0 _ _ _ _ _ _ _ _ _)
   | (with_reducible exact ih1 _ _ _ _ _ _ _ _ _ _ _ _ _)
   | (with_reducible exact ih2 _ _ _ _ _ _ _ _ _ _ _ _ _ _ _ _)
   | (with_reducible exact ih3 _ _ _ _ _ _ _ _ _ _ _ _ _ _ _ _ _ _ _ _ _ _)
   | (with_reducible exact ih4 _ _ _ _ _ _ _ _ _ _ _ _ _ _ _)
   | (with_reducible exact impl_Grammar_arcsOf.mono _ _ _ _ _ _)
   | (with_reducible exact impl_Grammar_isFinal.mono _ _ _ _ _ _)
   | (with_reducible exact impl_ValidGrammar.mono _ _ _ _ _)
   | (with_reducible exact slices_Index_2_int64_2_int64.mono _ _ _ _)
   | (with_reducible exact LeO.refl _)
   | (with_reducible exact LeO.none _)
   | (with_reducible refine LeO.ite ?_ ?_)
   | (with_reducible refine LeO.bind ?_ (fun _ => ?_))
   | exact ih0 _ _ _ _ _ _ _ _ _
   | exact ih1 _ _ _ _ _ _ _ _ _ _ _ _ _
   | exact ih2 _ _ _ _ _ _ _ _ _ _ _ _ _ _ _ _
   | exact ih3 _ _ _ _ _ _ _ _ _ _ _ _ _ _ _ _ _ _ _ _ _ _
   | exact ih4 _ _ _ _ _ _ _ _ _ _ _ _ _ _ _
   | exact impl_Grammar_arcsOf.mono _ _ _ _ _ _
   | exact impl_Grammar_isFinal.mono _ _ _ _ _ _
   | exact impl_ValidGrammar.mono _ _ _ _ _
   | exact slices_Index_2_int64_2_int64.mono _ _ _ _
   | exact LeO.none _
   | refine LeO.ite ?_ ?_
   | refine LeO.bind ?_ (fun _ => ?_)
theorem impl_MeetGrammars.mono : ∀ a0 a1 a2 a3 a4 a5 a6 a7 k, LeO (impl_MeetGrammars.f k a0 a1 a2 a3 a4 a5 a6 a7) (impl_MeetGrammars.f (k + 1) a0 a1 a2 a3 a4 a5 a6 a7) := by
 intro a0 a1 a2 a3 a4 a5 a6 a7 k
 obtain ⟨ih0, ih1, ih2, ih3, ih4⟩ := impl_MeetGrammars.mono_l k
 unfold impl_MeetGrammars.f
 repeat' first
   | (with_reducible exact ih0 _ _ _ _ _ _ _ _ _)
   | (with_reducible exact ih1 _ _ _ _ _ _ _ _ _ _ _ _ _)
   | (with_reducible exact ih2 _ _ _ _ _ _ _ _ _ _ _ _ _ _ _ _)
   | (with_reducible exact ih3 _ _ _ _ _ _ _ _ _ _ _ _ _ _ _ _ _ _ _ _ _ _)
   | (with_reducible exact ih4 _ _ _ _ _ _ _ _ _ _ _ _ _ _ _)
   | (with_reducible exact impl_Grammar_arcsOf.mono _ _ _ _ _ _)
   | (with_reducible exact impl_Grammar_isFinal.mono _ _ _ _ _ _)
   | (with_reducible exact impl_ValidGrammar.mono _ _ _ _ _)
   | (with_reducible exact slices_Index_2_int64_2_int64.mono _ _ _ _)
   | (with_reducible exact LeO.refl _)
   | (with_reducible exact LeO.none _)
   | (with_reducible refine LeO.ite ?_ ?_)
   | (with_reducible refine LeO.bind ?_ (fun _ => ?_))
   | exact ih0 _ _ _ _ _ _ _ _ _
   | exact ih1 _ _ _ _ _ _ _ _ _ _ _ _ _
   | exact ih2 _ _ _ _ _ _ _ _ _ _ _ _ _ _ _ _
   | exact ih3 _ _ _ _ _ _ _ _ _ _ _ _ _ _ _ _ _ _ _ _ _ _
   | exact ih4 _ _ _ _ _ _ _ _ _ _ _ _ _ _ _
   | exact impl_Grammar_arcsOf.mono _ _ _ _ _ _
   | exact impl_Grammar_isFinal.mono _ _ _ _ _ _
   | exact impl_ValidGrammar.mono _ _ _ _ _
   | exact slices_Index_2_int64_2_int64.mono _ _ _ _
   | exact LeO.none _
   | refine LeO.ite ?_ ?_
   | refine LeO.bind ?_ (fun _ => ?_)
def impl_MeetGrammars.T8 : Bool × List (List Nat × List Nat) := (true, [([], []), ([], []), ([], []), ([1, 2], [1, 2]), ([3], [3]), ([4], [4]), ([0, 5], [0, 5]), ([6], [6]), ([], [])])
def impl_MeetGrammars.B8 : List Nat := [0, 0, 0, 6, 14, 30, 63, 127, 0]
theorem impl_MeetGrammars.tab8 : rtab .any (opsOf Try.f18 8) = impl_MeetGrammars.T8 := by kernel_rfl
theorem impl_MeetGrammars.bits8 : waitsOk impl_MeetGrammars.T8.2 impl_MeetGrammars.B8 = true := by kernel_rfl
def impl_MeetGrammars.T11 : Bool × List (List Nat × List Nat) := (true, [([], []), ([], []), ([], []), ([1, 2], [1, 2]), ([3], [3]), ([4], [4]), ([0, 5], [0, 5]), ([6], [6]), ([], [])])
def impl_MeetGrammars.B11 : List Nat := [0, 0, 0, 6, 14, 30, 63, 127, 0]
theorem impl_MeetGrammars.tab11 : rtab .any (opsOf Try.f18 11) = impl_MeetGrammars.T11 := by kernel_rfl
theorem impl_MeetGrammars.bits11 : waitsOk impl_MeetGrammars.T11.2 impl_MeetGrammars.B11 = true := by kernel_rfl
set_option maxHeartbeats 8000000 in
set_option maxRecDepth 100000 in
theorem impl_MeetGrammars.calls (k : Nat) (a0_0 : Int) (a0_1 : Int) (A0_2 : Option Addr) (c0_2 : Nat) (l0_2 : List Int) (A0_3 : Option Addr) (c0_3 : Nat) (l0_3 : List (S68)) (a1_0 : Int) (a1_1 : Int) (A1_2 : Option Addr) (c1_2 : Nat) (l1_2 : List Int) (A1_3 : Option Addr) (c1_3 : Nat) (l1_3 : List (S68)) (r1 : Int) (r2 : Int) (r3 : List Int) (r4 : List (S68)) (r5 : Int) (w : World) (hr0_2 : Kd.C (Kd.int .i64) w A0_2 l0_2.length l0_2) (hc0_2 : l0_2.length ≤ c0_2) (hr0_3 : Kd.C k68 w A0_3 l0_3.length l0_3) (hc0_3 : l0_3.length ≤ c0_3) (hr1_2 : Kd.C (Kd.int .i64) w A1_2 l1_2.length l1_2) (hc1_2 : l1_2.length ≤ c1_2) (hr1_3 : Kd.C k68 w A1_3 l1_3.length l1_3) (hc1_3 : l1_3.length ≤ c1_3) (h : impl_MeetGrammars.f k a0_0 a0_1 l0_2 l0_3 a1_0 a1_1 l1_2 l1_3 = some (r1, r2, r3, r4, r5)) :
  Calls Try.prog 18 #[.agg #[.int .i64 a0_0, .int .i64 a0_1, .slice A0_2 l0_2.length c0_2, .slice A0_3 l0_3.length c0_3], .agg #[.int .i64 a1_0, .int .i64 a1_1, .slice A1_2 l1_2.length c1_2, .slice A1_3 l1_3.length c1_3]] w fun e w' => ∃ v2_ v3_ : Value, e = .returned (.tuple #[.agg #[.int .i64 r1, .int .i64 r2, v2_, v3_], .int .i64 r5]) ∧ Kd.R (Kd.int .i64) 2 w' w.heap.size (fun _ => True) v2_ r3 ∧ Kd.R k68 68 w' w.heap.size (fun _ => True) v3_ r4 ∧ Below w.heap.size w w' := by
 have hu39 := Try.underlying39
 have hu73 := Try.underlying73
 have hu68 := Try.underlying68
 have HR0_2 := Aside0.mk hr0_2
 have HC0_2 := Aside0.mk hc0_2
 clear hr0_2 hc0_2
 have HR0_3 := Aside0.mk hr0_3
 have HC0_3 := Aside0.mk hc0_3
 clear hr0_3 hc0_3
 have HR1_2 := Aside0.mk hr1_2
 have HC1_2 := Aside0.mk hc1_2
 clear hr1_2 hc1_2
 have HR1_3 := Aside0.mk hr1_3
 have HC1_3 := Aside0.mk hc1_3
 clear hr1_3 hc1_3
 have HB := Aside0.mk (Below.refl w.heap.size w)
 have H : ((impl_ValidGrammar.f k a0_0 a0_1 l0_2 l0_3).bind fun t247 => (if t247 = true then ((impl_ValidGrammar.f k a1_0 a1_1 l1_2 l1_3).bind fun t248 => (impl_MeetGrammars.j0 k (!t248) a0_0 a0_1 l0_2 l0_3 a1_0 a1_1 l1_2 l1_3)) else (impl_MeetGrammars.j0 k true a0_0 a0_1 l0_2 l0_3 a1_0 a1_1 l1_2 l1_3))) = some (r1, r2, r3, r4, r5) := h
 clear h
 have HC3 := Aside0.mk H
 clear H
 go_enter Try.func18, Try.ntmps18
 go_upto_region 1 with (first | ((with_reducible refine gate_dst (N := 2) rfl ?_); (try (refine gate_guard (by rfl) ?_; dsimp only)); refine bE ?hg (N := 2) ?hd (cs := #[.int .i64 a0_0, .int .i64 a0_1, .slice A0_2 l0_2.length c0_2, .slice A0_3 l0_3.length c0_3]) (t := 39) ?hr ?_; (case hd => rfl); (case hg => rfl); (case hr => first | (go_simp; done) | (go_simp; rfl)); intro gb244 hg w4 hbox hb; have z_ := bX hb (hQ HB); have n0_ := Aside0.mk (bP z_ hb); have n1_ := Aside0.mk (hbox); have n2_ := Aside0.mk ((by rw [hg]; exact (bZ z_) : w.heap.size ≤ gb244)); have n3_ := Aside0.mk ((by rw [hg]; exact (bZ z_) : w.heap.size ≤ gb244)); clear HB; have HB := n0_; have BK244 := n1_; have GW244 := n2_; have GE244 := n3_; clear z_ n0_ n1_ n2_ n3_; clear hb hbox hg) | ((with_reducible refine gate_dst (N := 3) rfl ?_); (try (refine gate_guard (by rfl) ?_; dsimp only)); refine bE ?hg (N := 3) ?hd (cs := #[.int .i64 a1_0, .int .i64 a1_1, .slice A1_2 l1_2.length c1_2, .slice A1_3 l1_3.length c1_3]) (t := 39) ?hr ?_; (case hd => rfl); (case hg => rfl); (case hr => first | (go_simp; done) | (go_simp; rfl)); intro gb245 hg w5 hbox hb; have z_ := bX hb (by repeat (first | (with_reducible first | exact HB.out | apply bA | apply bN | apply bD | refine bS ?_ GE244.out) | exact HB.out)); have n0_ := Aside0.mk (kB (kQ BK244) hb); have n1_ := Aside0.mk (bP z_ hb); have n2_ := Aside0.mk (hbox); have n3_ := Aside0.mk ((by rw [hg]; exact (bZ z_) : w.heap.size ≤ gb245)); have n4_ := Aside0.mk ((by rw [hg]; exact (bZ z_) : w.heap.size ≤ gb245)); have n5_ := Aside0.mk ((by rw [hg]; exact Nat.ne_of_lt (kL (kQ BK244)) : gb244 ≠ gb245)); have n6_ := Aside0.mk ((by rw [hg]; exact Nat.ne_of_gt (kL (kQ BK244)) : gb245 ≠ gb244)); clear BK244; clear HB; have BK244 := n0_; have HB := n1_; have BK245 := n2_; have GW245 := n3_; have GE245 := n4_; have NB244_245 := n5_; have NB245_244 := n6_; clear z_ n0_ n1_ n2_ n3_ n4_ n5_ n6_; clear hb hbox hg) | ((with_reducible refine gate_dst (N := 4) rfl ?_); (try (refine gate_guard (by rfl) ?_; dsimp only)); refine bE ?hg (N := 4) ?hd (cs := #[.int .i64 0, .int .i64 0, .slice none 0 0, .slice none 0 0]) (t := 39) ?hr ?_; (case hd => rfl); (case hg => rfl); (case hr => first | (go_simp; done) | (go_simp; rfl)); intro gb246 hg w6 hbox hb; have z_ := bX hb (by repeat (first | (with_reducible first | exact HB.out | apply bA | apply bN | apply bD | refine bS ?_ GE244.out | refine bS ?_ GE245.out) | exact HB.out)); have n0_ := Aside0.mk (kB (kQ BK244) hb); have n1_ := Aside0.mk (kB (kQ BK245) hb); have n2_ := Aside0.mk (bP z_ hb); have n3_ := Aside0.mk (hbox); have n4_ := Aside0.mk ((by rw [hg]; exact (bZ z_) : w.heap.size ≤ gb246)); have n5_ := Aside0.mk ((by rw [hg]; exact (bZ z_) : w.heap.size ≤ gb246)); have n6_ := Aside0.mk ((by rw [hg]; exact Nat.ne_of_lt (kL (kQ BK244)) : gb244 ≠ gb246)); have n7_ := Aside0.mk ((by rw [hg]; exact Nat.ne_of_gt (kL (kQ BK244)) : gb246 ≠ gb244)); have n8_ := Aside0.mk ((by rw [hg]; exact Nat.ne_of_lt (kL (kQ BK245)) : gb245 ≠ gb246)); have n9_ := Aside0.mk ((by rw [hg]; exact Nat.ne_of_gt (kL (kQ BK245)) : gb246 ≠ gb245)); clear BK244; clear BK245; clear HB; have BK244 := n0_; have BK245 := n1_; have HB := n2_; have BK246 := n3_; have GW246 := n4_; have GE246 := n5_; have NB244_246 := n6_; have NB246_244 := n7_; have NB245_246 := n8_; have NB246_245 := n9_; clear z_ n0_ n1_ n2_ n3_ n4_ n5_ n6_ n7_ n8_ n9_; clear hb hbox hg))
 (try simp only [Act.put, sI, sZ, sS])
 go_cut [24] (fun v24 wc => ∃ (kq : Nat) (x24_2 : Bool), v24 = .bool x24_2 ∧ Aside0 (impl_MeetGrammars.j0 kq x24_2 a0_0 a0_1 l0_2 l0_3 a1_0 a1_1 l1_2 l1_3 = some (r1, r2, r3, r4, r5)) ∧ Aside0 (kq ≤ k) ∧ Aside0 (wc.heap[gb244]? = some (.cells #[.int .i64 a0_0, .int .i64 a0_1, (.slice A0_2 l0_2.length c0_2), (.slice A0_3 l0_3.length c0_3)] 39 (0, 0))) ∧ Aside0 (wc.heap[gb245]? = some (.cells #[.int .i64 a1_0, .int .i64 a1_1, (.slice A1_2 l1_2.length c1_2), (.slice A1_3 l1_3.length c1_3)] 39 (0, 0))) ∧ Aside0 (wc.heap[gb246]? = some (.cells #[.int .i64 0, .int .i64 0, (.slice none 0 0), (.slice none 0 0)] 39 (0, 0))) ∧ Aside0 (Below w.heap.size w wc))
 case first =>
  have H := HC3.out
  clear HC3
  replace H := Option.bind_eq_some_iff.mp H
  obtain ⟨t247, A70, H⟩ := H
  replace H : (if t247 = true then ((impl_ValidGrammar.f k a1_0 a1_1 l1_2 l1_3).bind fun t248 => (impl_MeetGrammars.j0 k (!t248) a0_0 a0_1 l0_2 l0_3 a1_0 a1_1 l1_2 l1_3)) else (impl_MeetGrammars.j0 k true a0_0 a0_1 l0_2 l0_3 a1_0 a1_1 l1_2 l1_3)) = some (r1, r2, r3, r4, r5) := H
  have A7 := Aside0.mk A70
  clear A70
  by_cases c8 : t247 = true
  ·subst c8
   have H1 : ((impl_ValidGrammar.f k a1_0 a1_1 l1_2 l1_3).bind fun t248 => (impl_MeetGrammars.j0 k (!t248) a0_0 a0_1 l0_2 l0_3 a1_0 a1_1 l1_2 l1_3)) = some (r1, r2, r3, r4, r5) := by rw [if_pos rfl] at H; exact H
   clear H
   have H := H1
   clear H1
   replace H := Option.bind_eq_some_iff.mp H
   obtain ⟨t248, A90, H⟩ := H
   replace H : (impl_MeetGrammars.j0 k (!t248) a0_0 a0_1 l0_2 l0_3 a1_0 a1_1 l1_2 l1_3) = some (r1, r2, r3, r4, r5) := H
   have A9 := Aside0.mk A90
   clear A90
   have H' := Aside0.mk H
   clear H
   have hnb10 := NB244_245.out
   have hnc10 := NB245_244.out
   have hnb11 := NB244_246.out
   have hnc11 := NB246_244.out
   obtain ⟨hcz12_0, hcz12_1, hcz12_2, hcz12_3⟩ := cZ4 BK244.out
   obtain ⟨hfz12_0, hfz12_1, hfz12_2, hfz12_3⟩ := fZ4 BK244.out
   go_wp2_with (first | ((with_reducible refine gC (f := 41) rfl ?_); refine goesL_ (some 18) rfl rfl Try.func41 (by kernel_rfl) rfl #[.agg #[.int .i64 a0_0, .int .i64 a0_1, .slice A0_2 l0_2.length c0_2, .slice A0_3 l0_3.length c0_3]] rfl lQ ?_; (with_reducible refine (impl_ValidGrammar.calls k a0_0 a0_1 _ _ l0_2 _ _ l0_3 true _ ?side1 ?side2 ?side3 ?side4 A7.out).mono ?_); (case side1 => exact cP (cB HR0_2.out HB.out)); (case side2 => exact HC0_2.out); (case side3 => exact cP (cB HR0_3.out HB.out)); (case side4 => exact HC0_3.out); rintro e w13 ⟨rfl, hb⟩; refine ⟨_, rfl, ?_⟩; have n0_ := Aside0.mk (kB (kQ BK244) hb); have n1_ := Aside0.mk (kB (kQ BK245) hb); have n2_ := Aside0.mk (kB (kQ BK246) hb); have n3_ := Aside0.mk (bP (by repeat (first | (with_reducible first | exact HB.out | apply bA | apply bN | apply bD | refine bS ?_ GE244.out | refine bS ?_ GE245.out | refine bS ?_ GE246.out) | exact HB.out)) hb); clear BK244; clear BK245; clear BK246; clear HB; have BK244 := n0_; have BK245 := n1_; have BK246 := n2_; have HB := n3_; clear n0_ n1_ n2_ n3_; (try clear hb); (try clear hb2); (try clear hk); (try clear hi); have hnb14 := NB245_246.out; have hnc14 := NB246_245.out; obtain ⟨hcz15_0, hcz15_1, hcz15_2, hcz15_3⟩ := cZ4 BK245.out; obtain ⟨hfz15_0, hfz15_1, hfz15_2, hfz15_3⟩ := fZ4 BK245.out) | (go_at_call 41; (with_reducible refine (impl_ValidGrammar.calls k a1_0 a1_1 _ _ l1_2 _ _ l1_3 t248 _ ?side1 ?side2 ?side3 ?side4 A9.out).mono ?_); (case side1 => exact cP (cB HR1_2.out HB.out)); (case side2 => exact HC1_2.out); (case side3 => exact cP (cB HR1_3.out HB.out)); (case side4 => exact HC1_3.out); rintro e w16 ⟨rfl, hb⟩; have n0_ := Aside0.mk (kB (kQ BK244) hb); have n1_ := Aside0.mk (kB (kQ BK245) hb); have n2_ := Aside0.mk (kB (kQ BK246) hb); have n3_ := Aside0.mk (bP (by repeat (first | (with_reducible first | exact HB.out | apply bA | apply bN | apply bD | refine bS ?_ GE244.out | refine bS ?_ GE245.out | refine bS ?_ GE246.out) | exact HB.out)) hb); clear BK244; clear BK245; clear BK246; clear HB; have BK244 := n0_; have BK245 := n1_; have BK246 := n2_; have HB := n3_; clear n0_ n1_ n2_ n3_; (try clear hb); (try clear hb2); (try clear hk); (try clear hi)))
   go_meet
   case rel => exact ⟨_, (!t248), eT, H', ⟨by first | omega | exact Nat.le_refl _⟩, ⟨kQ BK244⟩, ⟨kQ BK245⟩, ⟨kQ BK246⟩, ⟨by repeat (first | (with_reducible first | exact HB.out | apply bA | apply bN | apply bD | refine bS ?_ GE244.out | refine bS ?_ GE245.out | refine bS ?_ GE246.out) | exact HB.out)⟩⟩
  ·replace c8 := Bool.eq_false_iff.mpr c8
   subst c8
   have H1 : (impl_MeetGrammars.j0 k true a0_0 a0_1 l0_2 l0_3 a1_0 a1_1 l1_2 l1_3) = some (r1, r2, r3, r4, r5) := by rw [if_neg (show ¬ (false = true) by decide)] at H; exact H
   clear H
   have H := H1
   clear H1
   have H' := Aside0.mk H
   clear H
   have hnb17 := NB244_245.out
   have hnc17 := NB245_244.out
   have hnb18 := NB244_246.out
   have hnc18 := NB246_244.out
   obtain ⟨hcz19_0, hcz19_1, hcz19_2, hcz19_3⟩ := cZ4 BK244.out
   obtain ⟨hfz19_0, hfz19_1, hfz19_2, hfz19_3⟩ := fZ4 BK244.out
   go_wp2_with (first | ((with_reducible refine gC (f := 41) rfl ?_); refine goesL_ (some 18) rfl rfl Try.func41 (by kernel_rfl) rfl #[.agg #[.int .i64 a0_0, .int .i64 a0_1, .slice A0_2 l0_2.length c0_2, .slice A0_3 l0_3.length c0_3]] rfl lQ ?_; (with_reducible refine (impl_ValidGrammar.calls k a0_0 a0_1 _ _ l0_2 _ _ l0_3 false _ ?side1 ?side2 ?side3 ?side4 A7.out).mono ?_); (case side1 => exact cP (cB HR0_2.out HB.out)); (case side2 => exact HC0_2.out); (case side3 => exact cP (cB HR0_3.out HB.out)); (case side4 => exact HC0_3.out); rintro e w20 ⟨rfl, hb⟩; refine ⟨_, rfl, ?_⟩; have n0_ := Aside0.mk (kB (kQ BK244) hb); have n1_ := Aside0.mk (kB (kQ BK245) hb); have n2_ := Aside0.mk (kB (kQ BK246) hb); have n3_ := Aside0.mk (bP (by repeat (first | (with_reducible first | exact HB.out | apply bA | apply bN | apply bD | refine bS ?_ GE244.out | refine bS ?_ GE245.out | refine bS ?_ GE246.out) | exact HB.out)) hb); clear BK244; clear BK245; clear BK246; clear HB; have BK244 := n0_; have BK245 := n1_; have BK246 := n2_; have HB := n3_; clear n0_ n1_ n2_ n3_; (try clear hb); (try clear hb2); (try clear hk); (try clear hi)))
   go_meet
   case rel => exact ⟨_, (true), eT, H', ⟨by first | omega | exact Nat.le_refl _⟩, ⟨kQ BK244⟩, ⟨kQ BK245⟩, ⟨kQ BK246⟩, ⟨by repeat (first | (with_reducible first | exact HB.out | apply bA | apply bN | apply bD | refine bS ?_ GE244.out | refine bS ?_ GE245.out | refine bS ?_ GE246.out) | exact HB.out)⟩⟩
 case rest =>
  clear HC3
  try clear c1
  try clear p2
  try clear c4
  try clear c8
  try clear c10
  try clear c11
  try clear c14
  try clear c17
  try clear c18
  try clear hcz12_0
  try clear hcz12_1
  try clear hcz12_2
  try clear hcz12_3
  try clear hcz15_0
  try clear hcz15_1
  try clear hcz15_2
  try clear hcz15_3
  try clear hcz19_0
  try clear hcz19_1
  try clear hcz19_2
  try clear hcz19_3
  try clear hfz12_0
  try clear hfz12_1
  try clear hfz12_2
  try clear hfz12_3
  try clear hfz15_0
  try clear hfz15_1
  try clear hfz15_2
  try clear hfz15_3
  try clear hfz19_0
  try clear hfz19_1
  try clear hfz19_2
  try clear hfz19_3
  obtain ⟨kq, x24_2, rfl, HA, HJ2, BK244, BK245, BK246, HB⟩ := hcut
  cases kq with
  | zero => exact absurd HA.out (by simp [impl_MeetGrammars.j0])
  | succ kj2 =>
   have H := HA.out
   clear HA
   simp only [impl_MeetGrammars.j0] at H
   by_cases c21 : x24_2 = true
   ·subst c21
    have H1 : (some (0, 0, ([] : List Int), ([] : List (S68)), 1)) = some (r1, r2, r3, r4, r5) := by rw [if_pos rfl] at H; exact H
    clear H
    have H := H1
    clear H1
    simp only [Option.some.injEq, Prod.mk.injEq] at H
    obtain ⟨rfl, rfl, rfl, rfl, rfl⟩ := H
    have hnb22 := NB246_244.out
    have hnc22 := NB244_246.out
    have hnb23 := NB246_245.out
    have hnc23 := NB245_246.out
    obtain ⟨hcz24_0, hcz24_1, hcz24_2, hcz24_3⟩ := cZ4 BK246.out
    obtain ⟨hfz24_0, hfz24_1, hfz24_2, hfz24_3⟩ := fZ4 BK246.out
    go_wp2
    refine bodyPost_ret (results_ct rfl _ _ gb246 39 #[.int .i64 0, .int .i64 0, .slice none 0 0, .slice none 0 0] (0, 0) _ rfl (by (with_reducible repeat (first | refine kN ?_ _ | refine kD ?_ | refine kA ?_ _)); refine blk_put (cs := #[.int .i64 0, .int .i64 0, .slice none 0 0, .slice none 0 0]) ?_ 3 _ rfl; (with_reducible repeat (first | refine kN ?_ _ | refine kD ?_ | refine kA ?_ _)); refine blk_put (cs := #[.int .i64 0, .int .i64 0, .slice none 0 0, .slice none 0 0]) ?_ 2 _ rfl; (with_reducible repeat (first | refine kN ?_ _ | refine kD ?_ | refine kA ?_ _)); refine blk_put (cs := #[.int .i64 0, .int .i64 0, .slice none 0 0, .slice none 0 0]) ?_ 1 _ rfl; (with_reducible repeat (first | refine kN ?_ _ | refine kD ?_ | refine kA ?_ _)); refine blk_put (cs := #[.int .i64 0, .int .i64 0, .slice none 0 0, .slice none 0 0]) ?_ 0 _ rfl; (with_reducible repeat (first | refine kN ?_ _ | refine kD ?_ | refine kA ?_ _)); exact BK246.out) Try.underlying39 rfl (by kernel_rfl)) rfl ?_
    exact ⟨_, _, by first | rfl | (simp [errW_none, errW_some] <;> rfl) | (simp [*, errW_none, errW_some] <;> rfl), by first | exact Kd.R_nil _ _ _ _ _ | exact Kd.N_nil _ _ _ _ _ | exact Kd.V_nil _ _ _ _ _ | exact Kd.Q_nil _ _ _ _ _ | exact Kd.S_nil _ _ _ _ _, by first | exact Kd.R_nil _ _ _ _ _ | exact Kd.N_nil _ _ _ _ _ | exact Kd.V_nil _ _ _ _ _ | exact Kd.Q_nil _ _ _ _ _ | exact Kd.S_nil _ _ _ _ _, by repeat (first | (with_reducible first | exact HB.out | apply bA | apply bN | apply bD | refine bS ?_ GE244.out | refine bS ?_ GE245.out | refine bS ?_ GE246.out) | exact HB.out)⟩
   ·replace c21 := Bool.eq_false_iff.mpr c21
    subst c21
    have H1 : (impl_MeetGrammars.l0 kj2 (([(⟨a0_1, a1_1⟩ : S73)] : List (S73))) 0 a0_0 a0_1 l0_2 l0_3 a1_0 a1_1 l1_2 l1_3 0 0 ([] : List (S68))) = some (r1, r2, r3, r4, r5) := by rw [if_neg (show ¬ (false = true) by decide)] at H; exact H
    clear H
    have H := H1
    clear H1
    obtain ⟨y249, hy249⟩ : ∃ y_ : List (S73), y_ = (([(⟨a0_1, a1_1⟩ : S73)] : List (S73))) := ⟨_, rfl⟩
    replace H : (impl_MeetGrammars.l0 kj2 y249 0 a0_0 a0_1 l0_2 l0_3 a1_0 a1_1 l1_2 l1_3 0 0 ([] : List (S68))) = some (r1, r2, r3, r4, r5) := by first | (rw [hy249]; with_reducible exact H) | (have H2_ := (Option.bind_some _ _).symm.trans H; rw [hy249]; with_reducible exact H2_) | (have H2_ := (Option.bind_some _ _).symm.trans H; with_reducible exact H2_) | with_reducible exact H | (rw [hy249]; exact H) | exact H
    have Ny249 := Aside0.mk hy249
    clear hy249
    have H' := Aside0.mk H
    clear H
    have hnb25 := NB244_245.out
    have hnc25 := NB245_244.out
    have hnb26 := NB244_246.out
    have hnc26 := NB246_244.out
    obtain ⟨hcz27_0, hcz27_1, hcz27_2, hcz27_3⟩ := cZ4 BK244.out
    obtain ⟨hfz27_0, hfz27_1, hfz27_2, hfz27_3⟩ := fZ4 BK244.out
    have hnb28 := NB245_246.out
    have hnc28 := NB246_245.out
    obtain ⟨hcz29_0, hcz29_1, hcz29_2, hcz29_3⟩ := cZ4 BK245.out
    obtain ⟨hfz29_0, hfz29_1, hfz29_2, hfz29_3⟩ := fZ4 BK245.out
    go_wp2_with (first | ((with_reducible refine gate_dst (N := 31) rfl ?_); (try (refine gate_guard (by rfl) ?_; dsimp only)); refine Kd.R_lit k73 _ 73 ?hg (N := 31) ?hd (xs := ([(⟨a0_1, a1_1⟩ : S73)] : List (S73))) (inner := [.int .i64 a0_1, .int .i64 a1_1]) (ok := fun _ => True) (okp := fun _ => True) ?hr ?hp (fun _ hk => hk) trivial (Below.refl _ _) (Nat.le_refl _) (by simp) ?_; (case hd => rfl); (case hg => rfl); (case hr => first | (go_simp; done) | (go_simp; rfl)); (case hp => exact (Reps.c2 (show Kd.M k73 _ _ _ (⟨a0_1, a1_1⟩ : S73) [.int .i64 a0_1, .int .i64 a1_1] from (k73_mkM _ _ _ (⟨a0_1, a1_1⟩ : S73) )) (Reps.none _ _))); intro v250 w30 ho31 hb hg_ hnew_; clear hg_ hnew_; (first | rw [← Ny249.out] at ho31 | (simp only [Int.reduceToNat] at ho31; rw [← Ny249.out] at ho31)); have z_ := bX hb (by repeat (first | (with_reducible first | exact HB.out | apply bA | apply bN | apply bD | refine bS ?_ GE244.out | refine bS ?_ GE245.out | refine bS ?_ GE246.out) | exact HB.out)); have n0_ := Aside0.mk (rL ho31 (bZ z_)); have n1_ := Aside0.mk (kB (kQ BK244) hb); have n2_ := Aside0.mk (kB (kQ BK245) hb); have n3_ := Aside0.mk (kB (kQ BK246) hb); have n4_ := Aside0.mk (bP z_ hb); clear BK244; clear BK245; clear BK246; clear HB; have HO251 := n0_; have BK244 := n1_; have BK245 := n2_; have BK246 := n3_; have HB := n4_; clear z_ n0_ n1_ n2_ n3_ n4_; clear hb ho31) | ((with_reducible refine gate_dst (N := 7) rfl ?_); (try (refine gate_guard (by rfl) ?_; dsimp only)); refine bE ?hg (N := 7) ?hd (cs := #[.int .i64 0, .int .i64 0, .slice none 0 0, .slice none 0 0]) (t := 39) ?hr ?_; (case hd => rfl); (case hg => rfl); (case hr => first | (go_simp; done) | (go_simp; rfl)); intro gb252 hg w32 hbox hb; have z_ := bX hb (by repeat (first | (with_reducible first | exact HB.out | apply bA | apply bN | apply bD | refine bS ?_ GE244.out | refine bS ?_ GE245.out | refine bS ?_ GE246.out) | exact HB.out)); have n0_ := Aside0.mk (rB (rQ HO251) hb); have n1_ := Aside0.mk (kB (kQ BK244) hb); have n2_ := Aside0.mk (kB (kQ BK245) hb); have n3_ := Aside0.mk (kB (kQ BK246) hb); have n4_ := Aside0.mk (bP z_ hb); have n5_ := Aside0.mk (hbox); have n6_ := Aside0.mk ((by rw [hg]; exact (bZ z_) : w.heap.size ≤ gb252)); have n7_ := Aside0.mk ((by rw [hg]; exact (bZ z_) : w.heap.size ≤ gb252)); have n8_ := Aside0.mk ((by rw [hg]; exact Nat.ne_of_lt (kL (kQ BK244)) : gb244 ≠ gb252)); have n9_ := Aside0.mk ((by rw [hg]; exact Nat.ne_of_gt (kL (kQ BK244)) : gb252 ≠ gb244)); have n10_ := Aside0.mk ((by rw [hg]; exact Nat.ne_of_lt (kL (kQ BK245)) : gb245 ≠ gb252)); have n11_ := Aside0.mk ((by rw [hg]; exact Nat.ne_of_gt (kL (kQ BK245)) : gb252 ≠ gb245)); have n12_ := Aside0.mk ((by rw [hg]; exact Nat.ne_of_lt (kL (kQ BK246)) : gb246 ≠ gb252)); have n13_ := Aside0.mk ((by rw [hg]; exact Nat.ne_of_gt (kL (kQ BK246)) : gb252 ≠ gb246)); clear HO251; clear BK244; clear BK245; clear BK246; clear HB; have HO251 := n0_; have BK244 := n1_; have BK245 := n2_; have BK246 := n3_; have HB := n4_; have BK252 := n5_; have GW252 := n6_; have GE252 := n7_; have NB244_252 := n8_; have NB252_244 := n9_; have NB245_252 := n10_; have NB252_245 := n11_; have NB246_252 := n12_; have NB252_246 := n13_; clear z_ n0_ n1_ n2_ n3_ n4_ n5_ n6_ n7_ n8_ n9_ n10_ n11_ n12_ n13_; clear hb hbox hg))
    go_loopg [6, 8] kj2 (fun kq v6 v8 w' => ∃ (x6_2 : List (S73)) (x8_2 : Int) (x247000_2 : Int) (x247001_2 : Int) (x253003_2 : List (S68)) (u253003 : Value), v8 = .int .i64 x8_2 ∧ Aside0 (impl_MeetGrammars.l0 kq x6_2 x8_2 a0_0 a0_1 l0_2 l0_3 a1_0 a1_1 l1_2 l1_3 0 0 x253003_2 = some (r1, r2, r3, r4, r5)) ∧ Aside0 (kq ≤ kj2) ∧ Aside0 (Kd.R k73 73 w' w.heap.size (fun _ => True) v6 x6_2) ∧ Aside0 (Kd.R k68 68 w' w.heap.size (fun _ => True) u253003 x253003_2) ∧ Aside0 (w'.heap[gb244]? = some (.cells #[.int .i64 a0_0, .int .i64 a0_1, (.slice A0_2 l0_2.length c0_2), (.slice A0_3 l0_3.length c0_3)] 39 (0, 0))) ∧ Aside0 (w'.heap[gb245]? = some (.cells #[.int .i64 a1_0, .int .i64 a1_1, (.slice A1_2 l1_2.length c1_2), (.slice A1_3 l1_3.length c1_3)] 39 (0, 0))) ∧ Aside0 (w'.heap[gb246]? = some (.cells #[.int .i64 x247000_2, .int .i64 x247001_2, (.slice none 0 0), (.slice none 0 0)] 39 (0, 0))) ∧ Aside0 (w'.heap[gb252]? = some (.cells #[.int .i64 0, .int .i64 0, (.slice none 0 0), u253003] 39 (0, 0))) ∧ Aside0 (Below w.heap.size w w'))
    case atStart => exact ⟨(y249), (0), (0), (0), (([] : List (S68))), (.slice none 0 0), eT, H', ⟨Nat.le_refl _⟩, ⟨rQ HO251⟩, ⟨by first | exact Kd.R_nil _ _ _ _ _ | exact Kd.N_nil _ _ _ _ _ | exact Kd.V_nil _ _ _ _ _ | exact Kd.Q_nil _ _ _ _ _ | exact Kd.S_nil _ _ _ _ _⟩, ⟨kQ BK244⟩, ⟨kQ BK245⟩, ⟨kQ BK246⟩, ⟨kQ BK252⟩, ⟨by repeat (first | (with_reducible first | exact HB.out | apply bA | apply bN | apply bD | refine bS ?_ GE244.out | refine bS ?_ GE245.out | refine bS ?_ GE246.out | refine bS ?_ GE252.out) | exact HB.out)⟩⟩
    case round =>
     clear H'
     try clear c1
     try clear c2
     try clear p2
     try clear c4
     try clear c8
     try clear c10
     try clear c11
     try clear c14
     try clear c17
     try clear c18
     try clear c21
     try clear c22
     try clear c23
     try clear c25
     try clear c26
     try clear c28
     try clear hcz12_0
     try clear hcz12_1
     try clear hcz12_2
     try clear hcz12_3
     try clear hcz15_0
     try clear hcz15_1
     try clear hcz15_2
     try clear hcz15_3
     try clear hcz19_0
     try clear hcz19_1
     try clear hcz19_2
     try clear hcz19_3
     try clear hcz24_0
     try clear hcz24_1
     try clear hcz24_2
     try clear hcz24_3
     try clear hcz27_0
     try clear hcz27_1
     try clear hcz27_2
     try clear hcz27_3
     try clear hcz29_0
     try clear hcz29_1
     try clear hcz29_2
     try clear hcz29_3
     try clear hfz12_0
     try clear hfz12_1
     try clear hfz12_2
     try clear hfz12_3
     try clear hfz15_0
     try clear hfz15_1
     try clear hfz15_2
     try clear hfz15_3
     try clear hfz19_0
     try clear hfz19_1
     try clear hfz19_2
     try clear hfz19_3
     try clear hfz24_0
     try clear hfz24_1
     try clear hfz24_2
     try clear hfz24_3
     try clear hfz27_0
     try clear hfz27_1
     try clear hfz27_2
     try clear hfz27_3
     try clear hfz29_0
     try clear hfz29_1
     try clear hfz29_2
     try clear hfz29_3
     try clear p2
     obtain ⟨x6_2, x8_2, x247000_2, x247001_2, x253003_2, u253003, rfl, HA, HK2, HO_6, HO_253003, BK244, BK245, BK246, BK252, HB⟩ := hrel
     cases gk with
     | zero => exact absurd HA.out (by simp [impl_MeetGrammars.l0])
     | succ k2 =>
      have H := HA.out
      clear HA
      simp only [impl_MeetGrammars.l0] at H
      by_cases c33 : x8_2 < (x6_2.length : Int)
      ·rw [if_pos c33] at H
       have c33b0 : decide (x8_2 < (x6_2.length : Int)) = true := decide_eq_true c33
       clear c33
       by_cases c34 : 0 ≤ x8_2
       ·rw [if_pos c34] at H
        have c34b0 : decide (0 ≤ x8_2) = true := decide_eq_true c34
        clear c34
        replace H := Option.bind_eq_some_iff.mp H
        obtain ⟨t254, A350, H⟩ := H
        replace H : (impl_MeetGrammars.l1 k2 x6_2 x8_2 t254 (t254.length : Int) 0 a0_0 a0_1 l0_2 l0_3 a1_0 a1_1 l1_2 l1_3 0 0 x253003_2) = some (r1, r2, r3, r4, r5) := H
        have A35 := Aside0.mk A350
        clear A350
        have H' := Aside0.mk H
        clear H
        obtain ⟨Ao36, co36, eo36⟩ := Kd.R_slice HO_6.out
        subst eo36
        try go_wp2
        have n0_ := Aside0.mk (rD HO_6.out)
        have n1_ := Aside0.mk (rD HO_253003.out)
        have n2_ := Aside0.mk (kD BK244.out)
        have n3_ := Aside0.mk (kD BK245.out)
        have n4_ := Aside0.mk (kD BK246.out)
        have n5_ := Aside0.mk (kD BK252.out)
        have n6_ := Aside0.mk (bD HB.out)
        clear HO_6
        clear HO_253003
        clear BK244
        clear BK245
        clear BK246
        clear BK252
        clear HB
        have HO_6 := n0_
        have HO_253003 := n1_
        have BK244 := n2_
        have BK245 := n3_
        have BK246 := n4_
        have BK252 := n5_
        have HB := n6_
        clear n0_ n1_ n2_ n3_ n4_ n5_ n6_
        have p253 : 0 ≤ (x8_2 : Int) := oT
        have q253 : x8_2 < (x6_2.length : Int) := oT
        obtain ⟨ad253, e253, hx253_0, hx253_1⟩ := at_T73 (Kd.R_reads' HO_6.out).2.2 x8_2 p253 q253
        cases e253
        replace p253 := eq_true p253
        replace q253 := eq_true q253
        refine start_ (n := 9) (S := fun w' => w'.cell? ⟨gb244, 0, none⟩ = some (.int .i64 a0_0) ∧ w'.cell? ⟨gb244, 1, none⟩ = some (.int .i64 a0_1) ∧ w'.cell? ⟨gb244, 2, none⟩ = some (.slice A0_2 l0_2.length c0_2) ∧ w'.cell? ⟨gb244, 3, none⟩ = some (.slice A0_3 l0_3.length c0_3) ∧ w'.cell? (ad253.add ((x8_2).toNat * 2)) = some (.int .i64 ((rd_T73 x6_2 x8_2).f0)) ∧ w'.cell? ⟨(ad253.add ((x8_2).toNat * 2)).block, (ad253.add ((x8_2).toNat * 2)).off + 1, none⟩ = some (.int .i64 ((rd_T73 x6_2 x8_2).f1))) (ds := []) #[F,F,F,F,F,F,F,F,F] (by kernel_rfl) rfl rfl ⟨(kC BK244.out 0).trans rfl, (kC BK244.out 1).trans rfl, (kC BK244.out 2).trans rfl, (kC BK244.out 3).trans rfl, hx253_0, hx253_1⟩ (fun hHeld => ?_); refine with_tabW impl_MeetGrammars.tab8 impl_MeetGrammars.bits8 (fun HT_ HW_ => ?_)
        generalize wr.drew = w37 at HO_6 HO_253003 BK244 BK245 BK246 BK252 HB hx253_0 hx253_1 hHeld ⊢
        refine pure_ (i := 1) (N := some 39) (v := ?_) (a' := ?_) #[F,T,F,F,F,F,F,F,F] rfl rfl (any_of HT_.out (by kernel_rfl)) (fun _ _ _ h => h) (Or.inl ⟨by rfl, ?_⟩) ?_ ?_; rotate_left; (·intro w'; go_simp; with_reducible rfl); rotate_left; (·simp only [Act.put, sI, sZ, sS, iW, jW]; rfl)
        refine pure_ (i := 2) (N := some 40) (v := ?_) (a' := ?_) #[F,T,T,F,F,F,F,F,F] rfl rfl (any_of HT_.out (by kernel_rfl)) (fun _ _ _ h => h) (Or.inl ⟨by rfl, ?_⟩) ?_ ?_; rotate_left; (·intro w'; go_simp; with_reducible rfl); rotate_left; (·simp only [Act.put, sI, sZ, sS, iW, jW]; rfl)
        refine pure_ (i := 3) (N := some 41) (v := ?_) (a' := ?_) #[F,T,T,T,F,F,F,F,F] rfl rfl (any_of HT_.out (by kernel_rfl)) (fun _ _ _ h => h) (Or.inl ⟨by rfl, ?_⟩) ?_ ?_; rotate_left; (·intro w'; go_simp; with_reducible rfl); rotate_left; (·simp only [Act.put, sI, sZ, sS, iW, jW]; rfl)
        refine pure_ (i := 4) (N := some 42) (v := ?_) (a' := ?_) #[F,T,T,T,T,F,F,F,F] rfl rfl (any_of HT_.out (by kernel_rfl)) (fun _ _ _ h => h) (Or.inl ⟨by rfl, ?_⟩) ?_ ?_; rotate_left; (·intro w'; go_simp; with_reducible rfl); rotate_left; (·simp only [Act.put, sI, sZ, sS, iW, jW]; rfl)
        refine pure_ (i := 8) (N := some 46) (v := ?_) (a' := ?_) #[F,T,T,T,T,F,F,F,T] rfl rfl (any_of HT_.out (by kernel_rfl)) (fun _ _ _ h => h) (Or.inl ⟨by rfl, ?_⟩) ?_ ?_; rotate_left; (·intro w'; go_simp; with_reducible rfl); rotate_left; (·simp only [Act.put, sI, sZ, sS, iW, jW]; rfl)
        refine take_ (i := 0) (N := some 38) (v := ?_) (a' := ?_) #[T,T,T,T,T,F,F,F,T] rfl rfl (tW HT_.out HW_.out (by kernel_rfl)) (fun _ _ _ h => h) (Or.inl ⟨by rfl, ?_⟩) hHeld ?_ ?_; rotate_left; (·rintro w' ⟨s0, s1, s2, s3, s4, s5⟩; go_simp; with_reducible rfl); rotate_left; (·simp only [Act.put, sI, sZ, sS, iW, jW]; rfl)
        refine take_ (i := 5) (N := some 43) (v := ?_) (a' := ?_) #[T,T,T,T,T,T,F,F,T] rfl rfl (tW HT_.out HW_.out (by kernel_rfl)) (fun _ _ _ h => h) (Or.inl ⟨by rfl, ?_⟩) hHeld ?_ ?_; rotate_left; (·rintro w' ⟨s0, s1, s2, s3, s4, s5⟩; go_simp; with_reducible rfl); rotate_left; (·simp only [Act.put, sI, sZ, sS, iW, jW]; rfl)
        refine one_ (i := 6) (N := some 44) #[T,T,T,T,T,T,T,F,T] rfl rfl (oO HT_.out (by kernel_rfl)) (by decide) (fun K hK => ?_)
        refine goes_ Try.func42 (by kernel_rfl) rfl #[.agg #[.int .i64 a0_0, .int .i64 a0_1, .slice A0_2 l0_2.length c0_2, .slice A0_3 l0_3.length c0_3], .int .i64 ((rd_T73 x6_2 x8_2).f0)] (by rfl) rfl rfl lQ ?_
        with_reducible refine (impl_Grammar_arcsOf.calls k2 a0_0 a0_1 _ _ l0_2 _ _ l0_3 ((rd_T73 x6_2 x8_2).f0) t254 _ ?side1 ?side2 ?side3 ?side4 A35.out).mono ?_
        (case side1 => exact cP (cB HR0_2.out HB.out))
        (case side2 => exact HC0_2.out)
        (case side3 => exact cP (cB HR0_3.out HB.out))
        (case side4 => exact HC0_3.out)
        rintro e w38 ⟨v255, rfl, ho0, hb⟩
        have HS4_ := (hb.cell (World.block_lt_of_cell? _ _ (hHeld.2.2.2.2.1))).trans (hHeld.2.2.2.2.1)
        have HS5_ := (hb.cell (World.block_lt_of_cell? _ _ (hHeld.2.2.2.2.2))).trans (hHeld.2.2.2.2.2)
        refine ⟨_, rfl, ?_⟩
        have z_ := bX hb (by repeat (first | (with_reducible first | exact HB.out | apply bA | apply bN | apply bD | refine bS ?_ GE244.out | refine bS ?_ GE245.out | refine bS ?_ GE246.out | refine bS ?_ GE252.out) | exact HB.out))
        have n0_ := Aside0.mk (rB (rQ HO_6) hb)
        have n1_ := Aside0.mk (rE (rQ HO_253003) (Kd.R_base ho0) hb)
        have n2_ := Aside0.mk (rL (rW ho0 (rT (rQ HO_253003))) (bZ z_))
        have n3_ := Aside0.mk (kB (kQ BK244) hb)
        have n4_ := Aside0.mk (kB (kQ BK245) hb)
        have n5_ := Aside0.mk (kB (kQ BK246) hb)
        have n6_ := Aside0.mk (kB (kQ BK252) hb)
        have n7_ := Aside0.mk (bP z_ hb)
        clear HO_6
        clear HO_253003
        clear BK244
        clear BK245
        clear BK246
        clear BK252
        clear HB
        have HO_6 := n0_
        have HO_253003 := n1_
        have HO256 := n2_
        have BK244 := n3_
        have BK245 := n4_
        have BK246 := n5_
        have BK252 := n6_
        have HB := n7_
        clear z_ n0_ n1_ n2_ n3_ n4_ n5_ n6_ n7_
        (try clear hb)
        (try clear hb2)
        (try clear hk)
        (try clear hi)
        (try clear ho0)
        obtain ⟨Ao39, co39, eo39⟩ := Kd.R_slice HO256.out
        (first | subst eo39 | (injection eo39 with f1_ f2_ f3_; have f4_ := f1_.symm; have f5_ := f3_.symm; clear f1_ f2_ f3_; subst f4_; subst f5_))
        refine hK.out _ _ ⟨(kC BK244.out 0).trans rfl, (kC BK244.out 1).trans rfl, (kC BK244.out 2).trans rfl, (kC BK244.out 3).trans rfl, HS4_, HS5_⟩ (fun hHeld => ?_)
        clear hK K
        refine norm_ (a' := ?_) ?_ ?_
        rotate_left
        ·show Act.put _ (some 44) _ = _
         simp only [Act.put, sI, sZ, sS, iW, jW]
         rfl
        refine pure_ (i := 7) (N := some 45) (v := ?_) (a' := ?_) #[T,T,T,T,T,T,T,T,T] rfl rfl (any_of HT_.out (by kernel_rfl)) (fun _ _ _ h => h) (Or.inl ⟨by rfl, ?_⟩) ?_ ?_; rotate_left; (·intro w'; go_simp; with_reducible rfl); rotate_left; (·simp only [Act.put, sI, sZ, sS, iW, jW]; rfl)
        refine done_ (done_of HT_.out (by kernel_rfl)) ?_
        try go_wp2
        go_loopg [6, 46] k2 (fun kq v6 v46 w' => ∃ (x6_3 : List (S73)) (x46_3 : Int) (x253003_3 : List (S68)) (u253003 : Value), v46 = .int .i64 x46_3 ∧ Aside0 (impl_MeetGrammars.l1 kq x6_3 x8_2 t254 (t254.length : Int) x46_3 a0_0 a0_1 l0_2 l0_3 a1_0 a1_1 l1_2 l1_3 0 0 x253003_3 = some (r1, r2, r3, r4, r5)) ∧ Aside0 (kq ≤ k2) ∧ Aside0 (Kd.R k73 73 w' w.heap.size (fun _ => True) v6 x6_3) ∧ Aside0 (Kd.R k68 68 w' w.heap.size (fun k_ => some k_ ≠ (u253003 : Value).ownBlock) (.slice Ao39 t254.length co39) t254) ∧ Aside0 (Kd.R k68 68 w' w.heap.size (fun k_ => some k_ ≠ ((.slice Ao39 t254.length co39) : Value).ownBlock) u253003 x253003_3) ∧ Aside0 (w'.heap[gb244]? = some (.cells #[.int .i64 a0_0, .int .i64 a0_1, (.slice A0_2 l0_2.length c0_2), (.slice A0_3 l0_3.length c0_3)] 39 (0, 0))) ∧ Aside0 (w'.heap[gb245]? = some (.cells #[.int .i64 a1_0, .int .i64 a1_1, (.slice A1_2 l1_2.length c1_2), (.slice A1_3 l1_3.length c1_3)] 39 (0, 0))) ∧ Aside0 (w'.heap[gb246]? = some (.cells #[.int .i64 x247000_2, .int .i64 x247001_2, (.slice none 0 0), (.slice none 0 0)] 39 (0, 0))) ∧ Aside0 (w'.heap[gb252]? = some (.cells #[.int .i64 0, .int .i64 0, (.slice none 0 0), u253003] 39 (0, 0))) ∧ Aside0 (Below w.heap.size w w'))
        case atStart => exact ⟨(x6_2), (0), (x253003_2), (u253003), eT, H', ⟨Nat.le_refl _⟩, ⟨rQ HO_6⟩, ⟨by (with_reducible repeat (first | apply rA | apply rN | apply rD)); exact rM HO256.out (fun _ hk => hk.2)⟩, ⟨by (with_reducible repeat (first | apply rA | apply rN | apply rD)); exact rM HO_253003.out (fun _ hk => hk.2)⟩, ⟨kQ BK244⟩, ⟨kQ BK245⟩, ⟨kQ BK246⟩, ⟨kQ BK252⟩, ⟨by repeat (first | (with_reducible first | exact HB.out | apply bA | apply bN | apply bD | refine bS ?_ GE244.out | refine bS ?_ GE245.out | refine bS ?_ GE246.out | refine bS ?_ GE252.out) | exact HB.out)⟩⟩
        case round =>
         clear H'
         try clear c1
         try clear c2
         try clear p2
         try clear q2
         try clear hx2
         try clear c3
         try clear c4
         try clear c8
         try clear c10
         try clear c11
         try clear c14
         try clear c17
         try clear c18
         try clear c21
         try clear c22
         try clear c23
         try clear c25
         try clear p25
         try clear q25
         try clear hx25
         try clear c26
         try clear c28
         try clear c33
         try clear c33b0
         try clear c34
         try clear c34b0
         try clear hcz12_0
         try clear hcz12_1
         try clear hcz12_2
         try clear hcz12_3
         try clear hcz15_0
         try clear hcz15_1
         try clear hcz15_2
         try clear hcz15_3
         try clear hcz19_0
         try clear hcz19_1
         try clear hcz19_2
         try clear hcz19_3
         try clear hcz24_0
         try clear hcz24_1
         try clear hcz24_2
         try clear hcz24_3
         try clear hcz27_0
         try clear hcz27_1
         try clear hcz27_2
         try clear hcz27_3
         try clear hcz29_0
         try clear hcz29_1
         try clear hcz29_2
         try clear hcz29_3
         try clear hfz12_0
         try clear hfz12_1
         try clear hfz12_2
         try clear hfz12_3
         try clear hfz15_0
         try clear hfz15_1
         try clear hfz15_2
         try clear hfz15_3
         try clear hfz19_0
         try clear hfz19_1
         try clear hfz19_2
         try clear hfz19_3
         try clear hfz24_0
         try clear hfz24_1
         try clear hfz24_2
         try clear hfz24_3
         try clear hfz27_0
         try clear hfz27_1
         try clear hfz27_2
         try clear hfz27_3
         try clear hfz29_0
         try clear hfz29_1
         try clear hfz29_2
         try clear hfz29_3
         try clear hx253_0
         try clear hx253_1
         try clear p2
         try clear p253
         try clear q253
         obtain ⟨x6_3, x46_3, x253003_3, u253003, rfl, HA, HK3, HO_6, HO_44, HO_253003, BK244, BK245, BK246, BK252, HB⟩ := hrel
         cases gk with
         | zero => exact absurd HA.out (by simp [impl_MeetGrammars.l1])
         | succ k3 =>
          have H := HA.out
          clear HA
          simp only [impl_MeetGrammars.l1] at H
          by_cases c40 : x46_3 < (t254.length : Int)
          ·rw [if_pos c40] at H
           have c40b0 : decide (x46_3 < (t254.length : Int)) = true := decide_eq_true c40
           clear c40
           by_cases c41 : 0 ≤ x46_3
           ·rw [if_pos c41] at H
            have c41b0 : decide (0 ≤ x46_3) = true := decide_eq_true c41
            clear c41
            by_cases c42 : x46_3 < (t254.length : Int)
            ·rw [if_pos c42] at H
             have c42b0 : decide (x46_3 < (t254.length : Int)) = true := decide_eq_true c42
             clear c42
             by_cases c43 : 0 ≤ x8_2
             ·rw [if_pos c43] at H
              have c43b0 : decide (0 ≤ x8_2) = true := decide_eq_true c43
              clear c43
              by_cases c44 : x8_2 < (x6_3.length : Int)
              ·rw [if_pos c44] at H
               have c44b0 : decide (x8_2 < (x6_3.length : Int)) = true := decide_eq_true c44
               clear c44
               replace H := Option.bind_eq_some_iff.mp H
               obtain ⟨t260, A450, H⟩ := H
               replace H : (impl_MeetGrammars.l2 k3 x6_3 x8_2 t254 (t254.length : Int) x46_3 t260 (t260.length : Int) 0 a0_0 a0_1 l0_2 l0_3 a1_0 a1_1 l1_2 l1_3 0 0 x253003_3 ((rd_T68 t254 x46_3).f0) ((rd_T68 t254 x46_3).f1) ((rd_T68 t254 x46_3).f2)) = some (r1, r2, r3, r4, r5) := H
               have A45 := Aside0.mk A450
               clear A450
               have H' := Aside0.mk H
               clear H
               have p257 : 0 ≤ (x46_3 : Int) := oT
               have q257 : x46_3 < (t254.length : Int) := oT
               obtain ⟨ad257, e257, hx257_0, hx257_1, hx257_2⟩ := at_T68 (Kd.R_reads' HO_44.out).2.2 x46_3 p257 q257
               cases e257
               replace p257 := eq_true p257
               replace q257 := eq_true q257
               try go_wp2_with (first | ((with_reducible refine gate_dst (N := 10) rfl ?_); (try (refine gate_guard (by rfl) ?_; dsimp only)); refine bE ?hg (N := 10) ?hd (cs := #[.int .i64 0, .int .i64 0, .int .i64 0]) (t := 68) ?hr ?_; (case hd => rfl); (case hg => rfl); (case hr => first | (go_simp; done) | (go_simp; rfl)); intro gb258 hg w46 hbox hb; have z_ := bX hb (by repeat (first | (with_reducible first | exact HB.out | apply bA | apply bN | apply bD | refine bS ?_ GE244.out | refine bS ?_ GE245.out | refine bS ?_ GE246.out | refine bS ?_ GE252.out) | exact HB.out)); have n0_ := Aside0.mk (rB (rQ HO_6) hb); have n1_ := Aside0.mk (rB (Kd.R_elderB (rQ HO_44) gb258 (Nat.le_of_eq hg.symm)) hb); have n2_ := Aside0.mk (rB (Kd.R_elderB (rQ HO_253003) gb258 (Nat.le_of_eq hg.symm)) hb); have n3_ := Aside0.mk (kB (kQ BK244) hb); have n4_ := Aside0.mk (kB (kQ BK245) hb); have n5_ := Aside0.mk (kB (kQ BK246) hb); have n6_ := Aside0.mk (kB (kQ BK252) hb); have n7_ := Aside0.mk (bP z_ hb); have n8_ := Aside0.mk (hbox); have n9_ := Aside0.mk ((by rw [hg]; exact (bZ z_) : w.heap.size ≤ gb258)); have n10_ := Aside0.mk ((by rw [hg]; exact (bZ z_) : w.heap.size ≤ gb258)); have n11_ := Aside0.mk ((by rw [hg]; exact Nat.ne_of_lt (kL (kQ BK244)) : gb244 ≠ gb258)); have n12_ := Aside0.mk ((by rw [hg]; exact Nat.ne_of_gt (kL (kQ BK244)) : gb258 ≠ gb244)); have n13_ := Aside0.mk ((by rw [hg]; exact Nat.ne_of_lt (kL (kQ BK245)) : gb245 ≠ gb258)); have n14_ := Aside0.mk ((by rw [hg]; exact Nat.ne_of_gt (kL (kQ BK245)) : gb258 ≠ gb245)); have n15_ := Aside0.mk ((by rw [hg]; exact Nat.ne_of_lt (kL (kQ BK246)) : gb246 ≠ gb258)); have n16_ := Aside0.mk ((by rw [hg]; exact Nat.ne_of_gt (kL (kQ BK246)) : gb258 ≠ gb246)); have n17_ := Aside0.mk ((by rw [hg]; exact Nat.ne_of_lt (kL (kQ BK252)) : gb252 ≠ gb258)); have n18_ := Aside0.mk ((by rw [hg]; exact Nat.ne_of_gt (kL (kQ BK252)) : gb258 ≠ gb252)); clear HO_6; clear HO_44; clear HO_253003; clear BK244; clear BK245; clear BK246; clear BK252; clear HB; have HO_6 := n0_; have HO_44 := n1_; have HO_253003 := n2_; have BK244 := n3_; have BK245 := n4_; have BK246 := n5_; have BK252 := n6_; have HB := n7_; have BK258 := n8_; have GW258 := n9_; have GE258 := n10_; have NB244_258 := n11_; have NB258_244 := n12_; have NB245_258 := n13_; have NB258_245 := n14_; have NB246_258 := n15_; have NB258_246 := n16_; have NB252_258 := n17_; have NB258_252 := n18_; clear z_ n0_ n1_ n2_ n3_ n4_ n5_ n6_ n7_ n8_ n9_ n10_ n11_ n12_ n13_ n14_ n15_ n16_ n17_ n18_; clear hb hbox hg; have hnb47 := NB258_244.out; have hnc47 := NB244_258.out; have hnb48 := NB258_245.out; have hnc48 := NB245_258.out; have hnb49 := NB258_246.out; have hnc49 := NB246_258.out; have hnb50 := NB258_252.out; have hnc50 := NB252_258.out; obtain ⟨hcz51_0, hcz51_1, hcz51_2⟩ := cZ3 BK258.out; obtain ⟨hfz51_0, hfz51_1, hfz51_2⟩ := fZ3 BK258.out))
               have n0_ : Aside0 (Kd.R k73 73 (((w46.setCell ⟨gb258, 0, none⟩ (.int .i64 ((rd_T68 t254 x46_3).f0))).setCell ⟨gb258, 1, none⟩ (.int .i64 ((rd_T68 t254 x46_3).f1))).setCell ⟨gb258, 2, none⟩ (.int .i64 ((rd_T68 t254 x46_3).f2))) w.heap.size (fun _ => True) u6 x6_3) := ⟨by (with_reducible repeat (first | apply rA | apply rN | apply rD)); exact rM (Kd.R_far (p := ⟨gb258, 2, none⟩) (Kd.R_far (p := ⟨gb258, 1, none⟩) (Kd.R_far (p := ⟨gb258, 0, none⟩) (Kd.R_types HO_6.out BK258.out (by decide)) (fun _ hk => hk.2) (.int .i64 ((rd_T68 t254 x46_3).f0))) (fun _ hk => hk.2) (.int .i64 ((rd_T68 t254 x46_3).f1))) (fun _ hk => hk.2) (.int .i64 ((rd_T68 t254 x46_3).f2))) (fun _ hk => trivial)⟩
               have n1_ : Aside0 (Kd.R k68 68 (((w46.setCell ⟨gb258, 0, none⟩ (.int .i64 ((rd_T68 t254 x46_3).f0))).setCell ⟨gb258, 1, none⟩ (.int .i64 ((rd_T68 t254 x46_3).f1))).setCell ⟨gb258, 2, none⟩ (.int .i64 ((rd_T68 t254 x46_3).f2))) w.heap.size (fun k_ => some k_ ≠ (u253003 : Value).ownBlock ∧ k_ ≠ gb258) (.slice (some ad257) t254.length co39) t254) := ⟨by (with_reducible repeat (first | apply rA | apply rN | apply rD)); exact rM (Kd.R_far (p := ⟨gb258, 2, none⟩) (Kd.R_far (p := ⟨gb258, 1, none⟩) (Kd.R_far (p := ⟨gb258, 0, none⟩) (rM HO_44.out (fun k_ hk => (⟨hk, hk.2⟩ : _ ∧ k_ ≠ gb258))) (fun _ hk => hk.2) (.int .i64 ((rd_T68 t254 x46_3).f0))) (fun _ hk => hk.2) (.int .i64 ((rd_T68 t254 x46_3).f1))) (fun _ hk => hk.2) (.int .i64 ((rd_T68 t254 x46_3).f2))) (fun _ hk => ⟨hk.1.1, hk.1.2⟩)⟩
               have n2_ : Aside0 (Kd.R k68 68 (((w46.setCell ⟨gb258, 0, none⟩ (.int .i64 ((rd_T68 t254 x46_3).f0))).setCell ⟨gb258, 1, none⟩ (.int .i64 ((rd_T68 t254 x46_3).f1))).setCell ⟨gb258, 2, none⟩ (.int .i64 ((rd_T68 t254 x46_3).f2))) w.heap.size (fun k_ => some k_ ≠ (.slice (some ad257) t254.length co39 : Value).ownBlock ∧ k_ ≠ gb258) u253003 x253003_3) := ⟨by (with_reducible repeat (first | apply rA | apply rN | apply rD)); exact rM (Kd.R_far (p := ⟨gb258, 2, none⟩) (Kd.R_far (p := ⟨gb258, 1, none⟩) (Kd.R_far (p := ⟨gb258, 0, none⟩) (rM HO_253003.out (fun k_ hk => (⟨hk, hk.2⟩ : _ ∧ k_ ≠ gb258))) (fun _ hk => hk.2) (.int .i64 ((rd_T68 t254 x46_3).f0))) (fun _ hk => hk.2) (.int .i64 ((rd_T68 t254 x46_3).f1))) (fun _ hk => hk.2) (.int .i64 ((rd_T68 t254 x46_3).f2))) (fun _ hk => ⟨hk.1.1, hk.1.2⟩)⟩
               have n3_ : Aside0 ((((w46.setCell ⟨gb258, 0, none⟩ (.int .i64 ((rd_T68 t254 x46_3).f0))).setCell ⟨gb258, 1, none⟩ (.int .i64 ((rd_T68 t254 x46_3).f1))).setCell ⟨gb258, 2, none⟩ (.int .i64 ((rd_T68 t254 x46_3).f2))).heap[gb244]? = some (.cells #[.int .i64 a0_0, .int .i64 a0_1, .slice A0_2 l0_2.length c0_2, .slice A0_3 l0_3.length c0_3] 39 (0, 0))) := ⟨by (with_reducible repeat (first | refine kN ?_ _ | refine kD ?_ | refine kA ?_ _)); refine kF ?_ NB244_258.out _; (with_reducible repeat (first | refine kN ?_ _ | refine kD ?_ | refine kA ?_ _)); refine kF ?_ NB244_258.out _; (with_reducible repeat (first | refine kN ?_ _ | refine kD ?_ | refine kA ?_ _)); refine kF ?_ NB244_258.out _; (with_reducible repeat (first | refine kN ?_ _ | refine kD ?_ | refine kA ?_ _)); exact BK244.out⟩
               have n4_ : Aside0 ((((w46.setCell ⟨gb258, 0, none⟩ (.int .i64 ((rd_T68 t254 x46_3).f0))).setCell ⟨gb258, 1, none⟩ (.int .i64 ((rd_T68 t254 x46_3).f1))).setCell ⟨gb258, 2, none⟩ (.int .i64 ((rd_T68 t254 x46_3).f2))).heap[gb245]? = some (.cells #[.int .i64 a1_0, .int .i64 a1_1, .slice A1_2 l1_2.length c1_2, .slice A1_3 l1_3.length c1_3] 39 (0, 0))) := ⟨by (with_reducible repeat (first | refine kN ?_ _ | refine kD ?_ | refine kA ?_ _)); refine kF ?_ NB245_258.out _; (with_reducible repeat (first | refine kN ?_ _ | refine kD ?_ | refine kA ?_ _)); refine kF ?_ NB245_258.out _; (with_reducible repeat (first | refine kN ?_ _ | refine kD ?_ | refine kA ?_ _)); refine kF ?_ NB245_258.out _; (with_reducible repeat (first | refine kN ?_ _ | refine kD ?_ | refine kA ?_ _)); exact BK245.out⟩
               have n5_ : Aside0 ((((w46.setCell ⟨gb258, 0, none⟩ (.int .i64 ((rd_T68 t254 x46_3).f0))).setCell ⟨gb258, 1, none⟩ (.int .i64 ((rd_T68 t254 x46_3).f1))).setCell ⟨gb258, 2, none⟩ (.int .i64 ((rd_T68 t254 x46_3).f2))).heap[gb246]? = some (.cells #[.int .i64 x247000_2, .int .i64 x247001_2, .slice none 0 0, .slice none 0 0] 39 (0, 0))) := ⟨by (with_reducible repeat (first | refine kN ?_ _ | refine kD ?_ | refine kA ?_ _)); refine kF ?_ NB246_258.out _; (with_reducible repeat (first | refine kN ?_ _ | refine kD ?_ | refine kA ?_ _)); refine kF ?_ NB246_258.out _; (with_reducible repeat (first | refine kN ?_ _ | refine kD ?_ | refine kA ?_ _)); refine kF ?_ NB246_258.out _; (with_reducible repeat (first | refine kN ?_ _ | refine kD ?_ | refine kA ?_ _)); exact BK246.out⟩
               have n6_ : Aside0 ((((w46.setCell ⟨gb258, 0, none⟩ (.int .i64 ((rd_T68 t254 x46_3).f0))).setCell ⟨gb258, 1, none⟩ (.int .i64 ((rd_T68 t254 x46_3).f1))).setCell ⟨gb258, 2, none⟩ (.int .i64 ((rd_T68 t254 x46_3).f2))).heap[gb252]? = some (.cells #[.int .i64 0, .int .i64 0, .slice none 0 0, u253003] 39 (0, 0))) := ⟨by (with_reducible repeat (first | refine kN ?_ _ | refine kD ?_ | refine kA ?_ _)); refine kF ?_ NB252_258.out _; (with_reducible repeat (first | refine kN ?_ _ | refine kD ?_ | refine kA ?_ _)); refine kF ?_ NB252_258.out _; (with_reducible repeat (first | refine kN ?_ _ | refine kD ?_ | refine kA ?_ _)); refine kF ?_ NB252_258.out _; (with_reducible repeat (first | refine kN ?_ _ | refine kD ?_ | refine kA ?_ _)); exact BK252.out⟩
               have n7_ : Aside0 ((((w46.setCell ⟨gb258, 0, none⟩ (.int .i64 ((rd_T68 t254 x46_3).f0))).setCell ⟨gb258, 1, none⟩ (.int .i64 ((rd_T68 t254 x46_3).f1))).setCell ⟨gb258, 2, none⟩ (.int .i64 ((rd_T68 t254 x46_3).f2))).heap[gb258]? = some (.cells #[.int .i64 ((rd_T68 t254 x46_3).f0), .int .i64 ((rd_T68 t254 x46_3).f1), .int .i64 ((rd_T68 t254 x46_3).f2)] 68 (0, 0))) := ⟨by (with_reducible repeat (first | refine kN ?_ _ | refine kD ?_ | refine kA ?_ _)); refine blk_put (cs := #[.int .i64 ((rd_T68 t254 x46_3).f0), .int .i64 ((rd_T68 t254 x46_3).f1), .int .i64 0]) ?_ 2 _ rfl; (with_reducible repeat (first | refine kN ?_ _ | refine kD ?_ | refine kA ?_ _)); refine blk_put (cs := #[.int .i64 ((rd_T68 t254 x46_3).f0), .int .i64 0, .int .i64 0]) ?_ 1 _ rfl; (with_reducible repeat (first | refine kN ?_ _ | refine kD ?_ | refine kA ?_ _)); refine blk_put (cs := #[.int .i64 0, .int .i64 0, .int .i64 0]) ?_ 0 _ rfl; (with_reducible repeat (first | refine kN ?_ _ | refine kD ?_ | refine kA ?_ _)); exact BK258.out⟩
               have n8_ : Aside0 (Below w.heap.size w (((w46.setCell ⟨gb258, 0, none⟩ (.int .i64 ((rd_T68 t254 x46_3).f0))).setCell ⟨gb258, 1, none⟩ (.int .i64 ((rd_T68 t254 x46_3).f1))).setCell ⟨gb258, 2, none⟩ (.int .i64 ((rd_T68 t254 x46_3).f2)))) := ⟨by repeat (first | (with_reducible first | exact HB.out | apply bA | apply bN | apply bD | refine bS ?_ GE244.out | refine bS ?_ GE245.out | refine bS ?_ GE246.out | refine bS ?_ GE252.out | refine bS ?_ GE258.out) | exact HB.out)⟩
               (try clear HO_6)
               (try clear HO_44)
               (try clear HO_253003)
               (try clear BK244)
               (try clear BK245)
               (try clear BK246)
               (try clear BK252)
               (try clear BK258)
               (try clear HB)
               generalize (((w46.setCell ⟨gb258, 0, none⟩ (.int .i64 ((rd_T68 t254 x46_3).f0))).setCell ⟨gb258, 1, none⟩ (.int .i64 ((rd_T68 t254 x46_3).f1))).setCell ⟨gb258, 2, none⟩ (.int .i64 ((rd_T68 t254 x46_3).f2))) = w52 at n0_ n1_ n2_ n3_ n4_ n5_ n6_ n7_ n8_ ⊢
               have HO_6 := n0_
               have HO_44 := n1_
               have HO_253003 := n2_
               have BK244 := n3_
               have BK245 := n4_
               have BK246 := n5_
               have BK252 := n6_
               have BK258 := n7_
               have HB := n8_
               clear n0_ n1_ n2_ n3_ n4_ n5_ n6_ n7_ n8_
               have n0_ := Aside0.mk (rD HO_6.out)
               have n1_ := Aside0.mk (rD HO_44.out)
               have n2_ := Aside0.mk (rD HO_253003.out)
               have n3_ := Aside0.mk (kD BK244.out)
               have n4_ := Aside0.mk (kD BK245.out)
               have n5_ := Aside0.mk (kD BK246.out)
               have n6_ := Aside0.mk (kD BK252.out)
               have n7_ := Aside0.mk (kD BK258.out)
               have n8_ := Aside0.mk (bD HB.out)
               clear HO_6
               clear HO_44
               clear HO_253003
               clear BK244
               clear BK245
               clear BK246
               clear BK252
               clear BK258
               clear HB
               have HO_6 := n0_
               have HO_44 := n1_
               have HO_253003 := n2_
               have BK244 := n3_
               have BK245 := n4_
               have BK246 := n5_
               have BK252 := n6_
               have BK258 := n7_
               have HB := n8_
               clear n0_ n1_ n2_ n3_ n4_ n5_ n6_ n7_ n8_
               obtain ⟨Ao54, co54, eo54⟩ := Kd.R_slice HO_6.out
               (first | subst eo54 | (injection eo54 with f1_ f2_ f3_; have f4_ := f1_.symm; have f5_ := f3_.symm; clear f1_ f2_ f3_; subst f4_; subst f5_))
               have p259 : 0 ≤ (x8_2 : Int) := oT
               have q259 : x8_2 < (x6_3.length : Int) := oT
               obtain ⟨ad259, e259, hx259_0, hx259_1⟩ := at_T73 (Kd.R_reads' HO_6.out).2.2 x8_2 p259 q259
               cases e259
               replace p259 := eq_true p259
               replace q259 := eq_true q259
               refine start_ (n := 9) (S := fun w' => w'.cell? ⟨gb245, 0, none⟩ = some (.int .i64 a1_0) ∧ w'.cell? ⟨gb245, 1, none⟩ = some (.int .i64 a1_1) ∧ w'.cell? ⟨gb245, 2, none⟩ = some (.slice A1_2 l1_2.length c1_2) ∧ w'.cell? ⟨gb245, 3, none⟩ = some (.slice A1_3 l1_3.length c1_3) ∧ w'.cell? (ad259.add ((x8_2).toNat * 2)) = some (.int .i64 ((rd_T73 x6_3 x8_2).f0)) ∧ w'.cell? ⟨(ad259.add ((x8_2).toNat * 2)).block, (ad259.add ((x8_2).toNat * 2)).off + 1, none⟩ = some (.int .i64 ((rd_T73 x6_3 x8_2).f1))) (ds := []) #[F,F,F,F,F,F,F,F,F] (by kernel_rfl) rfl rfl ⟨(kC BK245.out 0).trans rfl, (kC BK245.out 1).trans rfl, (kC BK245.out 2).trans rfl, (kC BK245.out 3).trans rfl, hx259_0, hx259_1⟩ (fun hHeld => ?_); refine with_tabW impl_MeetGrammars.tab11 impl_MeetGrammars.bits11 (fun HT_ HW_ => ?_)
               generalize w52.drew = w53 at HO_6 HO_44 HO_253003 BK244 BK245 BK246 BK252 BK258 HB hx259_0 hx259_1 hHeld ⊢
               refine pure_ (i := 1) (N := some 51) (v := ?_) (a' := ?_) #[F,T,F,F,F,F,F,F,F] rfl rfl (any_of HT_.out (by kernel_rfl)) (fun _ _ _ h => h) (Or.inl ⟨by rfl, ?_⟩) ?_ ?_; rotate_left; (·intro w'; go_simp; with_reducible rfl); rotate_left; (·simp only [Act.put, sI, sZ, sS, iW, jW]; rfl)
               refine pure_ (i := 2) (N := some 52) (v := ?_) (a' := ?_) #[F,T,T,F,F,F,F,F,F] rfl rfl (any_of HT_.out (by kernel_rfl)) (fun _ _ _ h => h) (Or.inl ⟨by rfl, ?_⟩) ?_ ?_; rotate_left; (·intro w'; go_simp; with_reducible rfl); rotate_left; (·simp only [Act.put, sI, sZ, sS, iW, jW]; rfl)
               refine pure_ (i := 3) (N := some 53) (v := ?_) (a' := ?_) #[F,T,T,T,F,F,F,F,F] rfl rfl (any_of HT_.out (by kernel_rfl)) (fun _ _ _ h => h) (Or.inl ⟨by rfl, ?_⟩) ?_ ?_; rotate_left; (·intro w'; go_simp; with_reducible rfl); rotate_left; (·simp only [Act.put, sI, sZ, sS, iW, jW]; rfl)
               refine pure_ (i := 4) (N := some 54) (v := ?_) (a' := ?_) #[F,T,T,T,T,F,F,F,F] rfl rfl (any_of HT_.out (by kernel_rfl)) (fun _ _ _ h => h) (Or.inl ⟨by rfl, ?_⟩) ?_ ?_; rotate_left; (·intro w'; go_simp; with_reducible rfl); rotate_left; (·simp only [Act.put, sI, sZ, sS, iW, jW]; rfl)
               refine pure_ (i := 8) (N := some 58) (v := ?_) (a' := ?_) #[F,T,T,T,T,F,F,F,T] rfl rfl (any_of HT_.out (by kernel_rfl)) (fun _ _ _ h => h) (Or.inl ⟨by rfl, ?_⟩) ?_ ?_; rotate_left; (·intro w'; go_simp; with_reducible rfl); rotate_left; (·simp only [Act.put, sI, sZ, sS, iW, jW]; rfl)
               refine take_ (i := 0) (N := some 50) (v := ?_) (a' := ?_) #[T,T,T,T,T,F,F,F,T] rfl rfl (tW HT_.out HW_.out (by kernel_rfl)) (fun _ _ _ h => h) (Or.inl ⟨by rfl, ?_⟩) hHeld ?_ ?_; rotate_left; (·rintro w' ⟨s0, s1, s2, s3, s4, s5⟩; go_simp; with_reducible rfl); rotate_left; (·simp only [Act.put, sI, sZ, sS, iW, jW]; rfl)
               refine take_ (i := 5) (N := some 55) (v := ?_) (a' := ?_) #[T,T,T,T,T,T,F,F,T] rfl rfl (tW HT_.out HW_.out (by kernel_rfl)) (fun _ _ _ h => h) (Or.inl ⟨by rfl, ?_⟩) hHeld ?_ ?_; rotate_left; (·rintro w' ⟨s0, s1, s2, s3, s4, s5⟩; go_simp; with_reducible rfl); rotate_left; (·simp only [Act.put, sI, sZ, sS, iW, jW]; rfl)
               refine one_ (i := 6) (N := some 56) #[T,T,T,T,T,T,T,F,T] rfl rfl (oO HT_.out (by kernel_rfl)) (by decide) (fun K hK => ?_)
               refine goes_ Try.func42 (by kernel_rfl) rfl #[.agg #[.int .i64 a1_0, .int .i64 a1_1, .slice A1_2 l1_2.length c1_2, .slice A1_3 l1_3.length c1_3], .int .i64 ((rd_T73 x6_3 x8_2).f1)] (by rfl) rfl rfl lQ ?_
               with_reducible refine (impl_Grammar_arcsOf.calls k3 a1_0 a1_1 _ _ l1_2 _ _ l1_3 ((rd_T73 x6_3 x8_2).f1) t260 _ ?side1 ?side2 ?side3 ?side4 A45.out).mono ?_
               (case side1 => exact cP (cB HR1_2.out HB.out))
               (case side2 => exact HC1_2.out)
               (case side3 => exact cP (cB HR1_3.out HB.out))
               (case side4 => exact HC1_3.out)
               rintro e w55 ⟨v261, rfl, ho0, hb⟩
               have HS4_ := (hb.cell (World.block_lt_of_cell? _ _ (hHeld.2.2.2.2.1))).trans (hHeld.2.2.2.2.1)
               have HS5_ := (hb.cell (World.block_lt_of_cell? _ _ (hHeld.2.2.2.2.2))).trans (hHeld.2.2.2.2.2)
               refine ⟨_, rfl, ?_⟩
               have z_ := bX hb (by repeat (first | (with_reducible first | exact HB.out | apply bA | apply bN | apply bD | refine bS ?_ GE244.out | refine bS ?_ GE245.out | refine bS ?_ GE246.out | refine bS ?_ GE252.out | refine bS ?_ GE258.out) | exact HB.out))
               have n0_ := Aside0.mk (rB (rQ HO_6) hb)
               have n1_ := Aside0.mk (rE (rQ HO_44) (Kd.R_base ho0) hb)
               have n2_ := Aside0.mk (rE (rQ HO_253003) (Kd.R_base ho0) hb)
               have n3_ := Aside0.mk (rL (Kd.R_newB (rW (rW ho0 (rT (rQ HO_44))) (rT (rQ HO_253003))) (kQ BK258)) (bZ z_))
               have n4_ := Aside0.mk (kB (kQ BK244) hb)
               have n5_ := Aside0.mk (kB (kQ BK245) hb)
               have n6_ := Aside0.mk (kB (kQ BK246) hb)
               have n7_ := Aside0.mk (kB (kQ BK252) hb)
               have n8_ := Aside0.mk (kB (kQ BK258) hb)
               have n9_ := Aside0.mk (bP z_ hb)
               clear HO_6
               clear HO_44
               clear HO_253003
               clear BK244
               clear BK245
               clear BK246
               clear BK252
               clear BK258
               clear HB
               have HO_6 := n0_
               have HO_44 := n1_
               have HO_253003 := n2_
               have HO262 := n3_
               have BK244 := n4_
               have BK245 := n5_
               have BK246 := n6_
               have BK252 := n7_
               have BK258 := n8_
               have HB := n9_
               clear z_ n0_ n1_ n2_ n3_ n4_ n5_ n6_ n7_ n8_ n9_
               (try clear hb)
               (try clear hb2)
               (try clear hk)
               (try clear hi)
               (try clear ho0)
               obtain ⟨Ao56, co56, eo56⟩ := Kd.R_slice HO262.out
               (first | subst eo56 | (injection eo56 with f1_ f2_ f3_; have f4_ := f1_.symm; have f5_ := f3_.symm; clear f1_ f2_ f3_; subst f4_; subst f5_))
               refine hK.out _ _ ⟨(kC BK245.out 0).trans rfl, (kC BK245.out 1).trans rfl, (kC BK245.out 2).trans rfl, (kC BK245.out 3).trans rfl, HS4_, HS5_⟩ (fun hHeld => ?_)
               clear hK K
               refine norm_ (a' := ?_) ?_ ?_
               rotate_left
               ·show Act.put _ (some 56) _ = _
                simp only [Act.put, sI, sZ, sS, iW, jW]
                rfl
               refine pure_ (i := 7) (N := some 57) (v := ?_) (a' := ?_) #[T,T,T,T,T,T,T,T,T] rfl rfl (any_of HT_.out (by kernel_rfl)) (fun _ _ _ h => h) (Or.inl ⟨by rfl, ?_⟩) ?_ ?_; rotate_left; (·intro w'; go_simp; with_reducible rfl); rotate_left; (·simp only [Act.put, sI, sZ, sS, iW, jW]; rfl)
               refine done_ (done_of HT_.out (by kernel_rfl)) ?_
               try go_wp2
               go_loopg [6, 58] k3 (fun kq v6 v58 w' => ∃ (x6_4 : List (S73)) (x58_4 : Int) (x253003_4 : List (S68)) (u253003 : Value), v58 = .int .i64 x58_4 ∧ Aside0 (impl_MeetGrammars.l2 kq x6_4 x8_2 t254 (t254.length : Int) x46_3 t260 (t260.length : Int) x58_4 a0_0 a0_1 l0_2 l0_3 a1_0 a1_1 l1_2 l1_3 0 0 x253003_4 ((rd_T68 t254 x46_3).f0) ((rd_T68 t254 x46_3).f1) ((rd_T68 t254 x46_3).f2) = some (r1, r2, r3, r4, r5)) ∧ Aside0 (kq ≤ k3) ∧ Aside0 (Kd.R k73 73 w' w.heap.size (fun _ => True) v6 x6_4) ∧ Aside0 (Kd.R k68 68 w' w.heap.size (fun k_ => some k_ ≠ ((.slice Ao56 t260.length co56) : Value).ownBlock ∧ some k_ ≠ (u253003 : Value).ownBlock ∧ k_ ≠ gb258) (.slice (some ad257) t254.length co39) t254) ∧ Aside0 (Kd.R k68 68 w' w.heap.size (fun k_ => some k_ ≠ ((.slice (some ad257) t254.length co39) : Value).ownBlock ∧ some k_ ≠ (u253003 : Value).ownBlock ∧ k_ ≠ gb258) (.slice Ao56 t260.length co56) t260) ∧ Aside0 (Kd.R k68 68 w' w.heap.size (fun k_ => some k_ ≠ ((.slice (some ad257) t254.length co39) : Value).ownBlock ∧ some k_ ≠ ((.slice Ao56 t260.length co56) : Value).ownBlock ∧ k_ ≠ gb258) u253003 x253003_4) ∧ Aside0 (w'.heap[gb244]? = some (.cells #[.int .i64 a0_0, .int .i64 a0_1, (.slice A0_2 l0_2.length c0_2), (.slice A0_3 l0_3.length c0_3)] 39 (0, 0))) ∧ Aside0 (w'.heap[gb245]? = some (.cells #[.int .i64 a1_0, .int .i64 a1_1, (.slice A1_2 l1_2.length c1_2), (.slice A1_3 l1_3.length c1_3)] 39 (0, 0))) ∧ Aside0 (w'.heap[gb246]? = some (.cells #[.int .i64 x247000_2, .int .i64 x247001_2, (.slice none 0 0), (.slice none 0 0)] 39 (0, 0))) ∧ Aside0 (w'.heap[gb252]? = some (.cells #[.int .i64 0, .int .i64 0, (.slice none 0 0), u253003] 39 (0, 0))) ∧ Aside0 (w'.heap[gb258]? = some (.cells #[.int .i64 ((rd_T68 t254 x46_3).f0), .int .i64 ((rd_T68 t254 x46_3).f1), .int .i64 ((rd_T68 t254 x46_3).f2)] 68 (0, 0))) ∧ Aside0 (Below w.heap.size w w'))
               case atStart => exact ⟨(x6_3), (0), (x253003_3), (u253003), eT, H', ⟨Nat.le_refl _⟩, ⟨rQ HO_6⟩, ⟨by (with_reducible repeat (first | apply rA | apply rN | apply rD)); exact rM HO_44.out (fun _ hk => ⟨hk.2, ⟨hk.1.1, hk.1.2⟩⟩)⟩, ⟨by (with_reducible repeat (first | apply rA | apply rN | apply rD)); exact rM HO262.out (fun _ hk => ⟨hk.1.1.2, ⟨hk.1.2, hk.2⟩⟩)⟩, ⟨by (with_reducible repeat (first | apply rA | apply rN | apply rD)); exact rM HO_253003.out (fun _ hk => ⟨hk.1.1, ⟨hk.2, hk.1.2⟩⟩)⟩, ⟨kQ BK244⟩, ⟨kQ BK245⟩, ⟨kQ BK246⟩, ⟨kQ BK252⟩, ⟨kQ BK258⟩, ⟨by repeat (first | (with_reducible first | exact HB.out | apply bA | apply bN | apply bD | refine bS ?_ GE244.out | refine bS ?_ GE245.out | refine bS ?_ GE246.out | refine bS ?_ GE252.out | refine bS ?_ GE258.out) | exact HB.out)⟩⟩
               case round =>
                clear H'
                try clear c1
                try clear c2
                try clear p2
                try clear q2
                try clear hx2
                try clear c3
                try clear c4
                try clear c5
                try clear c8
                try clear c10
                try clear c11
                try clear c14
                try clear c17
                try clear c18
                try clear c21
                try clear c22
                try clear c23
                try clear c25
                try clear p25
                try clear q25
                try clear hx25
                try clear c26
                try clear c28
                try clear c33
                try clear c33b0
                try clear c34
                try clear c34b0
                try clear c40
                try clear c40b0
                try clear c41
                try clear c41b0
                try clear c42
                try clear c42b0
                try clear c43
                try clear c43b0
                try clear c44
                try clear c44b0
                try clear c47
                try clear c48
                try clear c49
                try clear c50
                try clear hcz12_0
                try clear hcz12_1
                try clear hcz12_2
                try clear hcz12_3
                try clear hcz15_0
                try clear hcz15_1
                try clear hcz15_2
                try clear hcz15_3
                try clear hcz19_0
                try clear hcz19_1
                try clear hcz19_2
                try clear hcz19_3
                try clear hcz24_0
                try clear hcz24_1
                try clear hcz24_2
                try clear hcz24_3
                try clear hcz27_0
                try clear hcz27_1
                try clear hcz27_2
                try clear hcz27_3
                try clear hcz29_0
                try clear hcz29_1
                try clear hcz29_2
                try clear hcz29_3
                try clear hcz51_0
                try clear hcz51_1
                try clear hcz51_2
                try clear hfz12_0
                try clear hfz12_1
                try clear hfz12_2
                try clear hfz12_3
                try clear hfz15_0
                try clear hfz15_1
                try clear hfz15_2
                try clear hfz15_3
                try clear hfz19_0
                try clear hfz19_1
                try clear hfz19_2
                try clear hfz19_3
                try clear hfz24_0
                try clear hfz24_1
                try clear hfz24_2
                try clear hfz24_3
                try clear hfz27_0
                try clear hfz27_1
                try clear hfz27_2
                try clear hfz27_3
                try clear hfz29_0
                try clear hfz29_1
                try clear hfz29_2
                try clear hfz29_3
                try clear hfz51_0
                try clear hfz51_1
                try clear hfz51_2
                try clear hx253_0
                try clear hx253_1
                try clear hx257_0
                try clear hx257_1
                try clear hx257_2
                try clear hx259_0
                try clear hx259_1
                try clear p2
                try clear p25
                try clear p253
                try clear p257
                try clear p259
                try clear q2
                try clear q25
                try clear q253
                try clear q257
                try clear q259
                obtain ⟨x6_4, x58_4, x253003_4, u253003, rfl, HA, HK4, HO_6, HO_44, HO_56, HO_253003, BK244, BK245, BK246, BK252, BK258, HB⟩ := hrel
                cases gk with
                | zero => exact absurd HA.out (by simp [impl_MeetGrammars.l2])
                | succ k4 =>
                 have H := HA.out
                 clear HA
                 simp only [impl_MeetGrammars.l2] at H
                 by_cases c57 : x58_4 < (t260.length : Int)
                 ·rw [if_pos c57] at H
                  have c57b0 : decide (x58_4 < (t260.length : Int)) = true := decide_eq_true c57
                  clear c57
                  by_cases c58 : 0 ≤ x58_4
                  ·rw [if_pos c58] at H
                   have c58b0 : decide (0 ≤ x58_4) = true := decide_eq_true c58
                   clear c58
                   by_cases c59 : x58_4 < (t260.length : Int)
                   ·rw [if_pos c59] at H
                    have c59b0 : decide (x58_4 < (t260.length : Int)) = true := decide_eq_true c59
                    clear c59
                    by_cases c60 : ((rd_T68 t254 x46_3).f1) = ((rd_T68 t260 x58_4).f1)
                    ·rw [if_pos c60] at H
                     have c60b0 : (((rd_T68 t254 x46_3).f1) == ((rd_T68 t260 x58_4).f1)) = true := beq_iff_eq.mpr c60
                     have c60b1 : (((rd_T68 t254 x46_3).f1) != ((rd_T68 t260 x58_4).f1)) = false := bne_eq_false_iff_eq.mpr c60
                     clear c60
                     replace H := Option.bind_eq_some_iff.mp H
                     obtain ⟨t266, A610, H⟩ := H
                     replace H : (if t266 < 0 then (if x6_4.length < 8796093022208 then (if x253003_4.length < 5864062014805 then (impl_MeetGrammars.l2 k4 (x6_4 ++ [(⟨((rd_T68 t254 x46_3).f2), (rd_T68 t260 x58_4).f2⟩ : S73)]) x8_2 t254 (t254.length : Int) x46_3 t260 (t260.length : Int) (wrap64 (x58_4 + 1)) a0_0 a0_1 l0_2 l0_3 a1_0 a1_1 l1_2 l1_3 0 0 (x253003_4 ++ [(⟨x8_2, ((rd_T68 t254 x46_3).f1), (x6_4.length : Int)⟩ : S68)]) ((rd_T68 t254 x46_3).f0) ((rd_T68 t254 x46_3).f1) ((rd_T68 t254 x46_3).f2)) else (none)) else (none)) else (if x253003_4.length < 5864062014805 then (impl_MeetGrammars.l2 k4 x6_4 x8_2 t254 (t254.length : Int) x46_3 t260 (t260.length : Int) (wrap64 (x58_4 + 1)) a0_0 a0_1 l0_2 l0_3 a1_0 a1_1 l1_2 l1_3 0 0 (x253003_4 ++ [(⟨x8_2, ((rd_T68 t254 x46_3).f1), t266⟩ : S68)]) ((rd_T68 t254 x46_3).f0) ((rd_T68 t254 x46_3).f1) ((rd_T68 t254 x46_3).f2)) else (none))) = some (r1, r2, r3, r4, r5) := H
                     have A61 := Aside0.mk A610
                     clear A610
                     by_cases c62 : t266 < 0
                     ·rw [if_pos c62] at H
                      have c62b0 : decide (t266 < 0) = true := decide_eq_true c62
                      clear c62
                      by_cases c63 : x6_4.length < 8796093022208
                      ·rw [if_pos c63] at H
                       have LMc63 := Aside0.mk c63
                       clear c63
                       obtain ⟨y267, hy267⟩ : ∃ y_ : List (S73), y_ = (x6_4 ++ [(⟨((rd_T68 t254 x46_3).f2), (rd_T68 t260 x58_4).f2⟩ : S73)]) := ⟨_, rfl⟩
                       replace H : (if x253003_4.length < 5864062014805 then (impl_MeetGrammars.l2 k4 y267 x8_2 t254 (t254.length : Int) x46_3 t260 (t260.length : Int) (wrap64 (x58_4 + 1)) a0_0 a0_1 l0_2 l0_3 a1_0 a1_1 l1_2 l1_3 0 0 (x253003_4 ++ [(⟨x8_2, ((rd_T68 t254 x46_3).f1), (x6_4.length : Int)⟩ : S68)]) ((rd_T68 t254 x46_3).f0) ((rd_T68 t254 x46_3).f1) ((rd_T68 t254 x46_3).f2)) else (none)) = some (r1, r2, r3, r4, r5) := by first | (rw [hy267]; with_reducible exact H) | (have H2_ := (Option.bind_some _ _).symm.trans H; rw [hy267]; with_reducible exact H2_) | (have H2_ := (Option.bind_some _ _).symm.trans H; with_reducible exact H2_) | with_reducible exact H | (rw [hy267]; exact H) | exact H
                       have Ny267 := Aside0.mk hy267
                       clear hy267
                       by_cases c64 : x253003_4.length < 5864062014805
                       ·rw [if_pos c64] at H
                        have LMc64 := Aside0.mk c64
                        clear c64
                        obtain ⟨y270, hy270⟩ : ∃ y_ : List (S68), y_ = (x253003_4 ++ [(⟨x8_2, ((rd_T68 t254 x46_3).f1), (x6_4.length : Int)⟩ : S68)]) := ⟨_, rfl⟩
                        replace H : (impl_MeetGrammars.l2 k4 y267 x8_2 t254 (t254.length : Int) x46_3 t260 (t260.length : Int) (wrap64 (x58_4 + 1)) a0_0 a0_1 l0_2 l0_3 a1_0 a1_1 l1_2 l1_3 0 0 y270 ((rd_T68 t254 x46_3).f0) ((rd_T68 t254 x46_3).f1) ((rd_T68 t254 x46_3).f2)) = some (r1, r2, r3, r4, r5) := by first | (rw [hy270]; with_reducible exact H) | (have H2_ := (Option.bind_some _ _).symm.trans H; rw [hy270]; with_reducible exact H2_) | (have H2_ := (Option.bind_some _ _).symm.trans H; with_reducible exact H2_) | with_reducible exact H | (rw [hy270]; exact H) | exact H
                        have Ny270 := Aside0.mk hy270
                        clear hy270
                        have H' := Aside0.mk H
                        clear H
                        have p263 : 0 ≤ (x58_4 : Int) := oT
                        have q263 : x58_4 < (t260.length : Int) := oT
                        obtain ⟨ad263, e263, hx263_0, hx263_1, hx263_2⟩ := at_T68 (Kd.R_reads' HO_56.out).2.2 x58_4 p263 q263
                        cases e263
                        replace p263 := eq_true p263
                        replace q263 := eq_true q263
                        go_wp2_with (first | ((with_reducible refine gate_dst (N := 12) rfl ?_); (try (refine gate_guard (by rfl) ?_; dsimp only)); refine bE ?hg (N := 12) ?hd (cs := #[.int .i64 0, .int .i64 0, .int .i64 0]) (t := 68) ?hr ?_; (case hd => rfl); (case hg => rfl); (case hr => first | (go_simp; done) | (go_simp; rfl)); intro gb264 hg w65 hbox hb; have z_ := bX hb (by repeat (first | (with_reducible first | exact HB.out | apply bA | apply bN | apply bD | refine bS ?_ GE244.out | refine bS ?_ GE245.out | refine bS ?_ GE246.out | refine bS ?_ GE252.out | refine bS ?_ GE258.out) | exact HB.out)); have n0_ := Aside0.mk (rB (rQ HO_6) hb); have n1_ := Aside0.mk (rB (Kd.R_elderB (rQ HO_44) gb264 (Nat.le_of_eq hg.symm)) hb); have n2_ := Aside0.mk (rB (Kd.R_elderB (rQ HO_56) gb264 (Nat.le_of_eq hg.symm)) hb); have n3_ := Aside0.mk (rB (Kd.R_elderB (rQ HO_253003) gb264 (Nat.le_of_eq hg.symm)) hb); have n4_ := Aside0.mk (kB (kQ BK244) hb); have n5_ := Aside0.mk (kB (kQ BK245) hb); have n6_ := Aside0.mk (kB (kQ BK246) hb); have n7_ := Aside0.mk (kB (kQ BK252) hb); have n8_ := Aside0.mk (kB (kQ BK258) hb); have n9_ := Aside0.mk (bP z_ hb); have n10_ := Aside0.mk (hbox); have n11_ := Aside0.mk ((by rw [hg]; exact (bZ z_) : w.heap.size ≤ gb264)); have n12_ := Aside0.mk ((by rw [hg]; exact (bZ z_) : w.heap.size ≤ gb264)); have n13_ := Aside0.mk ((by rw [hg]; exact Nat.ne_of_lt (kL (kQ BK244)) : gb244 ≠ gb264)); have n14_ := Aside0.mk ((by rw [hg]; exact Nat.ne_of_gt (kL (kQ BK244)) : gb264 ≠ gb244)); have n15_ := Aside0.mk ((by rw [hg]; exact Nat.ne_of_lt (kL (kQ BK245)) : gb245 ≠ gb264)); have n16_ := Aside0.mk ((by rw [hg]; exact Nat.ne_of_gt (kL (kQ BK245)) : gb264 ≠ gb245)); have n17_ := Aside0.mk ((by rw [hg]; exact Nat.ne_of_lt (kL (kQ BK246)) : gb246 ≠ gb264)); have n18_ := Aside0.mk ((by rw [hg]; exact Nat.ne_of_gt (kL (kQ BK246)) : gb264 ≠ gb246)); have n19_ := Aside0.mk ((by rw [hg]; exact Nat.ne_of_lt (kL (kQ BK252)) : gb252 ≠ gb264)); have n20_ := Aside0.mk ((by rw [hg]; exact Nat.ne_of_gt (kL (kQ BK252)) : gb264 ≠ gb252)); have n21_ := Aside0.mk ((by rw [hg]; exact Nat.ne_of_lt (kL (kQ BK258)) : gb258 ≠ gb264)); have n22_ := Aside0.mk ((by rw [hg]; exact Nat.ne_of_gt (kL (kQ BK258)) : gb264 ≠ gb258)); clear HO_6; clear HO_44; clear HO_56; clear HO_253003; clear BK244; clear BK245; clear BK246; clear BK252; clear BK258; clear HB; have HO_6 := n0_; have HO_44 := n1_; have HO_56 := n2_; have HO_253003 := n3_; have BK244 := n4_; have BK245 := n5_; have BK246 := n6_; have BK252 := n7_; have BK258 := n8_; have HB := n9_; have BK264 := n10_; have GW264 := n11_; have GE264 := n12_; have NB244_264 := n13_; have NB264_244 := n14_; have NB245_264 := n15_; have NB264_245 := n16_; have NB246_264 := n17_; have NB264_246 := n18_; have NB252_264 := n19_; have NB264_252 := n20_; have NB258_264 := n21_; have NB264_258 := n22_; clear z_ n0_ n1_ n2_ n3_ n4_ n5_ n6_ n7_ n8_ n9_ n10_ n11_ n12_ n13_ n14_ n15_ n16_ n17_ n18_ n19_ n20_ n21_ n22_; clear hb hbox hg; have hnb66 := NB264_244.out; have hnc66 := NB244_264.out; have hnb67 := NB264_245.out; have hnc67 := NB245_264.out; have hnb68 := NB264_246.out; have hnc68 := NB246_264.out; have hnb69 := NB264_252.out; have hnc69 := NB252_264.out; have hnb70 := NB264_258.out; have hnc70 := NB258_264.out; obtain ⟨hcz71_0, hcz71_1, hcz71_2⟩ := cZ3 BK264.out; obtain ⟨hfz71_0, hfz71_1, hfz71_2⟩ := fZ3 BK264.out; have hnb72 := NB258_244.out; have hnc72 := NB244_258.out; have hnb73 := NB258_245.out; have hnc73 := NB245_258.out; have hnb74 := NB258_246.out; have hnc74 := NB246_258.out; have hnb75 := NB258_252.out; have hnc75 := NB252_258.out; have hcz76_0 : w65.cell? ⟨gb258, 0, none⟩ = some (.int .i64 ((rd_T68 t254 x46_3).f0)) := (kC BK258.out 0).trans rfl; have hcz76_1 : w65.cell? ⟨gb258, 1, none⟩ = some (.int .i64 ((rd_T68 t254 x46_3).f1)) := (kC BK258.out 1).trans rfl; have hcz76_2 : w65.cell? ⟨gb258, 2, none⟩ = some (.int .i64 ((rd_T68 t254 x46_3).f2)) := (kC BK258.out 2).trans rfl; obtain ⟨hfz76_0, hfz76_1, hfz76_2⟩ := fZ3 BK258.out) | ((with_reducible refine gate_dst (N := 13) rfl ?_); (try (refine gate_guard (by rfl) ?_; dsimp only)); refine bE ?hg (N := 13) ?hd (cs := #[.int .i64 0, .int .i64 0]) (t := 73) ?hr ?_; (case hd => rfl); (case hg => rfl); (case hr => first | (go_simp; done) | (go_simp; rfl)); intro gb265 hg w77 hbox hb; have z_ := bX hb (by repeat (first | (with_reducible first | exact HB.out | apply bA | apply bN | apply bD | refine bS ?_ GE244.out | refine bS ?_ GE245.out | refine bS ?_ GE246.out | refine bS ?_ GE252.out | refine bS ?_ GE258.out | refine bS ?_ GE264.out) | exact HB.out)); have n0_ := Aside0.mk (rB (Kd.R_elderB (by (with_reducible repeat (first | apply rA | apply rN | apply rD)); exact (rM (Kd.R_far (p := ⟨gb264, 2, none⟩) (Kd.R_far (p := ⟨gb264, 1, none⟩) (Kd.R_far (p := ⟨gb264, 0, none⟩) (Kd.R_types HO_6.out BK264.out (by decide)) (fun _ hk => hk.2) (.int .i64 ((rd_T68 t260 x58_4).f0))) (fun _ hk => hk.2) (.int .i64 ((rd_T68 t260 x58_4).f1))) (fun _ hk => hk.2) (.int .i64 ((rd_T68 t260 x58_4).f2))) (fun _ h_ => h_.1))) gb265 (Nat.le_of_eq hg.symm)) hb); have n1_ := Aside0.mk (rB (by (with_reducible repeat (first | apply rA | apply rN | apply rD)); exact (rM (Kd.R_far (p := ⟨gb264, 2, none⟩) (Kd.R_far (p := ⟨gb264, 1, none⟩) (Kd.R_far (p := ⟨gb264, 0, none⟩) (rM HO_44.out (fun k_ hk => (⟨hk, hk.2⟩ : _ ∧ k_ ≠ gb264))) (fun _ hk => hk.2) (.int .i64 ((rd_T68 t260 x58_4).f0))) (fun _ hk => hk.2) (.int .i64 ((rd_T68 t260 x58_4).f1))) (fun _ hk => hk.2) (.int .i64 ((rd_T68 t260 x58_4).f2))) (fun _ h_ => h_.1))) hb); have n2_ := Aside0.mk (rB (by (with_reducible repeat (first | apply rA | apply rN | apply rD)); exact (rM (Kd.R_far (p := ⟨gb264, 2, none⟩) (Kd.R_far (p := ⟨gb264, 1, none⟩) (Kd.R_far (p := ⟨gb264, 0, none⟩) (rM HO_56.out (fun k_ hk => (⟨hk, hk.2⟩ : _ ∧ k_ ≠ gb264))) (fun _ hk => hk.2) (.int .i64 ((rd_T68 t260 x58_4).f0))) (fun _ hk => hk.2) (.int .i64 ((rd_T68 t260 x58_4).f1))) (fun _ hk => hk.2) (.int .i64 ((rd_T68 t260 x58_4).f2))) (fun _ h_ => h_.1))) hb); have n3_ := Aside0.mk (rB (by (with_reducible repeat (first | apply rA | apply rN | apply rD)); exact (rM (Kd.R_far (p := ⟨gb264, 2, none⟩) (Kd.R_far (p := ⟨gb264, 1, none⟩) (Kd.R_far (p := ⟨gb264, 0, none⟩) (rM HO_253003.out (fun k_ hk => (⟨hk, hk.2⟩ : _ ∧ k_ ≠ gb264))) (fun _ hk => hk.2) (.int .i64 ((rd_T68 t260 x58_4).f0))) (fun _ hk => hk.2) (.int .i64 ((rd_T68 t260 x58_4).f1))) (fun _ hk => hk.2) (.int .i64 ((rd_T68 t260 x58_4).f2))) (fun _ h_ => h_.1))) hb); have n4_ := Aside0.mk (kB (g := gb244) (o := .cells #[.int .i64 a0_0, .int .i64 a0_1, .slice A0_2 l0_2.length c0_2, .slice A0_3 l0_3.length c0_3] 39 (0, 0)) (by (with_reducible repeat (first | refine kN ?_ _ | refine kD ?_ | refine kA ?_ _)); refine kF ?_ NB244_264.out _; (with_reducible repeat (first | refine kN ?_ _ | refine kD ?_ | refine kA ?_ _)); refine kF ?_ NB244_264.out _; (with_reducible repeat (first | refine kN ?_ _ | refine kD ?_ | refine kA ?_ _)); refine kF ?_ NB244_264.out _; (with_reducible repeat (first | refine kN ?_ _ | refine kD ?_ | refine kA ?_ _)); exact BK244.out) hb); have n5_ := Aside0.mk (kB (g := gb245) (o := .cells #[.int .i64 a1_0, .int .i64 a1_1, .slice A1_2 l1_2.length c1_2, .slice A1_3 l1_3.length c1_3] 39 (0, 0)) (by (with_reducible repeat (first | refine kN ?_ _ | refine kD ?_ | refine kA ?_ _)); refine kF ?_ NB245_264.out _; (with_reducible repeat (first | refine kN ?_ _ | refine kD ?_ | refine kA ?_ _)); refine kF ?_ NB245_264.out _; (with_reducible repeat (first | refine kN ?_ _ | refine kD ?_ | refine kA ?_ _)); refine kF ?_ NB245_264.out _; (with_reducible repeat (first | refine kN ?_ _ | refine kD ?_ | refine kA ?_ _)); exact BK245.out) hb); have n6_ := Aside0.mk (kB (g := gb246) (o := .cells #[.int .i64 x247000_2, .int .i64 x247001_2, .slice none 0 0, .slice none 0 0] 39 (0, 0)) (by (with_reducible repeat (first | refine kN ?_ _ | refine kD ?_ | refine kA ?_ _)); refine kF ?_ NB246_264.out _; (with_reducible repeat (first | refine kN ?_ _ | refine kD ?_ | refine kA ?_ _)); refine kF ?_ NB246_264.out _; (with_reducible repeat (first | refine kN ?_ _ | refine kD ?_ | refine kA ?_ _)); refine kF ?_ NB246_264.out _; (with_reducible repeat (first | refine kN ?_ _ | refine kD ?_ | refine kA ?_ _)); exact BK246.out) hb); have n7_ := Aside0.mk (kB (g := gb252) (o := .cells #[.int .i64 0, .int .i64 0, .slice none 0 0, u253003] 39 (0, 0)) (by (with_reducible repeat (first | refine kN ?_ _ | refine kD ?_ | refine kA ?_ _)); refine kF ?_ NB252_264.out _; (with_reducible repeat (first | refine kN ?_ _ | refine kD ?_ | refine kA ?_ _)); refine kF ?_ NB252_264.out _; (with_reducible repeat (first | refine kN ?_ _ | refine kD ?_ | refine kA ?_ _)); refine kF ?_ NB252_264.out _; (with_reducible repeat (first | refine kN ?_ _ | refine kD ?_ | refine kA ?_ _)); exact BK252.out) hb); have n8_ := Aside0.mk (kB (g := gb258) (o := .cells #[.int .i64 ((rd_T68 t254 x46_3).f0), .int .i64 ((rd_T68 t254 x46_3).f1), .int .i64 ((rd_T68 t254 x46_3).f2)] 68 (0, 0)) (by (with_reducible repeat (first | refine kN ?_ _ | refine kD ?_ | refine kA ?_ _)); refine kF ?_ NB258_264.out _; (with_reducible repeat (first | refine kN ?_ _ | refine kD ?_ | refine kA ?_ _)); refine kF ?_ NB258_264.out _; (with_reducible repeat (first | refine kN ?_ _ | refine kD ?_ | refine kA ?_ _)); refine kF ?_ NB258_264.out _; (with_reducible repeat (first | refine kN ?_ _ | refine kD ?_ | refine kA ?_ _)); exact BK258.out) hb); have n9_ := Aside0.mk (kB (g := gb264) (o := .cells #[.int .i64 ((rd_T68 t260 x58_4).f0), .int .i64 ((rd_T68 t260 x58_4).f1), .int .i64 ((rd_T68 t260 x58_4).f2)] 68 (0, 0)) (by (with_reducible repeat (first | refine kN ?_ _ | refine kD ?_ | refine kA ?_ _)); refine blk_put (cs := #[.int .i64 ((rd_T68 t260 x58_4).f0), .int .i64 ((rd_T68 t260 x58_4).f1), .int .i64 0]) ?_ 2 _ rfl; (with_reducible repeat (first | refine kN ?_ _ | refine kD ?_ | refine kA ?_ _)); refine blk_put (cs := #[.int .i64 ((rd_T68 t260 x58_4).f0), .int .i64 0, .int .i64 0]) ?_ 1 _ rfl; (with_reducible repeat (first | refine kN ?_ _ | refine kD ?_ | refine kA ?_ _)); refine blk_put (cs := #[.int .i64 0, .int .i64 0, .int .i64 0]) ?_ 0 _ rfl; (with_reducible repeat (first | refine kN ?_ _ | refine kD ?_ | refine kA ?_ _)); exact BK264.out) hb); have n10_ := Aside0.mk (bP z_ hb); have n11_ := Aside0.mk (hbox); have n12_ := Aside0.mk ((by rw [hg]; exact (bZ z_) : w.heap.size ≤ gb265)); have n13_ := Aside0.mk ((by rw [hg]; exact (bZ z_) : w.heap.size ≤ gb265)); have n14_ := Aside0.mk ((by rw [hg]; exact Nat.ne_of_lt (kL (g := gb244) (o := .cells #[.int .i64 a0_0, .int .i64 a0_1, .slice A0_2 l0_2.length c0_2, .slice A0_3 l0_3.length c0_3] 39 (0, 0)) (by (with_reducible repeat (first | refine kN ?_ _ | refine kD ?_ | refine kA ?_ _)); refine kF ?_ NB244_264.out _; (with_reducible repeat (first | refine kN ?_ _ | refine kD ?_ | refine kA ?_ _)); refine kF ?_ NB244_264.out _; (with_reducible repeat (first | refine kN ?_ _ | refine kD ?_ | refine kA ?_ _)); refine kF ?_ NB244_264.out _; (with_reducible repeat (first | refine kN ?_ _ | refine kD ?_ | refine kA ?_ _)); exact BK244.out)) : gb244 ≠ gb265)); have n15_ := Aside0.mk ((by rw [hg]; exact Nat.ne_of_gt (kL (g := gb244) (o := .cells #[.int .i64 a0_0, .int .i64 a0_1, .slice A0_2 l0_2.length c0_2, .slice A0_3 l0_3.length c0_3] 39 (0, 0)) (by (with_reducible repeat (first | refine kN ?_ _ | refine kD ?_ | refine kA ?_ _)); refine kF ?_ NB244_264.out _; (with_reducible repeat (first | refine kN ?_ _ | refine kD ?_ | refine kA ?_ _)); refine kF ?_ NB244_264.out _; (with_reducible repeat (first | refine kN ?_ _ | refine kD ?_ | refine kA ?_ _)); refine kF ?_ NB244_264.out _; (with_reducible repeat (first | refine kN ?_ _ | refine kD ?_ | refine kA ?_ _)); exact BK244.out)) : gb265 ≠ gb244)); have n16_ := Aside0.mk ((by rw [hg]; exact Nat.ne_of_lt (kL (g := gb245) (o := .cells #[.int .i64 a1_0, .int .i64 a1_1, .slice A1_2 l1_2.length c1_2, .slice A1_3 l1_3.length c1_3] 39 (0, 0)) (by (with_reducible repeat (first | refine kN ?_ _ | refine kD ?_ | refine kA ?_ _)); refine kF ?_ NB245_264.out _; (with_reducible repeat (first | refine kN ?_ _ | refine kD ?_ | refine kA ?_ _)); refine kF ?_ NB245_264.out _; (with_reducible repeat (first | refine kN ?_ _ | refine kD ?_ | refine kA ?_ _)); refine kF ?_ NB245_264.out _; (with_reducible repeat (first | refine kN ?_ _ | refine kD ?_ | refine kA ?_ _)); exact BK245.out)) : gb245 ≠ gb265)); have n17_ := Aside0.mk ((by rw [hg]; exact Nat.ne_of_gt (kL (g := gb245) (o := .cells #[.int .i64 a1_0, .int .i64 a1_1, .slice A1_2 l1_2.length c1_2, .slice A1_3 l1_3.length c1_3] 39 (0, 0)) (by (with_reducible repeat (first | refine kN ?_ _ | refine kD ?_ | refine kA ?_ _)); refine kF ?_ NB245_264.out _; (with_reducible repeat (first | refine kN ?_ _ | refine kD ?_ | refine kA ?_ _)); refine kF ?_ NB245_264.out _; (with_reducible repeat (first | refine kN ?_ _ | refine kD ?_ | refine kA ?_ _)); refine kF ?_ NB245_264.out _; (with_reducible repeat (first | refine kN ?_ _ | refine kD ?_ | refine kA ?_ _)); exact BK245.out)) : gb265 ≠ gb245)); have n18_ := Aside0.mk ((by rw [hg]; exact Nat.ne_of_lt (kL (g := gb246) (o := .cells #[.int .i64 x247000_2, .int .i64 x247001_2, .slice none 0 0, .slice none 0 0] 39 (0, 0)) (by (with_reducible repeat (first | refine kN ?_ _ | refine kD ?_ | refine kA ?_ _)); refine kF ?_ NB246_264.out _; (with_reducible repeat (first | refine kN ?_ _ | refine kD ?_ | refine kA ?_ _)); refine kF ?_ NB246_264.out _; (with_reducible repeat (first | refine kN ?_ _ | refine kD ?_ | refine kA ?_ _)); refine kF ?_ NB246_264.out _; (with_reducible repeat (first | refine kN ?_ _ | refine kD ?_ | refine kA ?_ _)); exact BK246.out)) : gb246 ≠ gb265)); have n19_ := Aside0.mk ((by rw [hg]; exact Nat.ne_of_gt (kL (g := gb246) (o := .cells #[.int .i64 x247000_2, .int .i64 x247001_2, .slice none 0 0, .slice none 0 0] 39 (0, 0)) (by (with_reducible repeat (first | refine kN ?_ _ | refine kD ?_ | refine kA ?_ _)); refine kF ?_ NB246_264.out _; (with_reducible repeat (first | refine kN ?_ _ | refine kD ?_ | refine kA ?_ _)); refine kF ?_ NB246_264.out _; (with_reducible repeat (first | refine kN ?_ _ | refine kD ?_ | refine kA ?_ _)); refine kF ?_ NB246_264.out _; (with_reducible repeat (first | refine kN ?_ _ | refine kD ?_ | refine kA ?_ _)); exact BK246.out)) : gb265 ≠ gb246)); have n20_ := Aside0.mk ((by rw [hg]; exact Nat.ne_of_lt (kL (g := gb252) (o := .cells #[.int .i64 0, .int .i64 0, .slice none 0 0, u253003] 39 (0, 0)) (by (with_reducible repeat (first | refine kN ?_ _ | refine kD ?_ | refine kA ?_ _)); refine kF ?_ NB252_264.out _; (with_reducible repeat (first | refine kN ?_ _ | refine kD ?_ | refine kA ?_ _)); refine kF ?_ NB252_264.out _; (with_reducible repeat (first | refine kN ?_ _ | refine kD ?_ | refine kA ?_ _)); refine kF ?_ NB252_264.out _; (with_reducible repeat (first | refine kN ?_ _ | refine kD ?_ | refine kA ?_ _)); exact BK252.out)) : gb252 ≠ gb265)); have n21_ := Aside0.mk ((by rw [hg]; exact Nat.ne_of_gt (kL (g := gb252) (o := .cells #[.int .i64 0, .int .i64 0, .slice none 0 0, u253003] 39 (0, 0)) (by (with_reducible repeat (first | refine kN ?_ _ | refine kD ?_ | refine kA ?_ _)); refine kF ?_ NB252_264.out _; (with_reducible repeat (first | refine kN ?_ _ | refine kD ?_ | refine kA ?_ _)); refine kF ?_ NB252_264.out _; (with_reducible repeat (first | refine kN ?_ _ | refine kD ?_ | refine kA ?_ _)); refine kF ?_ NB252_264.out _; (with_reducible repeat (first | refine kN ?_ _ | refine kD ?_ | refine kA ?_ _)); exact BK252.out)) : gb265 ≠ gb252)); have n22_ := Aside0.mk ((by rw [hg]; exact Nat.ne_of_lt (kL (g := gb258) (o := .cells #[.int .i64 ((rd_T68 t254 x46_3).f0), .int .i64 ((rd_T68 t254 x46_3).f1), .int .i64 ((rd_T68 t254 x46_3).f2)] 68 (0, 0)) (by (with_reducible repeat (first | refine kN ?_ _ | refine kD ?_ | refine kA ?_ _)); refine kF ?_ NB258_264.out _; (with_reducible repeat (first | refine kN ?_ _ | refine kD ?_ | refine kA ?_ _)); refine kF ?_ NB258_264.out _; (with_reducible repeat (first | refine kN ?_ _ | refine kD ?_ | refine kA ?_ _)); refine kF ?_ NB258_264.out _; (with_reducible repeat (first | refine kN ?_ _ | refine kD ?_ | refine kA ?_ _)); exact BK258.out)) : gb258 ≠ gb265)); have n23_ := Aside0.mk ((by rw [hg]; exact Nat.ne_of_gt (kL (g := gb258) (o := .cells #[.int .i64 ((rd_T68 t254 x46_3).f0), .int .i64 ((rd_T68 t254 x46_3).f1), .int .i64 ((rd_T68 t254 x46_3).f2)] 68 (0, 0)) (by (with_reducible repeat (first | refine kN ?_ _ | refine kD ?_ | refine kA ?_ _)); refine kF ?_ NB258_264.out _; (with_reducible repeat (first | refine kN ?_ _ | refine kD ?_ | refine kA ?_ _)); refine kF ?_ NB258_264.out _; (with_reducible repeat (first | refine kN ?_ _ | refine kD ?_ | refine kA ?_ _)); refine kF ?_ NB258_264.out _; (with_reducible repeat (first | refine kN ?_ _ | refine kD ?_ | refine kA ?_ _)); exact BK258.out)) : gb265 ≠ gb258)); have n24_ := Aside0.mk ((by rw [hg]; exact Nat.ne_of_lt (kL (g := gb264) (o := .cells #[.int .i64 ((rd_T68 t260 x58_4).f0), .int .i64 ((rd_T68 t260 x58_4).f1), .int .i64 ((rd_T68 t260 x58_4).f2)] 68 (0, 0)) (by (with_reducible repeat (first | refine kN ?_ _ | refine kD ?_ | refine kA ?_ _)); refine blk_put (cs := #[.int .i64 ((rd_T68 t260 x58_4).f0), .int .i64 ((rd_T68 t260 x58_4).f1), .int .i64 0]) ?_ 2 _ rfl; (with_reducible repeat (first | refine kN ?_ _ | refine kD ?_ | refine kA ?_ _)); refine blk_put (cs := #[.int .i64 ((rd_T68 t260 x58_4).f0), .int .i64 0, .int .i64 0]) ?_ 1 _ rfl; (with_reducible repeat (first | refine kN ?_ _ | refine kD ?_ | refine kA ?_ _)); refine blk_put (cs := #[.int .i64 0, .int .i64 0, .int .i64 0]) ?_ 0 _ rfl; (with_reducible repeat (first | refine kN ?_ _ | refine kD ?_ | refine kA ?_ _)); exact BK264.out)) : gb264 ≠ gb265)); have n25_ := Aside0.mk ((by rw [hg]; exact Nat.ne_of_gt (kL (g := gb264) (o := .cells #[.int .i64 ((rd_T68 t260 x58_4).f0), .int .i64 ((rd_T68 t260 x58_4).f1), .int .i64 ((rd_T68 t260 x58_4).f2)] 68 (0, 0)) (by (with_reducible repeat (first | refine kN ?_ _ | refine kD ?_ | refine kA ?_ _)); refine blk_put (cs := #[.int .i64 ((rd_T68 t260 x58_4).f0), .int .i64 ((rd_T68 t260 x58_4).f1), .int .i64 0]) ?_ 2 _ rfl; (with_reducible repeat (first | refine kN ?_ _ | refine kD ?_ | refine kA ?_ _)); refine blk_put (cs := #[.int .i64 ((rd_T68 t260 x58_4).f0), .int .i64 0, .int .i64 0]) ?_ 1 _ rfl; (with_reducible repeat (first | refine kN ?_ _ | refine kD ?_ | refine kA ?_ _)); refine blk_put (cs := #[.int .i64 0, .int .i64 0, .int .i64 0]) ?_ 0 _ rfl; (with_reducible repeat (first | refine kN ?_ _ | refine kD ?_ | refine kA ?_ _)); exact BK264.out)) : gb265 ≠ gb264)); clear HO_6; clear HO_44; clear HO_56; clear HO_253003; clear BK244; clear BK245; clear BK246; clear BK252; clear BK258; clear BK264; clear HB; have HO_6 := n0_; have HO_44 := n1_; have HO_56 := n2_; have HO_253003 := n3_; have BK244 := n4_; have BK245 := n5_; have BK246 := n6_; have BK252 := n7_; have BK258 := n8_; have BK264 := n9_; have HB := n10_; have BK265 := n11_; have GW265 := n12_; have GE265 := n13_; have NB244_265 := n14_; have NB265_244 := n15_; have NB245_265 := n16_; have NB265_245 := n17_; have NB246_265 := n18_; have NB265_246 := n19_; have NB252_265 := n20_; have NB265_252 := n21_; have NB258_265 := n22_; have NB265_258 := n23_; have NB264_265 := n24_; have NB265_264 := n25_; clear z_ n0_ n1_ n2_ n3_ n4_ n5_ n6_ n7_ n8_ n9_ n10_ n11_ n12_ n13_ n14_ n15_ n16_ n17_ n18_ n19_ n20_ n21_ n22_ n23_ n24_ n25_; clear hb hbox hg; have hnb78 := NB265_244.out; have hnc78 := NB244_265.out; have hnb79 := NB265_245.out; have hnc79 := NB245_265.out; have hnb80 := NB265_246.out; have hnc80 := NB246_265.out; have hnb81 := NB265_252.out; have hnc81 := NB252_265.out; have hnb82 := NB265_258.out; have hnc82 := NB258_265.out; have hnb83 := NB265_264.out; have hnc83 := NB264_265.out; obtain ⟨hcz84_0, hcz84_1⟩ := cZ2 BK265.out; obtain ⟨hfz84_0, hfz84_1⟩ := fZ2 BK265.out; obtain ⟨Ao85, co85, eo85⟩ := Kd.R_slice HO_6.out; subst eo85) | ((with_reducible refine gC (f := 43) rfl ?_); refine goesL_ (some 74) rfl rfl Try.func43 (by kernel_rfl) rfl #[.slice Ao85 x6_4.length co85, .agg #[.int .i64 ((rd_T68 t254 x46_3).f2), .int .i64 ((rd_T68 t260 x58_4).f2)]] rfl lQ ?_; (with_reducible refine (slices_Index_2_int64_2_int64.calls k4 _ _ x6_4 ((rd_T68 t254 x46_3).f2) ((rd_T68 t260 x58_4).f2) t266 _ ?side1 ?side2 A61.out).mono ?_); (case side1 => refine (Kd.R_reads' (e := 73) (base := w.heap.size) (ok := fun k_ => (True ∧ k_ ≠ gb265)) (n := x6_4.length) (c := co85) ?_).2.2; exact (by (with_reducible repeat (first | apply rA | apply rN | apply rD)); exact (rM (Kd.R_far (p := ⟨gb265, 1, none⟩) (Kd.R_far (p := ⟨gb265, 0, none⟩) (rM HO_6.out (fun k_ hk => (⟨hk, hk.2⟩ : _ ∧ k_ ≠ gb265))) (fun _ hk => hk.2) (.int .i64 ((rd_T68 t254 x46_3).f2))) (fun _ hk => hk.2) (.int .i64 ((rd_T68 t260 x58_4).f2))) (fun _ h_ => h_.1)))); (case side2 => exact (Kd.R_reads' HO_6.out).2.1); rintro e w86 ⟨rfl, hb⟩; refine ⟨_, rfl, ?_⟩; have n0_ := Aside0.mk (rB (by (with_reducible repeat (first | apply rA | apply rN | apply rD)); exact (rM (Kd.R_far (p := ⟨gb265, 1, none⟩) (Kd.R_far (p := ⟨gb265, 0, none⟩) (rM HO_6.out (fun k_ hk => (⟨hk, hk.2⟩ : _ ∧ k_ ≠ gb265))) (fun _ hk => hk.2) (.int .i64 ((rd_T68 t254 x46_3).f2))) (fun _ hk => hk.2) (.int .i64 ((rd_T68 t260 x58_4).f2))) (fun _ h_ => h_.1))) hb); have n1_ := Aside0.mk (rB (by (with_reducible repeat (first | apply rA | apply rN | apply rD)); exact (rM (Kd.R_far (p := ⟨gb265, 1, none⟩) (Kd.R_far (p := ⟨gb265, 0, none⟩) (Kd.R_types HO_44.out BK265.out (by decide)) (fun _ hk => hk.2) (.int .i64 ((rd_T68 t254 x46_3).f2))) (fun _ hk => hk.2) (.int .i64 ((rd_T68 t260 x58_4).f2))) (fun _ h_ => h_.1))) hb); have n2_ := Aside0.mk (rB (by (with_reducible repeat (first | apply rA | apply rN | apply rD)); exact (rM (Kd.R_far (p := ⟨gb265, 1, none⟩) (Kd.R_far (p := ⟨gb265, 0, none⟩) (Kd.R_types HO_56.out BK265.out (by decide)) (fun _ hk => hk.2) (.int .i64 ((rd_T68 t254 x46_3).f2))) (fun _ hk => hk.2) (.int .i64 ((rd_T68 t260 x58_4).f2))) (fun _ h_ => h_.1))) hb); have n3_ := Aside0.mk (rB (by (with_reducible repeat (first | apply rA | apply rN | apply rD)); exact (rM (Kd.R_far (p := ⟨gb265, 1, none⟩) (Kd.R_far (p := ⟨gb265, 0, none⟩) (Kd.R_types HO_253003.out BK265.out (by decide)) (fun _ hk => hk.2) (.int .i64 ((rd_T68 t254 x46_3).f2))) (fun _ hk => hk.2) (.int .i64 ((rd_T68 t260 x58_4).f2))) (fun _ h_ => h_.1))) hb); have n4_ := Aside0.mk (kB (g := gb244) (o := .cells #[.int .i64 a0_0, .int .i64 a0_1, .slice A0_2 l0_2.length c0_2, .slice A0_3 l0_3.length c0_3] 39 (0, 0)) (by (with_reducible repeat (first | refine kN ?_ _ | refine kD ?_ | refine kA ?_ _)); refine kF ?_ NB244_265.out _; (with_reducible repeat (first | refine kN ?_ _ | refine kD ?_ | refine kA ?_ _)); refine kF ?_ NB244_265.out _; (with_reducible repeat (first | refine kN ?_ _ | refine kD ?_ | refine kA ?_ _)); exact BK244.out) hb); have n5_ := Aside0.mk (kB (g := gb245) (o := .cells #[.int .i64 a1_0, .int .i64 a1_1, .slice A1_2 l1_2.length c1_2, .slice A1_3 l1_3.length c1_3] 39 (0, 0)) (by (with_reducible repeat (first | refine kN ?_ _ | refine kD ?_ | refine kA ?_ _)); refine kF ?_ NB245_265.out _; (with_reducible repeat (first | refine kN ?_ _ | refine kD ?_ | refine kA ?_ _)); refine kF ?_ NB245_265.out _; (with_reducible repeat (first | refine kN ?_ _ | refine kD ?_ | refine kA ?_ _)); exact BK245.out) hb); have n6_ := Aside0.mk (kB (g := gb246) (o := .cells #[.int .i64 x247000_2, .int .i64 x247001_2, .slice none 0 0, .slice none 0 0] 39 (0, 0)) (by (with_reducible repeat (first | refine kN ?_ _ | refine kD ?_ | refine kA ?_ _)); refine kF ?_ NB246_265.out _; (with_reducible repeat (first | refine kN ?_ _ | refine kD ?_ | refine kA ?_ _)); refine kF ?_ NB246_265.out _; (with_reducible repeat (first | refine kN ?_ _ | refine kD ?_ | refine kA ?_ _)); exact BK246.out) hb); have n7_ := Aside0.mk (kB (g := gb252) (o := .cells #[.int .i64 0, .int .i64 0, .slice none 0 0, u253003] 39 (0, 0)) (by (with_reducible repeat (first | refine kN ?_ _ | refine kD ?_ | refine kA ?_ _)); refine kF ?_ NB252_265.out _; (with_reducible repeat (first | refine kN ?_ _ | refine kD ?_ | refine kA ?_ _)); refine kF ?_ NB252_265.out _; (with_reducible repeat (first | refine kN ?_ _ | refine kD ?_ | refine kA ?_ _)); exact BK252.out) hb); have n8_ := Aside0.mk (kB (g := gb258) (o := .cells #[.int .i64 ((rd_T68 t254 x46_3).f0), .int .i64 ((rd_T68 t254 x46_3).f1), .int .i64 ((rd_T68 t254 x46_3).f2)] 68 (0, 0)) (by (with_reducible repeat (first | refine kN ?_ _ | refine kD ?_ | refine kA ?_ _)); refine kF ?_ NB258_265.out _; (with_reducible repeat (first | refine kN ?_ _ | refine kD ?_ | refine kA ?_ _)); refine kF ?_ NB258_265.out _; (with_reducible repeat (first | refine kN ?_ _ | refine kD ?_ | refine kA ?_ _)); exact BK258.out) hb); have n9_ := Aside0.mk (kB (g := gb264) (o := .cells #[.int .i64 ((rd_T68 t260 x58_4).f0), .int .i64 ((rd_T68 t260 x58_4).f1), .int .i64 ((rd_T68 t260 x58_4).f2)] 68 (0, 0)) (by (with_reducible repeat (first | refine kN ?_ _ | refine kD ?_ | refine kA ?_ _)); refine kF ?_ NB264_265.out _; (with_reducible repeat (first | refine kN ?_ _ | refine kD ?_ | refine kA ?_ _)); refine kF ?_ NB264_265.out _; (with_reducible repeat (first | refine kN ?_ _ | refine kD ?_ | refine kA ?_ _)); exact BK264.out) hb); have n10_ := Aside0.mk (kB (g := gb265) (o := .cells #[.int .i64 ((rd_T68 t254 x46_3).f2), .int .i64 ((rd_T68 t260 x58_4).f2)] 73 (0, 0)) (by (with_reducible repeat (first | refine kN ?_ _ | refine kD ?_ | refine kA ?_ _)); refine blk_put (cs := #[.int .i64 ((rd_T68 t254 x46_3).f2), .int .i64 0]) ?_ 1 _ rfl; (with_reducible repeat (first | refine kN ?_ _ | refine kD ?_ | refine kA ?_ _)); refine blk_put (cs := #[.int .i64 0, .int .i64 0]) ?_ 0 _ rfl; (with_reducible repeat (first | refine kN ?_ _ | refine kD ?_ | refine kA ?_ _)); exact BK265.out) hb); have n11_ := Aside0.mk (bP (by repeat (first | (with_reducible first | exact HB.out | apply bA | apply bN | apply bD | refine bS ?_ GE244.out | refine bS ?_ GE245.out | refine bS ?_ GE246.out | refine bS ?_ GE252.out | refine bS ?_ GE258.out | refine bS ?_ GE264.out | refine bS ?_ GE265.out) | exact HB.out)) hb); clear HO_6; clear HO_44; clear HO_56; clear HO_253003; clear BK244; clear BK245; clear BK246; clear BK252; clear BK258; clear BK264; clear BK265; clear HB; have HO_6 := n0_; have HO_44 := n1_; have HO_56 := n2_; have HO_253003 := n3_; have BK244 := n4_; have BK245 := n5_; have BK246 := n6_; have BK252 := n7_; have BK258 := n8_; have BK264 := n9_; have BK265 := n10_; have HB := n11_; clear n0_ n1_ n2_ n3_ n4_ n5_ n6_ n7_ n8_ n9_ n10_ n11_; (try clear hb); (try clear hb2); (try clear hk); (try clear hi); have hcz87_0 : w86.cell? ⟨gb265, 0, none⟩ = some (.int .i64 ((rd_T68 t254 x46_3).f2)) := (kC BK265.out 0).trans rfl; have hcz87_1 : w86.cell? ⟨gb265, 1, none⟩ = some (.int .i64 ((rd_T68 t260 x58_4).f2)) := (kC BK265.out 1).trans rfl; obtain ⟨hfz87_0, hfz87_1⟩ := fZ2 BK265.out) | ((with_reducible refine gate_builtin (b := .append) (xs := #[.tmp 79, .tmp 81]) rfl ?_); (try (refine gate_guard (by rfl) ?_; dsimp only)); at_builtin; refine Kd.R_append k73 (w0 := w) w.heap.size rfl (.tmp 79) (.tmp 81) 74 73 (.agg #[(.int .i64 0), (.int .i64 0)]) 16 rfl Try.underlying74 info73 rfl (by decide) (by omega) (.slice Ao85 x6_4.length co85) x6_4 (⟨((rd_T68 t254 x46_3).f2), (rd_T68 t260 x58_4).f2⟩ : S73) [.int .i64 ((rd_T68 t254 x46_3).f2), .int .i64 ((rd_T68 t260 x58_4).f2)] (fun k_ => k_ ≠ gb265) (fun _ => False) rfl rfl ?aP (fun _ hk => hk.elim) ?aF ?aO ?aB ?aS ?aL ?_; (case aP => exact k73_mkM _ _ _ (⟨((rd_T68 t254 x46_3).f2), (rd_T68 t260 x58_4).f2⟩ : S73)); (case aB => exact (by repeat (first | (with_reducible first | exact HB.out | apply bA | apply bN | apply bD | refine bS ?_ GE244.out | refine bS ?_ GE245.out | refine bS ?_ GE246.out | refine bS ?_ GE252.out | refine bS ?_ GE258.out | refine bS ?_ GE264.out | refine bS ?_ GE265.out) | exact HB.out))); (case aF => exact (fun k_ hk => Kd.freshB (kQ BK265) k_ hk)); (case aO => exact (by (with_reducible repeat (first | apply rA | apply rN | apply rD)); exact rM HO_6.out (fun _ hk => hk.2))); (case aS => exact (bZ (by repeat (first | (with_reducible first | exact HB.out | apply bA | apply bN | apply bD | refine bS ?_ GE244.out | refine bS ?_ GE245.out | refine bS ?_ GE246.out | refine bS ?_ GE252.out | refine bS ?_ GE258.out | refine bS ?_ GE264.out | refine bS ?_ GE265.out) | exact HB.out)))); (case aL => have := LMc63.out; omega); intro v268 w88 ho hb hg hat; rw [← Ny267.out] at ho; have n0_ := Aside0.mk (Kd.R_over' (rQ HO_44) (Kd.R_typed (rQ HO_6)) (by decide) hg); have n1_ := Aside0.mk (Kd.R_over' (rQ HO_56) (Kd.R_typed (rQ HO_6)) (by decide) hg); have n2_ := Aside0.mk (Kd.R_over' (rQ HO_253003) (Kd.R_typed (rQ HO_6)) (by decide) hg); have n3_ := Aside0.mk (blk_grown (kQ BK244) hg (Kd.R_ne HO_6.out BK244.out (by decide))); have n4_ := Aside0.mk (blk_grown (kQ BK245) hg (Kd.R_ne HO_6.out BK245.out (by decide))); have n5_ := Aside0.mk (blk_grown (kQ BK246) hg (Kd.R_ne HO_6.out BK246.out (by decide))); have n6_ := Aside0.mk (blk_grown (kQ BK252) hg (Kd.R_ne HO_6.out BK252.out (by decide))); have n7_ := Aside0.mk (blk_grown (kQ BK258) hg (Kd.R_ne HO_6.out BK258.out (by decide))); have n8_ := Aside0.mk (blk_grown (kQ BK264) hg (Kd.R_ne HO_6.out BK264.out (by decide))); have n9_ := Aside0.mk (blk_grown (kQ BK265) hg (Kd.R_away HO_6.out (fun _ hk => hk.2))); have n10_ := Aside0.mk (hb); have n11_ := Aside0.mk (ho); clear HO_44; clear HO_56; clear HO_253003; clear BK244; clear BK245; clear BK246; clear BK252; clear BK258; clear BK264; clear BK265; clear HB; clear HO_6; have HO_44 := n0_; have HO_56 := n1_; have HO_253003 := n2_; have BK244 := n3_; have BK245 := n4_; have BK246 := n5_; have BK252 := n6_; have BK258 := n7_; have BK264 := n8_; have BK265 := n9_; have HB := n10_; have HO269 := n11_; clear n0_ n1_ n2_ n3_ n4_ n5_ n6_ n7_ n8_ n9_ n10_ n11_; clear ho hb hg hat; have hnb89 := NB252_244.out; have hnc89 := NB244_252.out; have hnb90 := NB252_245.out; have hnc90 := NB245_252.out; have hnb91 := NB252_246.out; have hnc91 := NB246_252.out; obtain ⟨hcz92_0, hcz92_1, hcz92_2, hcz92_3⟩ := cZ4 BK252.out; obtain ⟨hfz92_0, hfz92_1, hfz92_2, hfz92_3⟩ := fZ4 BK252.out; have hcz93_0 : w88.cell? ⟨gb258, 0, none⟩ = some (.int .i64 ((rd_T68 t254 x46_3).f0)) := (kC BK258.out 0).trans rfl; have hcz93_1 : w88.cell? ⟨gb258, 1, none⟩ = some (.int .i64 ((rd_T68 t254 x46_3).f1)) := (kC BK258.out 1).trans rfl; have hcz93_2 : w88.cell? ⟨gb258, 2, none⟩ = some (.int .i64 ((rd_T68 t254 x46_3).f2)) := (kC BK258.out 2).trans rfl; obtain ⟨hfz93_0, hfz93_1, hfz93_2⟩ := fZ3 BK258.out) | ((with_reducible refine gate_builtin (b := .append) (xs := #[.tmp 84, .tmp 90]) rfl ?_); (try (refine gate_guard (by rfl) ?_; dsimp only)); at_builtin; refine Kd.R_append k68 (w0 := w) w.heap.size rfl (.tmp 84) (.tmp 90) 37 68 (.agg #[(.int .i64 0), (.int .i64 0), (.int .i64 0)]) 24 rfl Try.underlying37 info68 rfl (by decide) (by omega) u253003 x253003_4 (⟨x8_2, ((rd_T68 t254 x46_3).f1), (x6_4.length : Int)⟩ : S68) [.int .i64 x8_2, .int .i64 ((rd_T68 t254 x46_3).f1), .int .i64 (x6_4.length : Int)] (fun k_ => some k_ ≠ (.slice (some ad257) t254.length co39 : Value).ownBlock ∧ some k_ ≠ (.slice (some ad263) t260.length co56 : Value).ownBlock ∧ k_ ≠ gb258 ∧ k_ ≠ gb264) (fun _ => False) rfl rfl ?aP (fun _ hk => hk.elim) ?aF ?aO ?aB ?aS ?aL ?_; (case aP => exact k68_mkM _ _ _ (⟨x8_2, ((rd_T68 t254 x46_3).f1), (x6_4.length : Int)⟩ : S68)); (case aB => exact (by repeat (first | (with_reducible first | exact HB.out | apply bA | apply bN | apply bD | refine bS ?_ GE244.out | refine bS ?_ GE245.out | refine bS ?_ GE246.out | refine bS ?_ GE252.out | refine bS ?_ GE258.out | refine bS ?_ GE264.out | refine bS ?_ GE265.out) | exact HB.out))); (case aF => exact (fun k_ hk => ⟨Kd.fresh' (rT (rQ HO_44)) k_ hk, Kd.fresh' (rT (rQ HO_56)) k_ hk, Kd.freshB (kQ BK258) k_ hk, Kd.freshB (kQ BK264) k_ hk⟩)); (case aO => exact (by (with_reducible repeat (first | apply rA | apply rN | apply rD)); exact rM HO_253003.out (fun _ hk => ⟨hk.1.1, ⟨hk.1.2.1, ⟨hk.1.2.2, hk.2⟩⟩⟩))); (case aS => exact (bZ (by repeat (first | (with_reducible first | exact HB.out | apply bA | apply bN | apply bD | refine bS ?_ GE244.out | refine bS ?_ GE245.out | refine bS ?_ GE246.out | refine bS ?_ GE252.out | refine bS ?_ GE258.out | refine bS ?_ GE264.out | refine bS ?_ GE265.out) | exact HB.out)))); (case aL => have := LMc64.out; omega); intro v271 w94 ho hb hg hat; rw [← Ny270.out] at ho; have n0_ := Aside0.mk (Kd.R_after (ok := (fun k_ => some k_ ≠ (.slice (some ad263) t260.length co56 : Value).ownBlock ∧ k_ ≠ gb258 ∧ k_ ≠ gb264)) (by (with_reducible repeat (first | apply rA | apply rN | apply rD)); exact rM HO_44.out (fun _ hk => ⟨⟨hk.1.1, ⟨hk.1.2.2, hk.2⟩⟩, hk.1.2.1⟩)) hg hat); have n1_ := Aside0.mk (Kd.R_after (ok := (fun k_ => some k_ ≠ (.slice (some ad257) t254.length co39 : Value).ownBlock ∧ k_ ≠ gb258 ∧ k_ ≠ gb264)) (by (with_reducible repeat (first | apply rA | apply rN | apply rD)); exact rM HO_56.out (fun _ hk => ⟨⟨hk.1.1, ⟨hk.1.2.2, hk.2⟩⟩, hk.1.2.1⟩)) hg hat); have n2_ := Aside0.mk (blk_grown (kQ BK244) hg (Kd.R_ne HO_253003.out BK244.out (by decide))); have n3_ := Aside0.mk (blk_grown (kQ BK245) hg (Kd.R_ne HO_253003.out BK245.out (by decide))); have n4_ := Aside0.mk (blk_grown (kQ BK246) hg (Kd.R_ne HO_253003.out BK246.out (by decide))); have n5_ := Aside0.mk (blk_grown (kQ BK252) hg (Kd.R_ne HO_253003.out BK252.out (by decide))); have n6_ := Aside0.mk (blk_grown (kQ BK258) hg (Kd.R_away HO_253003.out (fun _ hk => hk.1.2.2))); have n7_ := Aside0.mk (blk_grown (kQ BK264) hg (Kd.R_away HO_253003.out (fun _ hk => hk.2))); have n8_ := Aside0.mk (blk_grown (kQ BK265) hg (Kd.R_ne HO_253003.out BK265.out (by decide))); have n9_ := Aside0.mk (Kd.R_over' (rQ HO269) (Kd.R_typed (rQ HO_253003)) (by decide) hg); have n10_ := Aside0.mk (hb); have n11_ := Aside0.mk (ho); clear HO_44; clear HO_56; clear BK244; clear BK245; clear BK246; clear BK252; clear BK258; clear BK264; clear BK265; clear HO269; clear HB; clear HO_253003; have HO_44 := n0_; have HO_56 := n1_; have BK244 := n2_; have BK245 := n3_; have BK246 := n4_; have BK252 := n5_; have BK258 := n6_; have BK264 := n7_; have BK265 := n8_; have HO269 := n9_; have HB := n10_; have HO272 := n11_; clear n0_ n1_ n2_ n3_ n4_ n5_ n6_ n7_ n8_ n9_ n10_ n11_; clear ho hb hg hat; obtain ⟨Ao95, co95, eo95⟩ := Kd.R_slice HO272.out; subst eo95; obtain ⟨hcz96_0, hcz96_1, hcz96_2, hcz96_3⟩ := cZ4 BK252.out; obtain ⟨hfz96_0, hfz96_1, hfz96_2, hfz96_3⟩ := fZ4 BK252.out))
                        go_roundg k4
                        case measure => have := HJ2.out; have := HK2.out; have := HK3.out; have := HK4.out; omega
                        case rel => exact ⟨(y267), (wrap64 (x58_4 + 1)), (y270), (.slice Ao95 y270.length co95), eT, H', ⟨by have := HJ2.out; have := HK2.out; have := HK3.out; have := HK4.out; omega⟩, ⟨by (with_reducible repeat (first | apply rA | apply rN | apply rD)); exact rM (Kd.R_far (p := ⟨gb252, 3, none⟩) (Kd.R_types HO269.out BK252.out (by decide)) (fun _ hk => hk.2) (.slice Ao95 y270.length co95)) (fun _ hk => trivial)⟩, ⟨by (with_reducible repeat (first | apply rA | apply rN | apply rD)); exact rM (Kd.R_far (p := ⟨gb252, 3, none⟩) (Kd.R_types HO_44.out BK252.out (by decide)) (fun _ hk => hk.2) (.slice Ao95 y270.length co95)) (fun _ hk => ⟨hk.1.1.1, ⟨hk.1.2, hk.1.1.2.1⟩⟩)⟩, ⟨by (with_reducible repeat (first | apply rA | apply rN | apply rD)); exact rM (Kd.R_far (p := ⟨gb252, 3, none⟩) (Kd.R_types HO_56.out BK252.out (by decide)) (fun _ hk => hk.2) (.slice Ao95 y270.length co95)) (fun _ hk => ⟨hk.1.1.1, ⟨hk.1.2, hk.1.1.2.1⟩⟩)⟩, ⟨by (with_reducible repeat (first | apply rA | apply rN | apply rD)); exact rM (Kd.R_far (p := ⟨gb252, 3, none⟩) (Kd.R_types HO272.out BK252.out (by decide)) (fun _ hk => hk.2) (.slice Ao95 y270.length co95)) (fun _ hk => ⟨hk.1.1, ⟨hk.1.2.1, hk.1.2.2.1⟩⟩)⟩, ⟨by (with_reducible repeat (first | refine kN ?_ _ | refine kD ?_ | refine kA ?_ _)); refine kF ?_ NB244_252.out _; (with_reducible repeat (first | refine kN ?_ _ | refine kD ?_ | refine kA ?_ _)); exact BK244.out⟩, ⟨by (with_reducible repeat (first | refine kN ?_ _ | refine kD ?_ | refine kA ?_ _)); refine kF ?_ NB245_252.out _; (with_reducible repeat (first | refine kN ?_ _ | refine kD ?_ | refine kA ?_ _)); exact BK245.out⟩, ⟨by (with_reducible repeat (first | refine kN ?_ _ | refine kD ?_ | refine kA ?_ _)); refine kF ?_ NB246_252.out _; (with_reducible repeat (first | refine kN ?_ _ | refine kD ?_ | refine kA ?_ _)); exact BK246.out⟩, ⟨by (with_reducible repeat (first | refine kN ?_ _ | refine kD ?_ | refine kA ?_ _)); refine blk_put (cs := #[.int .i64 0, .int .i64 0, .slice none 0 0, u253003]) ?_ 3 _ rfl; (with_reducible repeat (first | refine kN ?_ _ | refine kD ?_ | refine kA ?_ _)); exact BK252.out⟩, ⟨by (with_reducible repeat (first | refine kN ?_ _ | refine kD ?_ | refine kA ?_ _)); refine kF ?_ NB258_252.out _; (with_reducible repeat (first | refine kN ?_ _ | refine kD ?_ | refine kA ?_ _)); exact BK258.out⟩, ⟨by repeat (first | (with_reducible first | exact HB.out | apply bA | apply bN | apply bD | refine bS ?_ GE244.out | refine bS ?_ GE245.out | refine bS ?_ GE246.out | refine bS ?_ GE252.out | refine bS ?_ GE258.out | refine bS ?_ GE264.out | refine bS ?_ GE265.out) | exact HB.out)⟩⟩
                       ·rw [if_neg c64] at H
                        exact absurd H (by simp)
                      ·rw [if_neg c63] at H
                       exact absurd H (by simp)
                     ·rw [if_neg c62] at H
                      have c62b0 : decide (t266 < 0) = false := decide_eq_false c62
                      clear c62
                      by_cases c97 : x253003_4.length < 5864062014805
                      ·rw [if_pos c97] at H
                       have LMc97 := Aside0.mk c97
                       clear c97
                       obtain ⟨y273, hy273⟩ : ∃ y_ : List (S68), y_ = (x253003_4 ++ [(⟨x8_2, ((rd_T68 t254 x46_3).f1), t266⟩ : S68)]) := ⟨_, rfl⟩
                       replace H : (impl_MeetGrammars.l2 k4 x6_4 x8_2 t254 (t254.length : Int) x46_3 t260 (t260.length : Int) (wrap64 (x58_4 + 1)) a0_0 a0_1 l0_2 l0_3 a1_0 a1_1 l1_2 l1_3 0 0 y273 ((rd_T68 t254 x46_3).f0) ((rd_T68 t254 x46_3).f1) ((rd_T68 t254 x46_3).f2)) = some (r1, r2, r3, r4, r5) := by first | (rw [hy273]; with_reducible exact H) | (have H2_ := (Option.bind_some _ _).symm.trans H; rw [hy273]; with_reducible exact H2_) | (have H2_ := (Option.bind_some _ _).symm.trans H; with_reducible exact H2_) | with_reducible exact H | (rw [hy273]; exact H) | exact H
                       have Ny273 := Aside0.mk hy273
                       clear hy273
                       have H' := Aside0.mk H
                       clear H
                       have p263 : 0 ≤ (x58_4 : Int) := oT
                       have q263 : x58_4 < (t260.length : Int) := oT
                       obtain ⟨ad263, e263, hx263_0, hx263_1, hx263_2⟩ := at_T68 (Kd.R_reads' HO_56.out).2.2 x58_4 p263 q263
                       cases e263
                       replace p263 := eq_true p263
                       replace q263 := eq_true q263
                       go_wp2_with (first | ((with_reducible refine gate_dst (N := 12) rfl ?_); (try (refine gate_guard (by rfl) ?_; dsimp only)); refine bE ?hg (N := 12) ?hd (cs := #[.int .i64 0, .int .i64 0, .int .i64 0]) (t := 68) ?hr ?_; (case hd => rfl); (case hg => rfl); (case hr => first | (go_simp; done) | (go_simp; rfl)); intro gb264 hg w98 hbox hb; have z_ := bX hb (by repeat (first | (with_reducible first | exact HB.out | apply bA | apply bN | apply bD | refine bS ?_ GE244.out | refine bS ?_ GE245.out | refine bS ?_ GE246.out | refine bS ?_ GE252.out | refine bS ?_ GE258.out) | exact HB.out)); have n0_ := Aside0.mk (rB (rQ HO_6) hb); have n1_ := Aside0.mk (rB (Kd.R_elderB (rQ HO_44) gb264 (Nat.le_of_eq hg.symm)) hb); have n2_ := Aside0.mk (rB (Kd.R_elderB (rQ HO_56) gb264 (Nat.le_of_eq hg.symm)) hb); have n3_ := Aside0.mk (rB (Kd.R_elderB (rQ HO_253003) gb264 (Nat.le_of_eq hg.symm)) hb); have n4_ := Aside0.mk (kB (kQ BK244) hb); have n5_ := Aside0.mk (kB (kQ BK245) hb); have n6_ := Aside0.mk (kB (kQ BK246) hb); have n7_ := Aside0.mk (kB (kQ BK252) hb); have n8_ := Aside0.mk (kB (kQ BK258) hb); have n9_ := Aside0.mk (bP z_ hb); have n10_ := Aside0.mk (hbox); have n11_ := Aside0.mk ((by rw [hg]; exact (bZ z_) : w.heap.size ≤ gb264)); have n12_ := Aside0.mk ((by rw [hg]; exact (bZ z_) : w.heap.size ≤ gb264)); have n13_ := Aside0.mk ((by rw [hg]; exact Nat.ne_of_lt (kL (kQ BK244)) : gb244 ≠ gb264)); have n14_ := Aside0.mk ((by rw [hg]; exact Nat.ne_of_gt (kL (kQ BK244)) : gb264 ≠ gb244)); have n15_ := Aside0.mk ((by rw [hg]; exact Nat.ne_of_lt (kL (kQ BK245)) : gb245 ≠ gb264)); have n16_ := Aside0.mk ((by rw [hg]; exact Nat.ne_of_gt (kL (kQ BK245)) : gb264 ≠ gb245)); have n17_ := Aside0.mk ((by rw [hg]; exact Nat.ne_of_lt (kL (kQ BK246)) : gb246 ≠ gb264)); have n18_ := Aside0.mk ((by rw [hg]; exact Nat.ne_of_gt (kL (kQ BK246)) : gb264 ≠ gb246)); have n19_ := Aside0.mk ((by rw [hg]; exact Nat.ne_of_lt (kL (kQ BK252)) : gb252 ≠ gb264)); have n20_ := Aside0.mk ((by rw [hg]; exact Nat.ne_of_gt (kL (kQ BK252)) : gb264 ≠ gb252)); have n21_ := Aside0.mk ((by rw [hg]; exact Nat.ne_of_lt (kL (kQ BK258)) : gb258 ≠ gb264)); have n22_ := Aside0.mk ((by rw [hg]; exact Nat.ne_of_gt (kL (kQ BK258)) : gb264 ≠ gb258)); clear HO_6; clear HO_44; clear HO_56; clear HO_253003; clear BK244; clear BK245; clear BK246; clear BK252; clear BK258; clear HB; have HO_6 := n0_; have HO_44 := n1_; have HO_56 := n2_; have HO_253003 := n3_; have BK244 := n4_; have BK245 := n5_; have BK246 := n6_; have BK252 := n7_; have BK258 := n8_; have HB := n9_; have BK264 := n10_; have GW264 := n11_; have GE264 := n12_; have NB244_264 := n13_; have NB264_244 := n14_; have NB245_264 := n15_; have NB264_245 := n16_; have NB246_264 := n17_; have NB264_246 := n18_; have NB252_264 := n19_; have NB264_252 := n20_; have NB258_264 := n21_; have NB264_258 := n22_; clear z_ n0_ n1_ n2_ n3_ n4_ n5_ n6_ n7_ n8_ n9_ n10_ n11_ n12_ n13_ n14_ n15_ n16_ n17_ n18_ n19_ n20_ n21_ n22_; clear hb hbox hg; have hnb99 := NB264_244.out; have hnc99 := NB244_264.out; have hnb100 := NB264_245.out; have hnc100 := NB245_264.out; have hnb101 := NB264_246.out; have hnc101 := NB246_264.out; have hnb102 := NB264_252.out; have hnc102 := NB252_264.out; have hnb103 := NB264_258.out; have hnc103 := NB258_264.out; obtain ⟨hcz104_0, hcz104_1, hcz104_2⟩ := cZ3 BK264.out; obtain ⟨hfz104_0, hfz104_1, hfz104_2⟩ := fZ3 BK264.out; have hnb105 := NB258_244.out; have hnc105 := NB244_258.out; have hnb106 := NB258_245.out; have hnc106 := NB245_258.out; have hnb107 := NB258_246.out; have hnc107 := NB246_258.out; have hnb108 := NB258_252.out; have hnc108 := NB252_258.out; have hcz109_0 : w98.cell? ⟨gb258, 0, none⟩ = some (.int .i64 ((rd_T68 t254 x46_3).f0)) := (kC BK258.out 0).trans rfl; have hcz109_1 : w98.cell? ⟨gb258, 1, none⟩ = some (.int .i64 ((rd_T68 t254 x46_3).f1)) := (kC BK258.out 1).trans rfl; have hcz109_2 : w98.cell? ⟨gb258, 2, none⟩ = some (.int .i64 ((rd_T68 t254 x46_3).f2)) := (kC BK258.out 2).trans rfl; obtain ⟨hfz109_0, hfz109_1, hfz109_2⟩ := fZ3 BK258.out) | ((with_reducible refine gate_dst (N := 13) rfl ?_); (try (refine gate_guard (by rfl) ?_; dsimp only)); refine bE ?hg (N := 13) ?hd (cs := #[.int .i64 0, .int .i64 0]) (t := 73) ?hr ?_; (case hd => rfl); (case hg => rfl); (case hr => first | (go_simp; done) | (go_simp; rfl)); intro gb265 hg w110 hbox hb; have z_ := bX hb (by repeat (first | (with_reducible first | exact HB.out | apply bA | apply bN | apply bD | refine bS ?_ GE244.out | refine bS ?_ GE245.out | refine bS ?_ GE246.out | refine bS ?_ GE252.out | refine bS ?_ GE258.out | refine bS ?_ GE264.out) | exact HB.out)); have n0_ := Aside0.mk (rB (Kd.R_elderB (by (with_reducible repeat (first | apply rA | apply rN | apply rD)); exact (rM (Kd.R_far (p := ⟨gb264, 2, none⟩) (Kd.R_far (p := ⟨gb264, 1, none⟩) (Kd.R_far (p := ⟨gb264, 0, none⟩) (Kd.R_types HO_6.out BK264.out (by decide)) (fun _ hk => hk.2) (.int .i64 ((rd_T68 t260 x58_4).f0))) (fun _ hk => hk.2) (.int .i64 ((rd_T68 t260 x58_4).f1))) (fun _ hk => hk.2) (.int .i64 ((rd_T68 t260 x58_4).f2))) (fun _ h_ => h_.1))) gb265 (Nat.le_of_eq hg.symm)) hb); have n1_ := Aside0.mk (rB (by (with_reducible repeat (first | apply rA | apply rN | apply rD)); exact (rM (Kd.R_far (p := ⟨gb264, 2, none⟩) (Kd.R_far (p := ⟨gb264, 1, none⟩) (Kd.R_far (p := ⟨gb264, 0, none⟩) (rM HO_44.out (fun k_ hk => (⟨hk, hk.2⟩ : _ ∧ k_ ≠ gb264))) (fun _ hk => hk.2) (.int .i64 ((rd_T68 t260 x58_4).f0))) (fun _ hk => hk.2) (.int .i64 ((rd_T68 t260 x58_4).f1))) (fun _ hk => hk.2) (.int .i64 ((rd_T68 t260 x58_4).f2))) (fun _ h_ => h_.1))) hb); have n2_ := Aside0.mk (rB (by (with_reducible repeat (first | apply rA | apply rN | apply rD)); exact (rM (Kd.R_far (p := ⟨gb264, 2, none⟩) (Kd.R_far (p := ⟨gb264, 1, none⟩) (Kd.R_far (p := ⟨gb264, 0, none⟩) (rM HO_56.out (fun k_ hk => (⟨hk, hk.2⟩ : _ ∧ k_ ≠ gb264))) (fun _ hk => hk.2) (.int .i64 ((rd_T68 t260 x58_4).f0))) (fun _ hk => hk.2) (.int .i64 ((rd_T68 t260 x58_4).f1))) (fun _ hk => hk.2) (.int .i64 ((rd_T68 t260 x58_4).f2))) (fun _ h_ => h_.1))) hb); have n3_ := Aside0.mk (rB (by (with_reducible repeat (first | apply rA | apply rN | apply rD)); exact (rM (Kd.R_far (p := ⟨gb264, 2, none⟩) (Kd.R_far (p := ⟨gb264, 1, none⟩) (Kd.R_far (p := ⟨gb264, 0, none⟩) (rM HO_253003.out (fun k_ hk => (⟨hk, hk.2⟩ : _ ∧ k_ ≠ gb264))) (fun _ hk => hk.2) (.int .i64 ((rd_T68 t260 x58_4).f0))) (fun _ hk => hk.2) (.int .i64 ((rd_T68 t260 x58_4).f1))) (fun _ hk => hk.2) (.int .i64 ((rd_T68 t260 x58_4).f2))) (fun _ h_ => h_.1))) hb); have n4_ := Aside0.mk (kB (g := gb244) (o := .cells #[.int .i64 a0_0, .int .i64 a0_1, .slice A0_2 l0_2.length c0_2, .slice A0_3 l0_3.length c0_3] 39 (0, 0)) (by (with_reducible repeat (first | refine kN ?_ _ | refine kD ?_ | refine kA ?_ _)); refine kF ?_ NB244_264.out _; (with_reducible repeat (first | refine kN ?_ _ | refine kD ?_ | refine kA ?_ _)); refine kF ?_ NB244_264.out _; (with_reducible repeat (first | refine kN ?_ _ | refine kD ?_ | refine kA ?_ _)); refine kF ?_ NB244_264.out _; (with_reducible repeat (first | refine kN ?_ _ | refine kD ?_ | refine kA ?_ _)); exact BK244.out) hb); have n5_ := Aside0.mk (kB (g := gb245) (o := .cells #[.int .i64 a1_0, .int .i64 a1_1, .slice A1_2 l1_2.length c1_2, .slice A1_3 l1_3.length c1_3] 39 (0, 0)) (by (with_reducible repeat (first | refine kN ?_ _ | refine kD ?_ | refine kA ?_ _)); refine kF ?_ NB245_264.out _; (with_reducible repeat (first | refine kN ?_ _ | refine kD ?_ | refine kA ?_ _)); refine kF ?_ NB245_264.out _; (with_reducible repeat (first | refine kN ?_ _ | refine kD ?_ | refine kA ?_ _)); refine kF ?_ NB245_264.out _; (with_reducible repeat (first | refine kN ?_ _ | refine kD ?_ | refine kA ?_ _)); exact BK245.out) hb); have n6_ := Aside0.mk (kB (g := gb246) (o := .cells #[.int .i64 x247000_2, .int .i64 x247001_2, .slice none 0 0, .slice none 0 0] 39 (0, 0)) (by (with_reducible repeat (first | refine kN ?_ _ | refine kD ?_ | refine kA ?_ _)); refine kF ?_ NB246_264.out _; (with_reducible repeat (first | refine kN ?_ _ | refine kD ?_ | refine kA ?_ _)); refine kF ?_ NB246_264.out _; (with_reducible repeat (first | refine kN ?_ _ | refine kD ?_ | refine kA ?_ _)); refine kF ?_ NB246_264.out _; (with_reducible repeat (first | refine kN ?_ _ | refine kD ?_ | refine kA ?_ _)); exact BK246.out) hb); have n7_ := Aside0.mk (kB (g := gb252) (o := .cells #[.int .i64 0, .int .i64 0, .slice none 0 0, u253003] 39 (0, 0)) (by (with_reducible repeat (first | refine kN ?_ _ | refine kD ?_ | refine kA ?_ _)); refine kF ?_ NB252_264.out _; (with_reducible repeat (first | refine kN ?_ _ | refine kD ?_ | refine kA ?_ _)); refine kF ?_ NB252_264.out _; (with_reducible repeat (first | refine kN ?_ _ | refine kD ?_ | refine kA ?_ _)); refine kF ?_ NB252_264.out _; (with_reducible repeat (first | refine kN ?_ _ | refine kD ?_ | refine kA ?_ _)); exact BK252.out) hb); have n8_ := Aside0.mk (kB (g := gb258) (o := .cells #[.int .i64 ((rd_T68 t254 x46_3).f0), .int .i64 ((rd_T68 t254 x46_3).f1), .int .i64 ((rd_T68 t254 x46_3).f2)] 68 (0, 0)) (by (with_reducible repeat (first | refine kN ?_ _ | refine kD ?_ | refine kA ?_ _)); refine kF ?_ NB258_264.out _; (with_reducible repeat (first | refine kN ?_ _ | refine kD ?_ | refine kA ?_ _)); refine kF ?_ NB258_264.out _; (with_reducible repeat (first | refine kN ?_ _ | refine kD ?_ | refine kA ?_ _)); refine kF ?_ NB258_264.out _; (with_reducible repeat (first | refine kN ?_ _ | refine kD ?_ | refine kA ?_ _)); exact BK258.out) hb); have n9_ := Aside0.mk (kB (g := gb264) (o := .cells #[.int .i64 ((rd_T68 t260 x58_4).f0), .int .i64 ((rd_T68 t260 x58_4).f1), .int .i64 ((rd_T68 t260 x58_4).f2)] 68 (0, 0)) (by (with_reducible repeat (first | refine kN ?_ _ | refine kD ?_ | refine kA ?_ _)); refine blk_put (cs := #[.int .i64 ((rd_T68 t260 x58_4).f0), .int .i64 ((rd_T68 t260 x58_4).f1), .int .i64 0]) ?_ 2 _ rfl; (with_reducible repeat (first | refine kN ?_ _ | refine kD ?_ | refine kA ?_ _)); refine blk_put (cs := #[.int .i64 ((rd_T68 t260 x58_4).f0), .int .i64 0, .int .i64 0]) ?_ 1 _ rfl; (with_reducible repeat (first | refine kN ?_ _ | refine kD ?_ | refine kA ?_ _)); refine blk_put (cs := #[.int .i64 0, .int .i64 0, .int .i64 0]) ?_ 0 _ rfl; (with_reducible repeat (first | refine kN ?_ _ | refine kD ?_ | refine kA ?_ _)); exact BK264.out) hb); have n10_ := Aside0.mk (bP z_ hb); have n11_ := Aside0.mk (hbox); have n12_ := Aside0.mk ((by rw [hg]; exact (bZ z_) : w.heap.size ≤ gb265)); have n13_ := Aside0.mk ((by rw [hg]; exact (bZ z_) : w.heap.size ≤ gb265)); have n14_ := Aside0.mk ((by rw [hg]; exact Nat.ne_of_lt (kL (g := gb244) (o := .cells #[.int .i64 a0_0, .int .i64 a0_1, .slice A0_2 l0_2.length c0_2, .slice A0_3 l0_3.length c0_3] 39 (0, 0)) (by (with_reducible repeat (first | refine kN ?_ _ | refine kD ?_ | refine kA ?_ _)); refine kF ?_ NB244_264.out _; (with_reducible repeat (first | refine kN ?_ _ | refine kD ?_ | refine kA ?_ _)); refine kF ?_ NB244_264.out _; (with_reducible repeat (first | refine kN ?_ _ | refine kD ?_ | refine kA ?_ _)); refine kF ?_ NB244_264.out _; (with_reducible repeat (first | refine kN ?_ _ | refine kD ?_ | refine kA ?_ _)); exact BK244.out)) : gb244 ≠ gb265)); have n15_ := Aside0.mk ((by rw [hg]; exact Nat.ne_of_gt (kL (g := gb244) (o := .cells #[.int .i64 a0_0, .int .i64 a0_1, .slice A0_2 l0_2.length c0_2, .slice A0_3 l0_3.length c0_3] 39 (0, 0)) (by (with_reducible repeat (first | refine kN ?_ _ | refine kD ?_ | refine kA ?_ _)); refine kF ?_ NB244_264.out _; (with_reducible repeat (first | refine kN ?_ _ | refine kD ?_ | refine kA ?_ _)); refine kF ?_ NB244_264.out _; (with_reducible repeat (first | refine kN ?_ _ | refine kD ?_ | refine kA ?_ _)); refine kF ?_ NB244_264.out _; (with_reducible repeat (first | refine kN ?_ _ | refine kD ?_ | refine kA ?_ _)); exact BK244.out)) : gb265 ≠ gb244)); have n16_ := Aside0.mk ((by rw [hg]; exact Nat.ne_of_lt (kL (g := gb245) (o := .cells #[.int .i64 a1_0, .int .i64 a1_1, .slice A1_2 l1_2.length c1_2, .slice A1_3 l1_3.length c1_3] 39 (0, 0)) (by (with_reducible repeat (first | refine kN ?_ _ | refine kD ?_ | refine kA ?_ _)); refine kF ?_ NB245_264.out _; (with_reducible repeat (first | refine kN ?_ _ | refine kD ?_ | refine kA ?_ _)); refine kF ?_ NB245_264.out _; (with_reducible repeat (first | refine kN ?_ _ | refine kD ?_ | refine kA ?_ _)); refine kF ?_ NB245_264.out _; (with_reducible repeat (first | refine kN ?_ _ | refine kD ?_ | refine kA ?_ _)); exact BK245.out)) : gb245 ≠ gb265)); have n17_ := Aside0.mk ((by rw [hg]; exact Nat.ne_of_gt (kL (g := gb245) (o := .cells #[.int .i64 a1_0, .int .i64 a1_1, .slice A1_2 l1_2.length c1_2, .slice A1_3 l1_3.length c1_3] 39 (0, 0)) (by (with_reducible repeat (first | refine kN ?_ _ | refine kD ?_ | refine kA ?_ _)); refine kF ?_ NB245_264.out _; (with_reducible repeat (first | refine kN ?_ _ | refine kD ?_ | refine kA ?_ _)); refine kF ?_ NB245_264.out _; (with_reducible repeat (first | refine kN ?_ _ | refine kD ?_ | refine kA ?_ _)); refine kF ?_ NB245_264.out _; (with_reducible repeat (first | refine kN ?_ _ | refine kD ?_ | refine kA ?_ _)); exact BK245.out)) : gb265 ≠ gb245)); have n18_ := Aside0.mk ((by rw [hg]; exact Nat.ne_of_lt (kL (g := gb246) (o := .cells #[.int .i64 x247000_2, .int .i64 x247001_2, .slice none 0 0, .slice none 0 0] 39 (0, 0)) (by (with_reducible repeat (first | refine kN ?_ _ | refine kD ?_ | refine kA ?_ _)); refine kF ?_ NB246_264.out _; (with_reducible repeat (first | refine kN ?_ _ | refine kD ?_ | refine kA ?_ _)); refine kF ?_ NB246_264.out _; (with_reducible repeat (first | refine kN ?_ _ | refine kD ?_ | refine kA ?_ _)); refine kF ?_ NB246_264.out _; (with_reducible repeat (first | refine kN ?_ _ | refine kD ?_ | refine kA ?_ _)); exact BK246.out)) : gb246 ≠ gb265)); have n19_ := Aside0.mk ((by rw [hg]; exact Nat.ne_of_gt (kL (g := gb246) (o := .cells #[.int .i64 x247000_2, .int .i64 x247001_2, .slice none 0 0, .slice none 0 0] 39 (0, 0)) (by (with_reducible repeat (first | refine kN ?_ _ | refine kD ?_ | refine kA ?_ _)); refine kF ?_ NB246_264.out _; (with_reducible repeat (first | refine kN ?_ _ | refine kD ?_ | refine kA ?_ _)); refine kF ?_ NB246_264.out _; (with_reducible repeat (first | refine kN ?_ _ | refine kD ?_ | refine kA ?_ _)); refine kF ?_ NB246_264.out _; (with_reducible repeat (first | refine kN ?_ _ | refine kD ?_ | refine kA ?_ _)); exact BK246.out)) : gb265 ≠ gb246)); have n20_ := Aside0.mk ((by rw [hg]; exact Nat.ne_of_lt (kL (g := gb252) (o := .cells #[.int .i64 0, .int .i64 0, .slice none 0 0, u253003] 39 (0, 0)) (by (with_reducible repeat (first | refine kN ?_ _ | refine kD ?_ | refine kA ?_ _)); refine kF ?_ NB252_264.out _; (with_reducible repeat (first | refine kN ?_ _ | refine kD ?_ | refine kA ?_ _)); refine kF ?_ NB252_264.out _; (with_reducible repeat (first | refine kN ?_ _ | refine kD ?_ | refine kA ?_ _)); refine kF ?_ NB252_264.out _; (with_reducible repeat (first | refine kN ?_ _ | refine kD ?_ | refine kA ?_ _)); exact BK252.out)) : gb252 ≠ gb265)); have n21_ := Aside0.mk ((by rw [hg]; exact Nat.ne_of_gt (kL (g := gb252) (o := .cells #[.int .i64 0, .int .i64 0, .slice none 0 0, u253003] 39 (0, 0)) (by (with_reducible repeat (first | refine kN ?_ _ | refine kD ?_ | refine kA ?_ _)); refine kF ?_ NB252_264.out _; (with_reducible repeat (first | refine kN ?_ _ | refine kD ?_ | refine kA ?_ _)); refine kF ?_ NB252_264.out _; (with_reducible repeat (first | refine kN ?_ _ | refine kD ?_ | refine kA ?_ _)); refine kF ?_ NB252_264.out _; (with_reducible repeat (first | refine kN ?_ _ | refine kD ?_ | refine kA ?_ _)); exact BK252.out)) : gb265 ≠ gb252)); have n22_ := Aside0.mk ((by rw [hg]; exact Nat.ne_of_lt (kL (g := gb258) (o := .cells #[.int .i64 ((rd_T68 t254 x46_3).f0), .int .i64 ((rd_T68 t254 x46_3).f1), .int .i64 ((rd_T68 t254 x46_3).f2)] 68 (0, 0)) (by (with_reducible repeat (first | refine kN ?_ _ | refine kD ?_ | refine kA ?_ _)); refine kF ?_ NB258_264.out _; (with_reducible repeat (first | refine kN ?_ _ | refine kD ?_ | refine kA ?_ _)); refine kF ?_ NB258_264.out _; (with_reducible repeat (first | refine kN ?_ _ | refine kD ?_ | refine kA ?_ _)); refine kF ?_ NB258_264.out _; (with_reducible repeat (first | refine kN ?_ _ | refine kD ?_ | refine kA ?_ _)); exact BK258.out)) : gb258 ≠ gb265)); have n23_ := Aside0.mk ((by rw [hg]; exact Nat.ne_of_gt (kL (g := gb258) (o := .cells #[.int .i64 ((rd_T68 t254 x46_3).f0), .int .i64 ((rd_T68 t254 x46_3).f1), .int .i64 ((rd_T68 t254 x46_3).f2)] 68 (0, 0)) (by (with_reducible repeat (first | refine kN ?_ _ | refine kD ?_ | refine kA ?_ _)); refine kF ?_ NB258_264.out _; (with_reducible repeat (first | refine kN ?_ _ | refine kD ?_ | refine kA ?_ _)); refine kF ?_ NB258_264.out _; (with_reducible repeat (first | refine kN ?_ _ | refine kD ?_ | refine kA ?_ _)); refine kF ?_ NB258_264.out _; (with_reducible repeat (first | refine kN ?_ _ | refine kD ?_ | refine kA ?_ _)); exact BK258.out)) : gb265 ≠ gb258)); have n24_ := Aside0.mk ((by rw [hg]; exact Nat.ne_of_lt (kL (g := gb264) (o := .cells #[.int .i64 ((rd_T68 t260 x58_4).f0), .int .i64 ((rd_T68 t260 x58_4).f1), .int .i64 ((rd_T68 t260 x58_4).f2)] 68 (0, 0)) (by (with_reducible repeat (first | refine kN ?_ _ | refine kD ?_ | refine kA ?_ _)); refine blk_put (cs := #[.int .i64 ((rd_T68 t260 x58_4).f0), .int .i64 ((rd_T68 t260 x58_4).f1), .int .i64 0]) ?_ 2 _ rfl; (with_reducible repeat (first | refine kN ?_ _ | refine kD ?_ | refine kA ?_ _)); refine blk_put (cs := #[.int .i64 ((rd_T68 t260 x58_4).f0), .int .i64 0, .int .i64 0]) ?_ 1 _ rfl; (with_reducible repeat (first | refine kN ?_ _ | refine kD ?_ | refine kA ?_ _)); refine blk_put (cs := #[.int .i64 0, .int .i64 0, .int .i64 0]) ?_ 0 _ rfl; (with_reducible repeat (first | refine kN ?_ _ | refine kD ?_ | refine kA ?_ _)); exact BK264.out)) : gb264 ≠ gb265)); have n25_ := Aside0.mk ((by rw [hg]; exact Nat.ne_of_gt (kL (g := gb264) (o := .cells #[.int .i64 ((rd_T68 t260 x58_4).f0), .int .i64 ((rd_T68 t260 x58_4).f1), .int .i64 ((rd_T68 t260 x58_4).f2)] 68 (0, 0)) (by (with_reducible repeat (first | refine kN ?_ _ | refine kD ?_ | refine kA ?_ _)); refine blk_put (cs := #[.int .i64 ((rd_T68 t260 x58_4).f0), .int .i64 ((rd_T68 t260 x58_4).f1), .int .i64 0]) ?_ 2 _ rfl; (with_reducible repeat (first | refine kN ?_ _ | refine kD ?_ | refine kA ?_ _)); refine blk_put (cs := #[.int .i64 ((rd_T68 t260 x58_4).f0), .int .i64 0, .int .i64 0]) ?_ 1 _ rfl; (with_reducible repeat (first | refine kN ?_ _ | refine kD ?_ | refine kA ?_ _)); refine blk_put (cs := #[.int .i64 0, .int .i64 0, .int .i64 0]) ?_ 0 _ rfl; (with_reducible repeat (first | refine kN ?_ _ | refine kD ?_ | refine kA ?_ _)); exact BK264.out)) : gb265 ≠ gb264)); clear HO_6; clear HO_44; clear HO_56; clear HO_253003; clear BK244; clear BK245; clear BK246; clear BK252; clear BK258; clear BK264; clear HB; have HO_6 := n0_; have HO_44 := n1_; have HO_56 := n2_; have HO_253003 := n3_; have BK244 := n4_; have BK245 := n5_; have BK246 := n6_; have BK252 := n7_; have BK258 := n8_; have BK264 := n9_; have HB := n10_; have BK265 := n11_; have GW265 := n12_; have GE265 := n13_; have NB244_265 := n14_; have NB265_244 := n15_; have NB245_265 := n16_; have NB265_245 := n17_; have NB246_265 := n18_; have NB265_246 := n19_; have NB252_265 := n20_; have NB265_252 := n21_; have NB258_265 := n22_; have NB265_258 := n23_; have NB264_265 := n24_; have NB265_264 := n25_; clear z_ n0_ n1_ n2_ n3_ n4_ n5_ n6_ n7_ n8_ n9_ n10_ n11_ n12_ n13_ n14_ n15_ n16_ n17_ n18_ n19_ n20_ n21_ n22_ n23_ n24_ n25_; clear hb hbox hg; have hnb111 := NB265_244.out; have hnc111 := NB244_265.out; have hnb112 := NB265_245.out; have hnc112 := NB245_265.out; have hnb113 := NB265_246.out; have hnc113 := NB246_265.out; have hnb114 := NB265_252.out; have hnc114 := NB252_265.out; have hnb115 := NB265_258.out; have hnc115 := NB258_265.out; have hnb116 := NB265_264.out; have hnc116 := NB264_265.out; obtain ⟨hcz117_0, hcz117_1⟩ := cZ2 BK265.out; obtain ⟨hfz117_0, hfz117_1⟩ := fZ2 BK265.out; obtain ⟨Ao118, co118, eo118⟩ := Kd.R_slice HO_6.out; subst eo118) | ((with_reducible refine gC (f := 43) rfl ?_); refine goesL_ (some 74) rfl rfl Try.func43 (by kernel_rfl) rfl #[.slice Ao118 x6_4.length co118, .agg #[.int .i64 ((rd_T68 t254 x46_3).f2), .int .i64 ((rd_T68 t260 x58_4).f2)]] rfl lQ ?_; (with_reducible refine (slices_Index_2_int64_2_int64.calls k4 _ _ x6_4 ((rd_T68 t254 x46_3).f2) ((rd_T68 t260 x58_4).f2) t266 _ ?side1 ?side2 A61.out).mono ?_); (case side1 => refine (Kd.R_reads' (e := 73) (base := w.heap.size) (ok := fun k_ => (True ∧ k_ ≠ gb265)) (n := x6_4.length) (c := co118) ?_).2.2; exact (by (with_reducible repeat (first | apply rA | apply rN | apply rD)); exact (rM (Kd.R_far (p := ⟨gb265, 1, none⟩) (Kd.R_far (p := ⟨gb265, 0, none⟩) (rM HO_6.out (fun k_ hk => (⟨hk, hk.2⟩ : _ ∧ k_ ≠ gb265))) (fun _ hk => hk.2) (.int .i64 ((rd_T68 t254 x46_3).f2))) (fun _ hk => hk.2) (.int .i64 ((rd_T68 t260 x58_4).f2))) (fun _ h_ => h_.1)))); (case side2 => exact (Kd.R_reads' HO_6.out).2.1); rintro e w119 ⟨rfl, hb⟩; refine ⟨_, rfl, ?_⟩; have n0_ := Aside0.mk (rB (by (with_reducible repeat (first | apply rA | apply rN | apply rD)); exact (rM (Kd.R_far (p := ⟨gb265, 1, none⟩) (Kd.R_far (p := ⟨gb265, 0, none⟩) (rM HO_6.out (fun k_ hk => (⟨hk, hk.2⟩ : _ ∧ k_ ≠ gb265))) (fun _ hk => hk.2) (.int .i64 ((rd_T68 t254 x46_3).f2))) (fun _ hk => hk.2) (.int .i64 ((rd_T68 t260 x58_4).f2))) (fun _ h_ => h_.1))) hb); have n1_ := Aside0.mk (rB (by (with_reducible repeat (first | apply rA | apply rN | apply rD)); exact (rM (Kd.R_far (p := ⟨gb265, 1, none⟩) (Kd.R_far (p := ⟨gb265, 0, none⟩) (Kd.R_types HO_44.out BK265.out (by decide)) (fun _ hk => hk.2) (.int .i64 ((rd_T68 t254 x46_3).f2))) (fun _ hk => hk.2) (.int .i64 ((rd_T68 t260 x58_4).f2))) (fun _ h_ => h_.1))) hb); have n2_ := Aside0.mk (rB (by (with_reducible repeat (first | apply rA | apply rN | apply rD)); exact (rM (Kd.R_far (p := ⟨gb265, 1, none⟩) (Kd.R_far (p := ⟨gb265, 0, none⟩) (Kd.R_types HO_56.out BK265.out (by decide)) (fun _ hk => hk.2) (.int .i64 ((rd_T68 t254 x46_3).f2))) (fun _ hk => hk.2) (.int .i64 ((rd_T68 t260 x58_4).f2))) (fun _ h_ => h_.1))) hb); have n3_ := Aside0.mk (rB (by (with_reducible repeat (first | apply rA | apply rN | apply rD)); exact (rM (Kd.R_far (p := ⟨gb265, 1, none⟩) (Kd.R_far (p := ⟨gb265, 0, none⟩) (Kd.R_types HO_253003.out BK265.out (by decide)) (fun _ hk => hk.2) (.int .i64 ((rd_T68 t254 x46_3).f2))) (fun _ hk => hk.2) (.int .i64 ((rd_T68 t260 x58_4).f2))) (fun _ h_ => h_.1))) hb); have n4_ := Aside0.mk (kB (g := gb244) (o := .cells #[.int .i64 a0_0, .int .i64 a0_1, .slice A0_2 l0_2.length c0_2, .slice A0_3 l0_3.length c0_3] 39 (0, 0)) (by (with_reducible repeat (first | refine kN ?_ _ | refine kD ?_ | refine kA ?_ _)); refine kF ?_ NB244_265.out _; (with_reducible repeat (first | refine kN ?_ _ | refine kD ?_ | refine kA ?_ _)); refine kF ?_ NB244_265.out _; (with_reducible repeat (first | refine kN ?_ _ | refine kD ?_ | refine kA ?_ _)); exact BK244.out) hb); have n5_ := Aside0.mk (kB (g := gb245) (o := .cells #[.int .i64 a1_0, .int .i64 a1_1, .slice A1_2 l1_2.length c1_2, .slice A1_3 l1_3.length c1_3] 39 (0, 0)) (by (with_reducible repeat (first | refine kN ?_ _ | refine kD ?_ | refine kA ?_ _)); refine kF ?_ NB245_265.out _; (with_reducible repeat (first | refine kN ?_ _ | refine kD ?_ | refine kA ?_ _)); refine kF ?_ NB245_265.out _; (with_reducible repeat (first | refine kN ?_ _ | refine kD ?_ | refine kA ?_ _)); exact BK245.out) hb); have n6_ := Aside0.mk (kB (g := gb246) (o := .cells #[.int .i64 x247000_2, .int .i64 x247001_2, .slice none 0 0, .slice none 0 0] 39 (0, 0)) (by (with_reducible repeat (first | refine kN ?_ _ | refine kD ?_ | refine kA ?_ _)); refine kF ?_ NB246_265.out _; (with_reducible repeat (first | refine kN ?_ _ | refine kD ?_ | refine kA ?_ _)); refine kF ?_ NB246_265.out _; (with_reducible repeat (first | refine kN ?_ _ | refine kD ?_ | refine kA ?_ _)); exact BK246.out) hb); have n7_ := Aside0.mk (kB (g := gb252) (o := .cells #[.int .i64 0, .int .i64 0, .slice none 0 0, u253003] 39 (0, 0)) (by (with_reducible repeat (first | refine kN ?_ _ | refine kD ?_ | refine kA ?_ _)); refine kF ?_ NB252_265.out _; (with_reducible repeat (first | refine kN ?_ _ | refine kD ?_ | refine kA ?_ _)); refine kF ?_ NB252_265.out _; (with_reducible repeat (first | refine kN ?_ _ | refine kD ?_ | refine kA ?_ _)); exact BK252.out) hb); have n8_ := Aside0.mk (kB (g := gb258) (o := .cells #[.int .i64 ((rd_T68 t254 x46_3).f0), .int .i64 ((rd_T68 t254 x46_3).f1), .int .i64 ((rd_T68 t254 x46_3).f2)] 68 (0, 0)) (by (with_reducible repeat (first | refine kN ?_ _ | refine kD ?_ | refine kA ?_ _)); refine kF ?_ NB258_265.out _; (with_reducible repeat (first | refine kN ?_ _ | refine kD ?_ | refine kA ?_ _)); refine kF ?_ NB258_265.out _; (with_reducible repeat (first | refine kN ?_ _ | refine kD ?_ | refine kA ?_ _)); exact BK258.out) hb); have n9_ := Aside0.mk (kB (g := gb264) (o := .cells #[.int .i64 ((rd_T68 t260 x58_4).f0), .int .i64 ((rd_T68 t260 x58_4).f1), .int .i64 ((rd_T68 t260 x58_4).f2)] 68 (0, 0)) (by (with_reducible repeat (first | refine kN ?_ _ | refine kD ?_ | refine kA ?_ _)); refine kF ?_ NB264_265.out _; (with_reducible repeat (first | refine kN ?_ _ | refine kD ?_ | refine kA ?_ _)); refine kF ?_ NB264_265.out _; (with_reducible repeat (first | refine kN ?_ _ | refine kD ?_ | refine kA ?_ _)); exact BK264.out) hb); have n10_ := Aside0.mk (kB (g := gb265) (o := .cells #[.int .i64 ((rd_T68 t254 x46_3).f2), .int .i64 ((rd_T68 t260 x58_4).f2)] 73 (0, 0)) (by (with_reducible repeat (first | refine kN ?_ _ | refine kD ?_ | refine kA ?_ _)); refine blk_put (cs := #[.int .i64 ((rd_T68 t254 x46_3).f2), .int .i64 0]) ?_ 1 _ rfl; (with_reducible repeat (first | refine kN ?_ _ | refine kD ?_ | refine kA ?_ _)); refine blk_put (cs := #[.int .i64 0, .int .i64 0]) ?_ 0 _ rfl; (with_reducible repeat (first | refine kN ?_ _ | refine kD ?_ | refine kA ?_ _)); exact BK265.out) hb); have n11_ := Aside0.mk (bP (by repeat (first | (with_reducible first | exact HB.out | apply bA | apply bN | apply bD | refine bS ?_ GE244.out | refine bS ?_ GE245.out | refine bS ?_ GE246.out | refine bS ?_ GE252.out | refine bS ?_ GE258.out | refine bS ?_ GE264.out | refine bS ?_ GE265.out) | exact HB.out)) hb); clear HO_6; clear HO_44; clear HO_56; clear HO_253003; clear BK244; clear BK245; clear BK246; clear BK252; clear BK258; clear BK264; clear BK265; clear HB; have HO_6 := n0_; have HO_44 := n1_; have HO_56 := n2_; have HO_253003 := n3_; have BK244 := n4_; have BK245 := n5_; have BK246 := n6_; have BK252 := n7_; have BK258 := n8_; have BK264 := n9_; have BK265 := n10_; have HB := n11_; clear n0_ n1_ n2_ n3_ n4_ n5_ n6_ n7_ n8_ n9_ n10_ n11_; (try clear hb); (try clear hb2); (try clear hk); (try clear hi); have hnb120 := NB252_244.out; have hnc120 := NB244_252.out; have hnb121 := NB252_245.out; have hnc121 := NB245_252.out; have hnb122 := NB252_246.out; have hnc122 := NB246_252.out; obtain ⟨hcz123_0, hcz123_1, hcz123_2, hcz123_3⟩ := cZ4 BK252.out; obtain ⟨hfz123_0, hfz123_1, hfz123_2, hfz123_3⟩ := fZ4 BK252.out; have hcz124_0 : w119.cell? ⟨gb258, 0, none⟩ = some (.int .i64 ((rd_T68 t254 x46_3).f0)) := (kC BK258.out 0).trans rfl; have hcz124_1 : w119.cell? ⟨gb258, 1, none⟩ = some (.int .i64 ((rd_T68 t254 x46_3).f1)) := (kC BK258.out 1).trans rfl; have hcz124_2 : w119.cell? ⟨gb258, 2, none⟩ = some (.int .i64 ((rd_T68 t254 x46_3).f2)) := (kC BK258.out 2).trans rfl; obtain ⟨hfz124_0, hfz124_1, hfz124_2⟩ := fZ3 BK258.out) | ((with_reducible refine gate_builtin (b := .append) (xs := #[.tmp 84, .tmp 90]) rfl ?_); (try (refine gate_guard (by rfl) ?_; dsimp only)); at_builtin; refine Kd.R_append k68 (w0 := w) w.heap.size rfl (.tmp 84) (.tmp 90) 37 68 (.agg #[(.int .i64 0), (.int .i64 0), (.int .i64 0)]) 24 rfl Try.underlying37 info68 rfl (by decide) (by omega) u253003 x253003_4 (⟨x8_2, ((rd_T68 t254 x46_3).f1), t266⟩ : S68) [.int .i64 x8_2, .int .i64 ((rd_T68 t254 x46_3).f1), .int .i64 t266] (fun k_ => some k_ ≠ (.slice (some ad257) t254.length co39 : Value).ownBlock ∧ some k_ ≠ (.slice (some ad263) t260.length co56 : Value).ownBlock ∧ k_ ≠ gb258 ∧ k_ ≠ gb264) (fun _ => False) rfl rfl ?aP (fun _ hk => hk.elim) ?aF ?aO ?aB ?aS ?aL ?_; (case aP => exact k68_mkM _ _ _ (⟨x8_2, ((rd_T68 t254 x46_3).f1), t266⟩ : S68)); (case aB => exact (by repeat (first | (with_reducible first | exact HB.out | apply bA | apply bN | apply bD | refine bS ?_ GE244.out | refine bS ?_ GE245.out | refine bS ?_ GE246.out | refine bS ?_ GE252.out | refine bS ?_ GE258.out | refine bS ?_ GE264.out | refine bS ?_ GE265.out) | exact HB.out))); (case aF => exact (fun k_ hk => ⟨Kd.fresh' (rT (rQ HO_44)) k_ hk, Kd.fresh' (rT (rQ HO_56)) k_ hk, Kd.freshB (kQ BK258) k_ hk, Kd.freshB (kQ BK264) k_ hk⟩)); (case aO => exact (by (with_reducible repeat (first | apply rA | apply rN | apply rD)); exact rM HO_253003.out (fun _ hk => ⟨hk.1.1, ⟨hk.1.2.1, ⟨hk.1.2.2, hk.2⟩⟩⟩))); (case aS => exact (bZ (by repeat (first | (with_reducible first | exact HB.out | apply bA | apply bN | apply bD | refine bS ?_ GE244.out | refine bS ?_ GE245.out | refine bS ?_ GE246.out | refine bS ?_ GE252.out | refine bS ?_ GE258.out | refine bS ?_ GE264.out | refine bS ?_ GE265.out) | exact HB.out)))); (case aL => have := LMc97.out; omega); intro v274 w125 ho hb hg hat; rw [← Ny273.out] at ho; have n0_ := Aside0.mk (Kd.R_over' (rQ HO_6) (Kd.R_typed (rQ HO_253003)) (by decide) hg); have n1_ := Aside0.mk (Kd.R_after (ok := (fun k_ => some k_ ≠ (.slice (some ad263) t260.length co56 : Value).ownBlock ∧ k_ ≠ gb258 ∧ k_ ≠ gb264)) (by (with_reducible repeat (first | apply rA | apply rN | apply rD)); exact rM HO_44.out (fun _ hk => ⟨⟨hk.1.1, ⟨hk.1.2.2, hk.2⟩⟩, hk.1.2.1⟩)) hg hat); have n2_ := Aside0.mk (Kd.R_after (ok := (fun k_ => some k_ ≠ (.slice (some ad257) t254.length co39 : Value).ownBlock ∧ k_ ≠ gb258 ∧ k_ ≠ gb264)) (by (with_reducible repeat (first | apply rA | apply rN | apply rD)); exact rM HO_56.out (fun _ hk => ⟨⟨hk.1.1, ⟨hk.1.2.2, hk.2⟩⟩, hk.1.2.1⟩)) hg hat); have n3_ := Aside0.mk (blk_grown (kQ BK244) hg (Kd.R_ne HO_253003.out BK244.out (by decide))); have n4_ := Aside0.mk (blk_grown (kQ BK245) hg (Kd.R_ne HO_253003.out BK245.out (by decide))); have n5_ := Aside0.mk (blk_grown (kQ BK246) hg (Kd.R_ne HO_253003.out BK246.out (by decide))); have n6_ := Aside0.mk (blk_grown (kQ BK252) hg (Kd.R_ne HO_253003.out BK252.out (by decide))); have n7_ := Aside0.mk (blk_grown (kQ BK258) hg (Kd.R_away HO_253003.out (fun _ hk => hk.1.2.2))); have n8_ := Aside0.mk (blk_grown (kQ BK264) hg (Kd.R_away HO_253003.out (fun _ hk => hk.2))); have n9_ := Aside0.mk (blk_grown (kQ BK265) hg (Kd.R_ne HO_253003.out BK265.out (by decide))); have n10_ := Aside0.mk (hb); have n11_ := Aside0.mk (ho); clear HO_6; clear HO_44; clear HO_56; clear BK244; clear BK245; clear BK246; clear BK252; clear BK258; clear BK264; clear BK265; clear HB; clear HO_253003; have HO_6 := n0_; have HO_44 := n1_; have HO_56 := n2_; have BK244 := n3_; have BK245 := n4_; have BK246 := n5_; have BK252 := n6_; have BK258 := n7_; have BK264 := n8_; have BK265 := n9_; have HB := n10_; have HO275 := n11_; clear n0_ n1_ n2_ n3_ n4_ n5_ n6_ n7_ n8_ n9_ n10_ n11_; clear ho hb hg hat; obtain ⟨Ao126, co126, eo126⟩ := Kd.R_slice HO275.out; subst eo126; obtain ⟨hcz127_0, hcz127_1, hcz127_2, hcz127_3⟩ := cZ4 BK252.out; obtain ⟨hfz127_0, hfz127_1, hfz127_2, hfz127_3⟩ := fZ4 BK252.out))
                       go_roundg k4
                       case measure => have := HJ2.out; have := HK2.out; have := HK3.out; have := HK4.out; omega
                       case rel => exact ⟨(x6_4), (wrap64 (x58_4 + 1)), (y273), (.slice Ao126 y273.length co126), eT, H', ⟨by have := HJ2.out; have := HK2.out; have := HK3.out; have := HK4.out; omega⟩, ⟨by (with_reducible repeat (first | apply rA | apply rN | apply rD)); exact rM (Kd.R_far (p := ⟨gb252, 3, none⟩) (Kd.R_types HO_6.out BK252.out (by decide)) (fun _ hk => hk.2) (.slice Ao126 y273.length co126)) (fun _ hk => trivial)⟩, ⟨by (with_reducible repeat (first | apply rA | apply rN | apply rD)); exact rM (Kd.R_far (p := ⟨gb252, 3, none⟩) (Kd.R_types HO_44.out BK252.out (by decide)) (fun _ hk => hk.2) (.slice Ao126 y273.length co126)) (fun _ hk => ⟨hk.1.1.1, ⟨hk.1.2, hk.1.1.2.1⟩⟩)⟩, ⟨by (with_reducible repeat (first | apply rA | apply rN | apply rD)); exact rM (Kd.R_far (p := ⟨gb252, 3, none⟩) (Kd.R_types HO_56.out BK252.out (by decide)) (fun _ hk => hk.2) (.slice Ao126 y273.length co126)) (fun _ hk => ⟨hk.1.1.1, ⟨hk.1.2, hk.1.1.2.1⟩⟩)⟩, ⟨by (with_reducible repeat (first | apply rA | apply rN | apply rD)); exact rM (Kd.R_far (p := ⟨gb252, 3, none⟩) (Kd.R_types HO275.out BK252.out (by decide)) (fun _ hk => hk.2) (.slice Ao126 y273.length co126)) (fun _ hk => ⟨hk.1.1, ⟨hk.1.2.1, hk.1.2.2.1⟩⟩)⟩, ⟨by (with_reducible repeat (first | refine kN ?_ _ | refine kD ?_ | refine kA ?_ _)); refine kF ?_ NB244_252.out _; (with_reducible repeat (first | refine kN ?_ _ | refine kD ?_ | refine kA ?_ _)); exact BK244.out⟩, ⟨by (with_reducible repeat (first | refine kN ?_ _ | refine kD ?_ | refine kA ?_ _)); refine kF ?_ NB245_252.out _; (with_reducible repeat (first | refine kN ?_ _ | refine kD ?_ | refine kA ?_ _)); exact BK245.out⟩, ⟨by (with_reducible repeat (first | refine kN ?_ _ | refine kD ?_ | refine kA ?_ _)); refine kF ?_ NB246_252.out _; (with_reducible repeat (first | refine kN ?_ _ | refine kD ?_ | refine kA ?_ _)); exact BK246.out⟩, ⟨by (with_reducible repeat (first | refine kN ?_ _ | refine kD ?_ | refine kA ?_ _)); refine blk_put (cs := #[.int .i64 0, .int .i64 0, .slice none 0 0, u253003]) ?_ 3 _ rfl; (with_reducible repeat (first | refine kN ?_ _ | refine kD ?_ | refine kA ?_ _)); exact BK252.out⟩, ⟨by (with_reducible repeat (first | refine kN ?_ _ | refine kD ?_ | refine kA ?_ _)); refine kF ?_ NB258_252.out _; (with_reducible repeat (first | refine kN ?_ _ | refine kD ?_ | refine kA ?_ _)); exact BK258.out⟩, ⟨by repeat (first | (with_reducible first | exact HB.out | apply bA | apply bN | apply bD | refine bS ?_ GE244.out | refine bS ?_ GE245.out | refine bS ?_ GE246.out | refine bS ?_ GE252.out | refine bS ?_ GE258.out | refine bS ?_ GE264.out | refine bS ?_ GE265.out) | exact HB.out)⟩⟩
                      ·rw [if_neg c97] at H
                       exact absurd H (by simp)
                    ·rw [if_neg c60] at H
                     have c60b0 : (((rd_T68 t254 x46_3).f1) == ((rd_T68 t260 x58_4).f1)) = false := beq_eq_false_iff_ne.mpr c60
                     have c60b1 : (((rd_T68 t254 x46_3).f1) != ((rd_T68 t260 x58_4).f1)) = true := bne_iff_ne.mpr c60
                     have H' := Aside0.mk H
                     clear H
                     have p263 : 0 ≤ (x58_4 : Int) := oT
                     have q263 : x58_4 < (t260.length : Int) := oT
                     obtain ⟨ad263, e263, hx263_0, hx263_1, hx263_2⟩ := at_T68 (Kd.R_reads' HO_56.out).2.2 x58_4 p263 q263
                     cases e263
                     replace p263 := eq_true p263
                     replace q263 := eq_true q263
                     go_wp2_with (first | ((with_reducible refine gate_dst (N := 12) rfl ?_); (try (refine gate_guard (by rfl) ?_; dsimp only)); refine bE ?hg (N := 12) ?hd (cs := #[.int .i64 0, .int .i64 0, .int .i64 0]) (t := 68) ?hr ?_; (case hd => rfl); (case hg => rfl); (case hr => first | (go_simp; done) | (go_simp; rfl)); intro gb264 hg w128 hbox hb; have z_ := bX hb (by repeat (first | (with_reducible first | exact HB.out | apply bA | apply bN | apply bD | refine bS ?_ GE244.out | refine bS ?_ GE245.out | refine bS ?_ GE246.out | refine bS ?_ GE252.out | refine bS ?_ GE258.out) | exact HB.out)); have n0_ := Aside0.mk (rB (rQ HO_6) hb); have n1_ := Aside0.mk (rB (Kd.R_elderB (rQ HO_44) gb264 (Nat.le_of_eq hg.symm)) hb); have n2_ := Aside0.mk (rB (Kd.R_elderB (rQ HO_56) gb264 (Nat.le_of_eq hg.symm)) hb); have n3_ := Aside0.mk (rB (Kd.R_elderB (rQ HO_253003) gb264 (Nat.le_of_eq hg.symm)) hb); have n4_ := Aside0.mk (kB (kQ BK244) hb); have n5_ := Aside0.mk (kB (kQ BK245) hb); have n6_ := Aside0.mk (kB (kQ BK246) hb); have n7_ := Aside0.mk (kB (kQ BK252) hb); have n8_ := Aside0.mk (kB (kQ BK258) hb); have n9_ := Aside0.mk (bP z_ hb); have n10_ := Aside0.mk (hbox); have n11_ := Aside0.mk ((by rw [hg]; exact (bZ z_) : w.heap.size ≤ gb264)); have n12_ := Aside0.mk ((by rw [hg]; exact (bZ z_) : w.heap.size ≤ gb264)); have n13_ := Aside0.mk ((by rw [hg]; exact Nat.ne_of_lt (kL (kQ BK244)) : gb244 ≠ gb264)); have n14_ := Aside0.mk ((by rw [hg]; exact Nat.ne_of_gt (kL (kQ BK244)) : gb264 ≠ gb244)); have n15_ := Aside0.mk ((by rw [hg]; exact Nat.ne_of_lt (kL (kQ BK245)) : gb245 ≠ gb264)); have n16_ := Aside0.mk ((by rw [hg]; exact Nat.ne_of_gt (kL (kQ BK245)) : gb264 ≠ gb245)); have n17_ := Aside0.mk ((by rw [hg]; exact Nat.ne_of_lt (kL (kQ BK246)) : gb246 ≠ gb264)); have n18_ := Aside0.mk ((by rw [hg]; exact Nat.ne_of_gt (kL (kQ BK246)) : gb264 ≠ gb246)); have n19_ := Aside0.mk ((by rw [hg]; exact Nat.ne_of_lt (kL (kQ BK252)) : gb252 ≠ gb264)); have n20_ := Aside0.mk ((by rw [hg]; exact Nat.ne_of_gt (kL (kQ BK252)) : gb264 ≠ gb252)); have n21_ := Aside0.mk ((by rw [hg]; exact Nat.ne_of_lt (kL (kQ BK258)) : gb258 ≠ gb264)); have n22_ := Aside0.mk ((by rw [hg]; exact Nat.ne_of_gt (kL (kQ BK258)) : gb264 ≠ gb258)); clear HO_6; clear HO_44; clear HO_56; clear HO_253003; clear BK244; clear BK245; clear BK246; clear BK252; clear BK258; clear HB; have HO_6 := n0_; have HO_44 := n1_; have HO_56 := n2_; have HO_253003 := n3_; have BK244 := n4_; have BK245 := n5_; have BK246 := n6_; have BK252 := n7_; have BK258 := n8_; have HB := n9_; have BK264 := n10_; have GW264 := n11_; have GE264 := n12_; have NB244_264 := n13_; have NB264_244 := n14_; have NB245_264 := n15_; have NB264_245 := n16_; have NB246_264 := n17_; have NB264_246 := n18_; have NB252_264 := n19_; have NB264_252 := n20_; have NB258_264 := n21_; have NB264_258 := n22_; clear z_ n0_ n1_ n2_ n3_ n4_ n5_ n6_ n7_ n8_ n9_ n10_ n11_ n12_ n13_ n14_ n15_ n16_ n17_ n18_ n19_ n20_ n21_ n22_; clear hb hbox hg; have hnb129 := NB264_244.out; have hnc129 := NB244_264.out; have hnb130 := NB264_245.out; have hnc130 := NB245_264.out; have hnb131 := NB264_246.out; have hnc131 := NB246_264.out; have hnb132 := NB264_252.out; have hnc132 := NB252_264.out; have hnb133 := NB264_258.out; have hnc133 := NB258_264.out; obtain ⟨hcz134_0, hcz134_1, hcz134_2⟩ := cZ3 BK264.out; obtain ⟨hfz134_0, hfz134_1, hfz134_2⟩ := fZ3 BK264.out; have hnb135 := NB258_244.out; have hnc135 := NB244_258.out; have hnb136 := NB258_245.out; have hnc136 := NB245_258.out; have hnb137 := NB258_246.out; have hnc137 := NB246_258.out; have hnb138 := NB258_252.out; have hnc138 := NB252_258.out; have hcz139_0 : w128.cell? ⟨gb258, 0, none⟩ = some (.int .i64 ((rd_T68 t254 x46_3).f0)) := (kC BK258.out 0).trans rfl; have hcz139_1 : w128.cell? ⟨gb258, 1, none⟩ = some (.int .i64 ((rd_T68 t254 x46_3).f1)) := (kC BK258.out 1).trans rfl; have hcz139_2 : w128.cell? ⟨gb258, 2, none⟩ = some (.int .i64 ((rd_T68 t254 x46_3).f2)) := (kC BK258.out 2).trans rfl; obtain ⟨hfz139_0, hfz139_1, hfz139_2⟩ := fZ3 BK258.out))
                     go_roundg k4
                     case measure => have := HJ2.out; have := HK2.out; have := HK3.out; have := HK4.out; omega
                     case rel => exact ⟨(x6_4), (wrap64 (x58_4 + 1)), (x253003_4), (u253003), eT, H', ⟨by have := HJ2.out; have := HK2.out; have := HK3.out; have := HK4.out; omega⟩, ⟨by (with_reducible repeat (first | apply rA | apply rN | apply rD)); exact rM (Kd.R_far (p := ⟨gb264, 2, none⟩) (Kd.R_far (p := ⟨gb264, 1, none⟩) (Kd.R_far (p := ⟨gb264, 0, none⟩) (Kd.R_types HO_6.out BK264.out (by decide)) (fun _ hk => hk.2) (.int .i64 ((rd_T68 t260 x58_4).f0))) (fun _ hk => hk.2) (.int .i64 ((rd_T68 t260 x58_4).f1))) (fun _ hk => hk.2) (.int .i64 ((rd_T68 t260 x58_4).f2))) (fun _ hk => trivial)⟩, ⟨by (with_reducible repeat (first | apply rA | apply rN | apply rD)); exact rM (Kd.R_far (p := ⟨gb264, 2, none⟩) (Kd.R_far (p := ⟨gb264, 1, none⟩) (Kd.R_far (p := ⟨gb264, 0, none⟩) (rM HO_44.out (fun k_ hk => (⟨hk, hk.2⟩ : _ ∧ k_ ≠ gb264))) (fun _ hk => hk.2) (.int .i64 ((rd_T68 t260 x58_4).f0))) (fun _ hk => hk.2) (.int .i64 ((rd_T68 t260 x58_4).f1))) (fun _ hk => hk.2) (.int .i64 ((rd_T68 t260 x58_4).f2))) (fun _ hk => ⟨hk.1.1.1, ⟨hk.1.1.2.1, hk.1.1.2.2⟩⟩)⟩, ⟨by (with_reducible repeat (first | apply rA | apply rN | apply rD)); exact rM (Kd.R_far (p := ⟨gb264, 2, none⟩) (Kd.R_far (p := ⟨gb264, 1, none⟩) (Kd.R_far (p := ⟨gb264, 0, none⟩) (rM HO_56.out (fun k_ hk => (⟨hk, hk.2⟩ : _ ∧ k_ ≠ gb264))) (fun _ hk => hk.2) (.int .i64 ((rd_T68 t260 x58_4).f0))) (fun _ hk => hk.2) (.int .i64 ((rd_T68 t260 x58_4).f1))) (fun _ hk => hk.2) (.int .i64 ((rd_T68 t260 x58_4).f2))) (fun _ hk => ⟨hk.1.1.1, ⟨hk.1.1.2.1, hk.1.1.2.2⟩⟩)⟩, ⟨by (with_reducible repeat (first | apply rA | apply rN | apply rD)); exact rM (Kd.R_far (p := ⟨gb264, 2, none⟩) (Kd.R_far (p := ⟨gb264, 1, none⟩) (Kd.R_far (p := ⟨gb264, 0, none⟩) (rM HO_253003.out (fun k_ hk => (⟨hk, hk.2⟩ : _ ∧ k_ ≠ gb264))) (fun _ hk => hk.2) (.int .i64 ((rd_T68 t260 x58_4).f0))) (fun _ hk => hk.2) (.int .i64 ((rd_T68 t260 x58_4).f1))) (fun _ hk => hk.2) (.int .i64 ((rd_T68 t260 x58_4).f2))) (fun _ hk => ⟨hk.1.1.1, ⟨hk.1.1.2.1, hk.1.1.2.2⟩⟩)⟩, ⟨by (with_reducible repeat (first | refine kN ?_ _ | refine kD ?_ | refine kA ?_ _)); refine kF ?_ NB244_264.out _; (with_reducible repeat (first | refine kN ?_ _ | refine kD ?_ | refine kA ?_ _)); refine kF ?_ NB244_264.out _; (with_reducible repeat (first | refine kN ?_ _ | refine kD ?_ | refine kA ?_ _)); refine kF ?_ NB244_264.out _; (with_reducible repeat (first | refine kN ?_ _ | refine kD ?_ | refine kA ?_ _)); exact BK244.out⟩, ⟨by (with_reducible repeat (first | refine kN ?_ _ | refine kD ?_ | refine kA ?_ _)); refine kF ?_ NB245_264.out _; (with_reducible repeat (first | refine kN ?_ _ | refine kD ?_ | refine kA ?_ _)); refine kF ?_ NB245_264.out _; (with_reducible repeat (first | refine kN ?_ _ | refine kD ?_ | refine kA ?_ _)); refine kF ?_ NB245_264.out _; (with_reducible repeat (first | refine kN ?_ _ | refine kD ?_ | refine kA ?_ _)); exact BK245.out⟩, ⟨by (with_reducible repeat (first | refine kN ?_ _ | refine kD ?_ | refine kA ?_ _)); refine kF ?_ NB246_264.out _; (with_reducible repeat (first | refine kN ?_ _ | refine kD ?_ | refine kA ?_ _)); refine kF ?_ NB246_264.out _; (with_reducible repeat (first | refine kN ?_ _ | refine kD ?_ | refine kA ?_ _)); refine kF ?_ NB246_264.out _; (with_reducible repeat (first | refine kN ?_ _ | refine kD ?_ | refine kA ?_ _)); exact BK246.out⟩, ⟨by (with_reducible repeat (first | refine kN ?_ _ | refine kD ?_ | refine kA ?_ _)); refine kF ?_ NB252_264.out _; (with_reducible repeat (first | refine kN ?_ _ | refine kD ?_ | refine kA ?_ _)); refine kF ?_ NB252_264.out _; (with_reducible repeat (first | refine kN ?_ _ | refine kD ?_ | refine kA ?_ _)); refine kF ?_ NB252_264.out _; (with_reducible repeat (first | refine kN ?_ _ | refine kD ?_ | refine kA ?_ _)); exact BK252.out⟩, ⟨by (with_reducible repeat (first | refine kN ?_ _ | refine kD ?_ | refine kA ?_ _)); refine kF ?_ NB258_264.out _; (with_reducible repeat (first | refine kN ?_ _ | refine kD ?_ | refine kA ?_ _)); refine kF ?_ NB258_264.out _; (with_reducible repeat (first | refine kN ?_ _ | refine kD ?_ | refine kA ?_ _)); refine kF ?_ NB258_264.out _; (with_reducible repeat (first | refine kN ?_ _ | refine kD ?_ | refine kA ?_ _)); exact BK258.out⟩, ⟨by repeat (first | (with_reducible first | exact HB.out | apply bA | apply bN | apply bD | refine bS ?_ GE244.out | refine bS ?_ GE245.out | refine bS ?_ GE246.out | refine bS ?_ GE252.out | refine bS ?_ GE258.out | refine bS ?_ GE264.out) | exact HB.out)⟩⟩
                   ·rw [if_neg c59] at H
                    exact absurd H (by simp)
                  ·rw [if_neg c58] at H
                   exact absurd H (by simp)
                 ·rw [if_neg c57] at H
                  have c57b0 : decide (x58_4 < (t260.length : Int)) = false := decide_eq_false c57
                  clear c57
                  have H' := Aside0.mk H
                  clear H
                  go_wp2
                  go_roundg k4
                  case measure => have := HJ2.out; have := HK2.out; have := HK3.out; have := HK4.out; omega
                  case rel => exact ⟨(x6_4), (wrap64 (x46_3 + 1)), (x253003_4), (u253003), eT, H', ⟨by have := HJ2.out; have := HK2.out; have := HK3.out; have := HK4.out; omega⟩, ⟨rQ HO_6⟩, ⟨by (with_reducible repeat (first | apply rA | apply rN | apply rD)); exact rM HO_44.out (fun _ hk => hk.2.1)⟩, ⟨by (with_reducible repeat (first | apply rA | apply rN | apply rD)); exact rM HO_253003.out (fun _ hk => hk.1)⟩, ⟨kQ BK244⟩, ⟨kQ BK245⟩, ⟨kQ BK246⟩, ⟨kQ BK252⟩, ⟨by repeat (first | (with_reducible first | exact HB.out | apply bA | apply bN | apply bD | refine bS ?_ GE244.out | refine bS ?_ GE245.out | refine bS ?_ GE246.out | refine bS ?_ GE252.out | refine bS ?_ GE258.out) | exact HB.out)⟩⟩
              ·rw [if_neg c44] at H
               exact absurd H (by simp)
             ·rw [if_neg c43] at H
              exact absurd H (by simp)
            ·rw [if_neg c42] at H
             exact absurd H (by simp)
           ·rw [if_neg c41] at H
            exact absurd H (by simp)
          ·rw [if_neg c40] at H
           have c40b0 : decide (x46_3 < (t254.length : Int)) = false := decide_eq_false c40
           clear c40
           by_cases c140 : (x6_3.length : Int) > 32
           ·rw [if_pos c140] at H
            have c140b0 : decide (32 < (x6_3.length : Int)) = true := decide_eq_true c140
            have c140b1 : decide (32 < x6_3.length) = true := decide_eq_true (by omega)
            clear c140
            simp only [Option.some.injEq, Prod.mk.injEq] at H
            obtain ⟨rfl, rfl, rfl, rfl, rfl⟩ := H
            obtain ⟨Ao141, co141, eo141⟩ := Kd.R_slice HO_6.out
            subst eo141
            have hnb142 := NB246_244.out
            have hnc142 := NB244_246.out
            have hnb143 := NB246_245.out
            have hnc143 := NB245_246.out
            have hnb144 := NB246_252.out
            have hnc144 := NB252_246.out
            obtain ⟨hcz145_0, hcz145_1, hcz145_2, hcz145_3⟩ := cZ4 BK246.out
            obtain ⟨hfz145_0, hfz145_1, hfz145_2, hfz145_3⟩ := fZ4 BK246.out
            go_wp2
            refine bodyPost_ret (results_ct rfl _ _ gb246 39 #[.int .i64 0, .int .i64 0, .slice none 0 0, .slice none 0 0] (0, 0) _ rfl (by (with_reducible repeat (first | refine kN ?_ _ | refine kD ?_ | refine kA ?_ _)); refine blk_put (cs := #[.int .i64 0, .int .i64 0, .slice none 0 0, .slice none 0 0]) ?_ 3 _ rfl; (with_reducible repeat (first | refine kN ?_ _ | refine kD ?_ | refine kA ?_ _)); refine blk_put (cs := #[.int .i64 0, .int .i64 0, .slice none 0 0, .slice none 0 0]) ?_ 2 _ rfl; (with_reducible repeat (first | refine kN ?_ _ | refine kD ?_ | refine kA ?_ _)); refine blk_put (cs := #[.int .i64 0, .int .i64 x247001_2, .slice none 0 0, .slice none 0 0]) ?_ 1 _ rfl; (with_reducible repeat (first | refine kN ?_ _ | refine kD ?_ | refine kA ?_ _)); refine blk_put (cs := #[.int .i64 x247000_2, .int .i64 x247001_2, .slice none 0 0, .slice none 0 0]) ?_ 0 _ rfl; (with_reducible repeat (first | refine kN ?_ _ | refine kD ?_ | refine kA ?_ _)); exact BK246.out) Try.underlying39 rfl (by kernel_rfl)) rfl ?_
            exact ⟨_, _, by first | rfl | (simp [errW_none, errW_some] <;> rfl) | (simp [*, errW_none, errW_some] <;> rfl), by first | exact Kd.R_nil _ _ _ _ _ | exact Kd.N_nil _ _ _ _ _ | exact Kd.V_nil _ _ _ _ _ | exact Kd.Q_nil _ _ _ _ _ | exact Kd.S_nil _ _ _ _ _, by first | exact Kd.R_nil _ _ _ _ _ | exact Kd.N_nil _ _ _ _ _ | exact Kd.V_nil _ _ _ _ _ | exact Kd.Q_nil _ _ _ _ _ | exact Kd.S_nil _ _ _ _ _, by repeat (first | (with_reducible first | exact HB.out | apply bA | apply bN | apply bD | refine bS ?_ GE244.out | refine bS ?_ GE245.out | refine bS ?_ GE246.out | refine bS ?_ GE252.out) | exact HB.out)⟩
           ·rw [if_neg c140] at H
            have c140b0 : decide (32 < (x6_3.length : Int)) = false := decide_eq_false c140
            have c140b1 : decide (32 < x6_3.length) = false := decide_eq_false (by omega)
            clear c140
            by_cases c146 : (x253003_3.length : Int) > 256
            ·rw [if_pos c146] at H
             have c146b0 : decide (256 < (x253003_3.length : Int)) = true := decide_eq_true c146
             have c146b1 : decide (256 < x253003_3.length) = true := decide_eq_true (by omega)
             clear c146
             simp only [Option.some.injEq, Prod.mk.injEq] at H
             obtain ⟨rfl, rfl, rfl, rfl, rfl⟩ := H
             obtain ⟨Ao147, co147, eo147⟩ := Kd.R_slice HO_6.out
             subst eo147
             have hnb148 := NB252_244.out
             have hnc148 := NB244_252.out
             have hnb149 := NB252_245.out
             have hnc149 := NB245_252.out
             have hnb150 := NB252_246.out
             have hnc150 := NB246_252.out
             obtain ⟨hcz151_0, hcz151_1, hcz151_2, hcz151_3⟩ := cZ4 BK252.out
             obtain ⟨hfz151_0, hfz151_1, hfz151_2, hfz151_3⟩ := fZ4 BK252.out
             obtain ⟨Ao152, co152, eo152⟩ := Kd.R_slice HO_253003.out
             subst eo152
             have hnb153 := NB246_244.out
             have hnc153 := NB244_246.out
             have hnb154 := NB246_245.out
             have hnc154 := NB245_246.out
             obtain ⟨hcz155_0, hcz155_1, hcz155_2, hcz155_3⟩ := cZ4 BK246.out
             obtain ⟨hfz155_0, hfz155_1, hfz155_2, hfz155_3⟩ := fZ4 BK246.out
             go_wp2
             refine bodyPost_ret (results_ct rfl _ _ gb246 39 #[.int .i64 0, .int .i64 0, .slice none 0 0, .slice none 0 0] (0, 0) _ rfl (by (with_reducible repeat (first | refine kN ?_ _ | refine kD ?_ | refine kA ?_ _)); refine blk_put (cs := #[.int .i64 0, .int .i64 0, .slice none 0 0, .slice none 0 0]) ?_ 3 _ rfl; (with_reducible repeat (first | refine kN ?_ _ | refine kD ?_ | refine kA ?_ _)); refine blk_put (cs := #[.int .i64 0, .int .i64 0, .slice none 0 0, .slice none 0 0]) ?_ 2 _ rfl; (with_reducible repeat (first | refine kN ?_ _ | refine kD ?_ | refine kA ?_ _)); refine blk_put (cs := #[.int .i64 0, .int .i64 x247001_2, .slice none 0 0, .slice none 0 0]) ?_ 1 _ rfl; (with_reducible repeat (first | refine kN ?_ _ | refine kD ?_ | refine kA ?_ _)); refine blk_put (cs := #[.int .i64 x247000_2, .int .i64 x247001_2, .slice none 0 0, .slice none 0 0]) ?_ 0 _ rfl; (with_reducible repeat (first | refine kN ?_ _ | refine kD ?_ | refine kA ?_ _)); exact BK246.out) Try.underlying39 rfl (by kernel_rfl)) rfl ?_
             exact ⟨_, _, by first | rfl | (simp [errW_none, errW_some] <;> rfl) | (simp [*, errW_none, errW_some] <;> rfl), by first | exact Kd.R_nil _ _ _ _ _ | exact Kd.N_nil _ _ _ _ _ | exact Kd.V_nil _ _ _ _ _ | exact Kd.Q_nil _ _ _ _ _ | exact Kd.S_nil _ _ _ _ _, by first | exact Kd.R_nil _ _ _ _ _ | exact Kd.N_nil _ _ _ _ _ | exact Kd.V_nil _ _ _ _ _ | exact Kd.Q_nil _ _ _ _ _ | exact Kd.S_nil _ _ _ _ _, by repeat (first | (with_reducible first | exact HB.out | apply bA | apply bN | apply bD | refine bS ?_ GE244.out | refine bS ?_ GE245.out | refine bS ?_ GE246.out | refine bS ?_ GE252.out) | exact HB.out)⟩
            ·rw [if_neg c146] at H
             have c146b0 : decide (256 < (x253003_3.length : Int)) = false := decide_eq_false c146
             have c146b1 : decide (256 < x253003_3.length) = false := decide_eq_false (by omega)
             clear c146
             have H' := Aside0.mk H
             clear H
             obtain ⟨Ao156, co156, eo156⟩ := Kd.R_slice HO_6.out
             subst eo156
             have hnb157 := NB252_244.out
             have hnc157 := NB244_252.out
             have hnb158 := NB252_245.out
             have hnc158 := NB245_252.out
             have hnb159 := NB252_246.out
             have hnc159 := NB246_252.out
             obtain ⟨hcz160_0, hcz160_1, hcz160_2, hcz160_3⟩ := cZ4 BK252.out
             obtain ⟨hfz160_0, hfz160_1, hfz160_2, hfz160_3⟩ := fZ4 BK252.out
             obtain ⟨Ao161, co161, eo161⟩ := Kd.R_slice HO_253003.out
             subst eo161
             go_wp2
             go_roundg k3
             case measure => have := HJ2.out; have := HK2.out; have := HK3.out; omega
             case rel => exact ⟨(x6_3), (wrap64 (x8_2 + 1)), (x247000_2), (x247001_2), (x253003_3), (.slice Ao161 x253003_3.length co161), eT, H', ⟨by have := HJ2.out; have := HK2.out; have := HK3.out; omega⟩, ⟨rQ HO_6⟩, ⟨by (with_reducible repeat (first | apply rA | apply rN | apply rD)); exact rM HO_253003.out (fun _ hk => trivial)⟩, ⟨kQ BK244⟩, ⟨kQ BK245⟩, ⟨kQ BK246⟩, ⟨kQ BK252⟩, ⟨by repeat (first | (with_reducible first | exact HB.out | apply bA | apply bN | apply bD | refine bS ?_ GE244.out | refine bS ?_ GE245.out | refine bS ?_ GE246.out | refine bS ?_ GE252.out) | exact HB.out)⟩⟩
       ·rw [if_neg c34] at H
        exact absurd H (by simp)
      ·rw [if_neg c33] at H
       have c33b0 : decide (x8_2 < (x6_2.length : Int)) = false := decide_eq_false c33
       clear c33
       have H' := Aside0.mk H
       clear H
       obtain ⟨Ao162, co162, eo162⟩ := Kd.R_slice HO_6.out
       subst eo162
       have hnb163 := NB252_244.out
       have hnc163 := NB244_252.out
       have hnb164 := NB252_245.out
       have hnc164 := NB245_252.out
       have hnb165 := NB252_246.out
       have hnc165 := NB246_252.out
       obtain ⟨hcz166_0, hcz166_1, hcz166_2, hcz166_3⟩ := cZ4 BK252.out
       obtain ⟨hfz166_0, hfz166_1, hfz166_2, hfz166_3⟩ := fZ4 BK252.out
       go_wp2
       go_loopg [110] k2 (fun kq v110 w' => ∃ (x110_3 : Int) (x253002_3 : List Int) (u253002 : Value), v110 = .int .i64 x110_3 ∧ Aside0 (impl_MeetGrammars.l3 kq x6_2 (x6_2.length : Int) x110_3 a0_0 a0_1 l0_2 l0_3 a1_0 a1_1 l1_2 l1_3 (x6_2.length : Int) 0 x253002_3 x253003_2 = some (r1, r2, r3, r4, r5)) ∧ Aside0 (kq ≤ k2) ∧ Aside0 (Kd.R k73 73 w' w.heap.size (fun _ => True) (.slice Ao162 x6_2.length co162) x6_2) ∧ Aside0 (Kd.R (Kd.int .i64) 2 w' w.heap.size (fun _ => True) u253002 x253002_3) ∧ Aside0 (Kd.R k68 68 w' w.heap.size (fun _ => True) u253003 x253003_2) ∧ Aside0 (w'.heap[gb244]? = some (.cells #[.int .i64 a0_0, .int .i64 a0_1, (.slice A0_2 l0_2.length c0_2), (.slice A0_3 l0_3.length c0_3)] 39 (0, 0))) ∧ Aside0 (w'.heap[gb245]? = some (.cells #[.int .i64 a1_0, .int .i64 a1_1, (.slice A1_2 l1_2.length c1_2), (.slice A1_3 l1_3.length c1_3)] 39 (0, 0))) ∧ Aside0 (w'.heap[gb246]? = some (.cells #[.int .i64 x247000_2, .int .i64 x247001_2, (.slice none 0 0), (.slice none 0 0)] 39 (0, 0))) ∧ Aside0 (w'.heap[gb252]? = some (.cells #[.int .i64 (x6_2.length : Int), .int .i64 0, u253002, u253003] 39 (0, 0))) ∧ Aside0 (Below w.heap.size w w'))
       case atStart => exact ⟨(0), (([] : List Int)), (.slice none 0 0), eT, H', ⟨Nat.le_refl _⟩, ⟨by (with_reducible repeat (first | apply rA | apply rN | apply rD)); exact rM (Kd.R_far (p := ⟨gb252, 0, none⟩) (Kd.R_types HO_6.out BK252.out (by decide)) (fun _ hk => hk.2) (.int .i64 (x6_2.length : Int))) (fun _ hk => trivial)⟩, ⟨by first | exact Kd.R_nil _ _ _ _ _ | exact Kd.N_nil _ _ _ _ _ | exact Kd.V_nil _ _ _ _ _ | exact Kd.Q_nil _ _ _ _ _ | exact Kd.S_nil _ _ _ _ _⟩, ⟨by (with_reducible repeat (first | apply rA | apply rN | apply rD)); exact rM (Kd.R_far (p := ⟨gb252, 0, none⟩) (Kd.R_types HO_253003.out BK252.out (by decide)) (fun _ hk => hk.2) (.int .i64 (x6_2.length : Int))) (fun _ hk => trivial)⟩, ⟨by (with_reducible repeat (first | refine kN ?_ _ | refine kD ?_ | refine kA ?_ _)); refine kF ?_ NB244_252.out _; (with_reducible repeat (first | refine kN ?_ _ | refine kD ?_ | refine kA ?_ _)); exact BK244.out⟩, ⟨by (with_reducible repeat (first | refine kN ?_ _ | refine kD ?_ | refine kA ?_ _)); refine kF ?_ NB245_252.out _; (with_reducible repeat (first | refine kN ?_ _ | refine kD ?_ | refine kA ?_ _)); exact BK245.out⟩, ⟨by (with_reducible repeat (first | refine kN ?_ _ | refine kD ?_ | refine kA ?_ _)); refine kF ?_ NB246_252.out _; (with_reducible repeat (first | refine kN ?_ _ | refine kD ?_ | refine kA ?_ _)); exact BK246.out⟩, ⟨by (with_reducible repeat (first | refine kN ?_ _ | refine kD ?_ | refine kA ?_ _)); refine blk_put (cs := #[.int .i64 0, .int .i64 0, .slice none 0 0, u253003]) ?_ 0 _ rfl; (with_reducible repeat (first | refine kN ?_ _ | refine kD ?_ | refine kA ?_ _)); exact BK252.out⟩, ⟨by repeat (first | (with_reducible first | exact HB.out | apply bA | apply bN | apply bD | refine bS ?_ GE244.out | refine bS ?_ GE245.out | refine bS ?_ GE246.out | refine bS ?_ GE252.out) | exact HB.out)⟩⟩
       case round =>
        clear H'
        try clear c1
        try clear c2
        try clear p2
        try clear q2
        try clear hx2
        try clear c3
        try clear c4
        try clear c5
        try clear c6
        try clear p6
        try clear c7
        try clear c8
        try clear c9
        try clear c10
        try clear c11
        try clear c12
        try clear c13
        try clear c14
        try clear c15
        try clear c16
        try clear c17
        try clear c18
        try clear c21
        try clear c22
        try clear c23
        try clear c25
        try clear p25
        try clear q25
        try clear hx25
        try clear c26
        try clear p26
        try clear q26
        try clear hx26
        try clear c28
        try clear c33
        try clear c33b0
        try clear c34
        try clear c34b0
        try clear c40
        try clear c40b0
        try clear c41
        try clear c41b0
        try clear c42
        try clear c42b0
        try clear c43
        try clear c43b0
        try clear c44
        try clear c44b0
        try clear c47
        try clear c48
        try clear c49
        try clear c50
        try clear c57
        try clear c57b0
        try clear c58
        try clear c58b0
        try clear c59
        try clear c59b0
        try clear c60
        try clear c60b0
        try clear c60b1
        try clear c62
        try clear c62b0
        try clear c63
        try clear c64
        try clear p64
        try clear c66
        try clear c67
        try clear c68
        try clear c69
        try clear c70
        try clear c72
        try clear c73
        try clear c74
        try clear c75
        try clear c78
        try clear c79
        try clear c80
        try clear c81
        try clear c82
        try clear c83
        try clear c89
        try clear c90
        try clear c91
        try clear c97
        try clear c99
        try clear c100
        try clear c101
        try clear c102
        try clear c103
        try clear c105
        try clear c106
        try clear c107
        try clear c108
        try clear c111
        try clear c112
        try clear c113
        try clear c114
        try clear c115
        try clear c116
        try clear c120
        try clear c121
        try clear c122
        try clear c129
        try clear c130
        try clear c131
        try clear c132
        try clear c133
        try clear c135
        try clear c136
        try clear c137
        try clear c138
        try clear c140
        try clear c140b0
        try clear c140b1
        try clear c142
        try clear c143
        try clear c144
        try clear c146
        try clear c146b0
        try clear c146b1
        try clear c148
        try clear c149
        try clear c150
        try clear c153
        try clear c154
        try clear c157
        try clear c158
        try clear c159
        try clear c163
        try clear c164
        try clear c165
        try clear hcz104_0
        try clear hcz104_1
        try clear hcz104_2
        try clear hcz109_0
        try clear hcz109_1
        try clear hcz109_2
        try clear hcz117_0
        try clear hcz117_1
        try clear hcz123_0
        try clear hcz123_1
        try clear hcz123_2
        try clear hcz123_3
        try clear hcz124_0
        try clear hcz124_1
        try clear hcz124_2
        try clear hcz127_0
        try clear hcz127_1
        try clear hcz127_2
        try clear hcz127_3
        try clear hcz12_0
        try clear hcz12_1
        try clear hcz12_2
        try clear hcz12_3
        try clear hcz134_0
        try clear hcz134_1
        try clear hcz134_2
        try clear hcz139_0
        try clear hcz139_1
        try clear hcz139_2
        try clear hcz145_0
        try clear hcz145_1
        try clear hcz145_2
        try clear hcz145_3
        try clear hcz151_0
        try clear hcz151_1
        try clear hcz151_2
        try clear hcz151_3
        try clear hcz155_0
        try clear hcz155_1
        try clear hcz155_2
        try clear hcz155_3
        try clear hcz15_0
        try clear hcz15_1
        try clear hcz15_2
        try clear hcz15_3
        try clear hcz160_0
        try clear hcz160_1
        try clear hcz160_2
        try clear hcz160_3
        try clear hcz166_0
        try clear hcz166_1
        try clear hcz166_2
        try clear hcz166_3
        try clear hcz19_0
        try clear hcz19_1
        try clear hcz19_2
        try clear hcz19_3
        try clear hcz24_0
        try clear hcz24_1
        try clear hcz24_2
        try clear hcz24_3
        try clear hcz27_0
        try clear hcz27_1
        try clear hcz27_2
        try clear hcz27_3
        try clear hcz29_0
        try clear hcz29_1
        try clear hcz29_2
        try clear hcz29_3
        try clear hcz51_0
        try clear hcz51_1
        try clear hcz51_2
        try clear hcz71_0
        try clear hcz71_1
        try clear hcz71_2
        try clear hcz76_0
        try clear hcz76_1
        try clear hcz76_2
        try clear hcz84_0
        try clear hcz84_1
        try clear hcz87_0
        try clear hcz87_1
        try clear hcz92_0
        try clear hcz92_1
        try clear hcz92_2
        try clear hcz92_3
        try clear hcz93_0
        try clear hcz93_1
        try clear hcz93_2
        try clear hcz96_0
        try clear hcz96_1
        try clear hcz96_2
        try clear hcz96_3
        try clear hfz104_0
        try clear hfz104_1
        try clear hfz104_2
        try clear hfz109_0
        try clear hfz109_1
        try clear hfz109_2
        try clear hfz117_0
        try clear hfz117_1
        try clear hfz123_0
        try clear hfz123_1
        try clear hfz123_2
        try clear hfz123_3
        try clear hfz124_0
        try clear hfz124_1
        try clear hfz124_2
        try clear hfz127_0
        try clear hfz127_1
        try clear hfz127_2
        try clear hfz127_3
        try clear hfz12_0
        try clear hfz12_1
        try clear hfz12_2
        try clear hfz12_3
        try clear hfz134_0
        try clear hfz134_1
        try clear hfz134_2
        try clear hfz139_0
        try clear hfz139_1
        try clear hfz139_2
        try clear hfz145_0
        try clear hfz145_1
        try clear hfz145_2
        try clear hfz145_3
        try clear hfz151_0
        try clear hfz151_1
        try clear hfz151_2
        try clear hfz151_3
        try clear hfz155_0
        try clear hfz155_1
        try clear hfz155_2
        try clear hfz155_3
        try clear hfz15_0
        try clear hfz15_1
        try clear hfz15_2
        try clear hfz15_3
        try clear hfz160_0
        try clear hfz160_1
        try clear hfz160_2
        try clear hfz160_3
        try clear hfz166_0
        try clear hfz166_1
        try clear hfz166_2
        try clear hfz166_3
        try clear hfz19_0
        try clear hfz19_1
        try clear hfz19_2
        try clear hfz19_3
        try clear hfz24_0
        try clear hfz24_1
        try clear hfz24_2
        try clear hfz24_3
        try clear hfz27_0
        try clear hfz27_1
        try clear hfz27_2
        try clear hfz27_3
        try clear hfz29_0
        try clear hfz29_1
        try clear hfz29_2
        try clear hfz29_3
        try clear hfz51_0
        try clear hfz51_1
        try clear hfz51_2
        try clear hfz71_0
        try clear hfz71_1
        try clear hfz71_2
        try clear hfz76_0
        try clear hfz76_1
        try clear hfz76_2
        try clear hfz84_0
        try clear hfz84_1
        try clear hfz87_0
        try clear hfz87_1
        try clear hfz92_0
        try clear hfz92_1
        try clear hfz92_2
        try clear hfz92_3
        try clear hfz93_0
        try clear hfz93_1
        try clear hfz93_2
        try clear hfz96_0
        try clear hfz96_1
        try clear hfz96_2
        try clear hfz96_3
        try clear hx253_0
        try clear hx253_1
        try clear hx257_0
        try clear hx257_1
        try clear hx257_2
        try clear hx259_0
        try clear hx259_1
        try clear hx263_0
        try clear hx263_1
        try clear hx263_2
        try clear p2
        try clear p25
        try clear p253
        try clear p257
        try clear p259
        try clear p263
        try clear q2
        try clear q25
        try clear q253
        try clear q257
        try clear q259
        try clear q263
        obtain ⟨x110_3, x253002_3, u253002, rfl, HA, HK3, HO_108, HO_253002, HO_253003, BK244, BK245, BK246, BK252, HB⟩ := hrel
        cases gk with
        | zero => exact absurd HA.out (by simp [impl_MeetGrammars.l3])
        | succ k3 =>
         have H := HA.out
         clear HA
         simp only [impl_MeetGrammars.l3] at H
         by_cases c167 : x110_3 < (x6_2.length : Int)
         ·rw [if_pos c167] at H
          have c167b0 : decide (x110_3 < (x6_2.length : Int)) = true := decide_eq_true c167
          clear c167
          by_cases c168 : 0 ≤ x110_3
          ·rw [if_pos c168] at H
           have c168b0 : decide (0 ≤ x110_3) = true := decide_eq_true c168
           clear c168
           by_cases c169 : x110_3 < (x6_2.length : Int)
           ·rw [if_pos c169] at H
            have c169b0 : decide (x110_3 < (x6_2.length : Int)) = true := decide_eq_true c169
            clear c169
            replace H := Option.bind_eq_some_iff.mp H
            obtain ⟨t278, A1700, H⟩ := H
            replace H : (if t278 = true then ((impl_Grammar_isFinal.f k3 a1_0 a1_1 l1_2 l1_3 ((rd_T73 x6_2 x110_3).f1)).bind fun t279 => (if t279 = true then (if x253002_3.length < 17592186044416 then (impl_MeetGrammars.l3 k3 x6_2 (x6_2.length : Int) (wrap64 (x110_3 + 1)) a0_0 a0_1 l0_2 l0_3 a1_0 a1_1 l1_2 l1_3 (x6_2.length : Int) 0 (x253002_3 ++ [x110_3]) x253003_2) else (none)) else (impl_MeetGrammars.l3 k3 x6_2 (x6_2.length : Int) (wrap64 (x110_3 + 1)) a0_0 a0_1 l0_2 l0_3 a1_0 a1_1 l1_2 l1_3 (x6_2.length : Int) 0 x253002_3 x253003_2))) else (impl_MeetGrammars.l3 k3 x6_2 (x6_2.length : Int) (wrap64 (x110_3 + 1)) a0_0 a0_1 l0_2 l0_3 a1_0 a1_1 l1_2 l1_3 (x6_2.length : Int) 0 x253002_3 x253003_2)) = some (r1, r2, r3, r4, r5) := H
            have A170 := Aside0.mk A1700
            clear A1700
            by_cases c171 : t278 = true
            ·subst c171
             have H1 : ((impl_Grammar_isFinal.f k3 a1_0 a1_1 l1_2 l1_3 ((rd_T73 x6_2 x110_3).f1)).bind fun t279 => (if t279 = true then (if x253002_3.length < 17592186044416 then (impl_MeetGrammars.l3 k3 x6_2 (x6_2.length : Int) (wrap64 (x110_3 + 1)) a0_0 a0_1 l0_2 l0_3 a1_0 a1_1 l1_2 l1_3 (x6_2.length : Int) 0 (x253002_3 ++ [x110_3]) x253003_2) else (none)) else (impl_MeetGrammars.l3 k3 x6_2 (x6_2.length : Int) (wrap64 (x110_3 + 1)) a0_0 a0_1 l0_2 l0_3 a1_0 a1_1 l1_2 l1_3 (x6_2.length : Int) 0 x253002_3 x253003_2))) = some (r1, r2, r3, r4, r5) := by rw [if_pos rfl] at H; exact H
             clear H
             have H := H1
             clear H1
             replace H := Option.bind_eq_some_iff.mp H
             obtain ⟨t279, A1720, H⟩ := H
             replace H : (if t279 = true then (if x253002_3.length < 17592186044416 then (impl_MeetGrammars.l3 k3 x6_2 (x6_2.length : Int) (wrap64 (x110_3 + 1)) a0_0 a0_1 l0_2 l0_3 a1_0 a1_1 l1_2 l1_3 (x6_2.length : Int) 0 (x253002_3 ++ [x110_3]) x253003_2) else (none)) else (impl_MeetGrammars.l3 k3 x6_2 (x6_2.length : Int) (wrap64 (x110_3 + 1)) a0_0 a0_1 l0_2 l0_3 a1_0 a1_1 l1_2 l1_3 (x6_2.length : Int) 0 x253002_3 x253003_2)) = some (r1, r2, r3, r4, r5) := H
             have A172 := Aside0.mk A1720
             clear A1720
             by_cases c173 : t279 = true
             ·subst c173
              have H1 : (if x253002_3.length < 17592186044416 then (impl_MeetGrammars.l3 k3 x6_2 (x6_2.length : Int) (wrap64 (x110_3 + 1)) a0_0 a0_1 l0_2 l0_3 a1_0 a1_1 l1_2 l1_3 (x6_2.length : Int) 0 (x253002_3 ++ [x110_3]) x253003_2) else (none)) = some (r1, r2, r3, r4, r5) := by rw [if_pos rfl] at H; exact H
              clear H
              have H := H1
              clear H1
              by_cases c174 : x253002_3.length < 17592186044416
              ·rw [if_pos c174] at H
               have LMc174 := Aside0.mk c174
               clear c174
               obtain ⟨y280, hy280⟩ : ∃ y_ : List Int, y_ = (x253002_3 ++ [x110_3]) := ⟨_, rfl⟩
               replace H : (impl_MeetGrammars.l3 k3 x6_2 (x6_2.length : Int) (wrap64 (x110_3 + 1)) a0_0 a0_1 l0_2 l0_3 a1_0 a1_1 l1_2 l1_3 (x6_2.length : Int) 0 y280 x253003_2) = some (r1, r2, r3, r4, r5) := by first | (rw [hy280]; with_reducible exact H) | (have H2_ := (Option.bind_some _ _).symm.trans H; rw [hy280]; with_reducible exact H2_) | (have H2_ := (Option.bind_some _ _).symm.trans H; with_reducible exact H2_) | with_reducible exact H | (rw [hy280]; exact H) | exact H
               have Ny280 := Aside0.mk hy280
               clear hy280
               have H' := Aside0.mk H
               clear H
               have p276 : 0 ≤ (x110_3 : Int) := oT
               have q276 : x110_3 < (x6_2.length : Int) := oT
               obtain ⟨ad276, e276, hx276_0, hx276_1⟩ := at_T73 (Kd.R_reads' HO_108.out).2.2 x110_3 p276 q276
               cases e276
               replace p276 := eq_true p276
               replace q276 := eq_true q276
               go_wp2_with (first | ((with_reducible refine gate_dst (N := 16) rfl ?_); (try (refine gate_guard (by rfl) ?_; dsimp only)); refine bE ?hg (N := 16) ?hd (cs := #[.int .i64 0, .int .i64 0]) (t := 73) ?hr ?_; (case hd => rfl); (case hg => rfl); (case hr => first | (go_simp; done) | (go_simp; rfl)); intro gb277 hg w175 hbox hb; have z_ := bX hb (by repeat (first | (with_reducible first | exact HB.out | apply bA | apply bN | apply bD | refine bS ?_ GE244.out | refine bS ?_ GE245.out | refine bS ?_ GE246.out | refine bS ?_ GE252.out) | exact HB.out)); have n0_ := Aside0.mk (rB (Kd.R_elderB (rQ HO_108) gb277 (Nat.le_of_eq hg.symm)) hb); have n1_ := Aside0.mk (rB (rQ HO_253002) hb); have n2_ := Aside0.mk (rB (rQ HO_253003) hb); have n3_ := Aside0.mk (kB (kQ BK244) hb); have n4_ := Aside0.mk (kB (kQ BK245) hb); have n5_ := Aside0.mk (kB (kQ BK246) hb); have n6_ := Aside0.mk (kB (kQ BK252) hb); have n7_ := Aside0.mk (bP z_ hb); have n8_ := Aside0.mk (hbox); have n9_ := Aside0.mk ((by rw [hg]; exact (bZ z_) : w.heap.size ≤ gb277)); have n10_ := Aside0.mk ((by rw [hg]; exact (bZ z_) : w.heap.size ≤ gb277)); have n11_ := Aside0.mk ((by rw [hg]; exact Nat.ne_of_lt (kL (kQ BK244)) : gb244 ≠ gb277)); have n12_ := Aside0.mk ((by rw [hg]; exact Nat.ne_of_gt (kL (kQ BK244)) : gb277 ≠ gb244)); have n13_ := Aside0.mk ((by rw [hg]; exact Nat.ne_of_lt (kL (kQ BK245)) : gb245 ≠ gb277)); have n14_ := Aside0.mk ((by rw [hg]; exact Nat.ne_of_gt (kL (kQ BK245)) : gb277 ≠ gb245)); have n15_ := Aside0.mk ((by rw [hg]; exact Nat.ne_of_lt (kL (kQ BK246)) : gb246 ≠ gb277)); have n16_ := Aside0.mk ((by rw [hg]; exact Nat.ne_of_gt (kL (kQ BK246)) : gb277 ≠ gb246)); have n17_ := Aside0.mk ((by rw [hg]; exact Nat.ne_of_lt (kL (kQ BK252)) : gb252 ≠ gb277)); have n18_ := Aside0.mk ((by rw [hg]; exact Nat.ne_of_gt (kL (kQ BK252)) : gb277 ≠ gb252)); clear HO_108; clear HO_253002; clear HO_253003; clear BK244; clear BK245; clear BK246; clear BK252; clear HB; have HO_108 := n0_; have HO_253002 := n1_; have HO_253003 := n2_; have BK244 := n3_; have BK245 := n4_; have BK246 := n5_; have BK252 := n6_; have HB := n7_; have BK277 := n8_; have GW277 := n9_; have GE277 := n10_; have NB244_277 := n11_; have NB277_244 := n12_; have NB245_277 := n13_; have NB277_245 := n14_; have NB246_277 := n15_; have NB277_246 := n16_; have NB252_277 := n17_; have NB277_252 := n18_; clear z_ n0_ n1_ n2_ n3_ n4_ n5_ n6_ n7_ n8_ n9_ n10_ n11_ n12_ n13_ n14_ n15_ n16_ n17_ n18_; clear hb hbox hg; have hnb176 := NB277_244.out; have hnc176 := NB244_277.out; have hnb177 := NB277_245.out; have hnc177 := NB245_277.out; have hnb178 := NB277_246.out; have hnc178 := NB246_277.out; have hnb179 := NB277_252.out; have hnc179 := NB252_277.out; obtain ⟨hcz180_0, hcz180_1⟩ := cZ2 BK277.out; obtain ⟨hfz180_0, hfz180_1⟩ := fZ2 BK277.out; have hnb181 := NB244_245.out; have hnc181 := NB245_244.out; have hnb182 := NB244_246.out; have hnc182 := NB246_244.out; have hnb183 := NB244_252.out; have hnc183 := NB252_244.out; obtain ⟨hcz184_0, hcz184_1, hcz184_2, hcz184_3⟩ := cZ4 BK244.out; obtain ⟨hfz184_0, hfz184_1, hfz184_2, hfz184_3⟩ := fZ4 BK244.out) | ((with_reducible refine gC (f := 44) rfl ?_); refine goesL_ (some 118) rfl rfl Try.func44 (by kernel_rfl) rfl #[.agg #[.int .i64 a0_0, .int .i64 a0_1, .slice A0_2 l0_2.length c0_2, .slice A0_3 l0_3.length c0_3], .int .i64 ((rd_T73 x6_2 x110_3).f0)] rfl lQ ?_; (with_reducible refine (impl_Grammar_isFinal.calls k3 a0_0 a0_1 _ _ l0_2 _ _ l0_3 ((rd_T73 x6_2 x110_3).f0) true _ ?side1 ?side2 ?side3 ?side4 A170.out).mono ?_); (case side1 => exact cB HR0_2.out (by repeat (first | (with_reducible first | exact HB.out | apply bA | apply bN | apply bD | refine bS ?_ GE244.out | refine bS ?_ GE245.out | refine bS ?_ GE246.out | refine bS ?_ GE252.out | refine bS ?_ GE277.out) | exact HB.out))); (case side2 => exact HC0_2.out); (case side3 => exact cB HR0_3.out (by repeat (first | (with_reducible first | exact HB.out | apply bA | apply bN | apply bD | refine bS ?_ GE244.out | refine bS ?_ GE245.out | refine bS ?_ GE246.out | refine bS ?_ GE252.out | refine bS ?_ GE277.out) | exact HB.out))); (case side4 => exact HC0_3.out); rintro e w185 ⟨rfl, hb⟩; refine ⟨_, rfl, ?_⟩; have n0_ := Aside0.mk (rB (by (with_reducible repeat (first | apply rA | apply rN | apply rD)); exact (rM (Kd.R_far (p := ⟨gb277, 1, none⟩) (Kd.R_far (p := ⟨gb277, 0, none⟩) (rM HO_108.out (fun k_ hk => (⟨hk, hk.2⟩ : _ ∧ k_ ≠ gb277))) (fun _ hk => hk.2) (.int .i64 ((rd_T73 x6_2 x110_3).f0))) (fun _ hk => hk.2) (.int .i64 ((rd_T73 x6_2 x110_3).f1))) (fun _ h_ => h_.1))) hb); have n1_ := Aside0.mk (rB (by (with_reducible repeat (first | apply rA | apply rN | apply rD)); exact (rM (Kd.R_far (p := ⟨gb277, 1, none⟩) (Kd.R_far (p := ⟨gb277, 0, none⟩) (Kd.R_types HO_253002.out BK277.out (by decide)) (fun _ hk => hk.2) (.int .i64 ((rd_T73 x6_2 x110_3).f0))) (fun _ hk => hk.2) (.int .i64 ((rd_T73 x6_2 x110_3).f1))) (fun _ h_ => h_.1))) hb); have n2_ := Aside0.mk (rB (by (with_reducible repeat (first | apply rA | apply rN | apply rD)); exact (rM (Kd.R_far (p := ⟨gb277, 1, none⟩) (Kd.R_far (p := ⟨gb277, 0, none⟩) (Kd.R_types HO_253003.out BK277.out (by decide)) (fun _ hk => hk.2) (.int .i64 ((rd_T73 x6_2 x110_3).f0))) (fun _ hk => hk.2) (.int .i64 ((rd_T73 x6_2 x110_3).f1))) (fun _ h_ => h_.1))) hb); have n3_ := Aside0.mk (kB (g := gb244) (o := .cells #[.int .i64 a0_0, .int .i64 a0_1, .slice A0_2 l0_2.length c0_2, .slice A0_3 l0_3.length c0_3] 39 (0, 0)) (by (with_reducible repeat (first | refine kN ?_ _ | refine kD ?_ | refine kA ?_ _)); refine kF ?_ NB244_277.out _; (with_reducible repeat (first | refine kN ?_ _ | refine kD ?_ | refine kA ?_ _)); refine kF ?_ NB244_277.out _; (with_reducible repeat (first | refine kN ?_ _ | refine kD ?_ | refine kA ?_ _)); exact BK244.out) hb); have n4_ := Aside0.mk (kB (g := gb245) (o := .cells #[.int .i64 a1_0, .int .i64 a1_1, .slice A1_2 l1_2.length c1_2, .slice A1_3 l1_3.length c1_3] 39 (0, 0)) (by (with_reducible repeat (first | refine kN ?_ _ | refine kD ?_ | refine kA ?_ _)); refine kF ?_ NB245_277.out _; (with_reducible repeat (first | refine kN ?_ _ | refine kD ?_ | refine kA ?_ _)); refine kF ?_ NB245_277.out _; (with_reducible repeat (first | refine kN ?_ _ | refine kD ?_ | refine kA ?_ _)); exact BK245.out) hb); have n5_ := Aside0.mk (kB (g := gb246) (o := .cells #[.int .i64 x247000_2, .int .i64 x247001_2, .slice none 0 0, .slice none 0 0] 39 (0, 0)) (by (with_reducible repeat (first | refine kN ?_ _ | refine kD ?_ | refine kA ?_ _)); refine kF ?_ NB246_277.out _; (with_reducible repeat (first | refine kN ?_ _ | refine kD ?_ | refine kA ?_ _)); refine kF ?_ NB246_277.out _; (with_reducible repeat (first | refine kN ?_ _ | refine kD ?_ | refine kA ?_ _)); exact BK246.out) hb); have n6_ := Aside0.mk (kB (g := gb252) (o := .cells #[.int .i64 (x6_2.length : Int), .int .i64 0, u253002, u253003] 39 (0, 0)) (by (with_reducible repeat (first | refine kN ?_ _ | refine kD ?_ | refine kA ?_ _)); refine kF ?_ NB252_277.out _; (with_reducible repeat (first | refine kN ?_ _ | refine kD ?_ | refine kA ?_ _)); refine kF ?_ NB252_277.out _; (with_reducible repeat (first | refine kN ?_ _ | refine kD ?_ | refine kA ?_ _)); exact BK252.out) hb); have n7_ := Aside0.mk (kB (g := gb277) (o := .cells #[.int .i64 ((rd_T73 x6_2 x110_3).f0), .int .i64 ((rd_T73 x6_2 x110_3).f1)] 73 (0, 0)) (by (with_reducible repeat (first | refine kN ?_ _ | refine kD ?_ | refine kA ?_ _)); refine blk_put (cs := #[.int .i64 ((rd_T73 x6_2 x110_3).f0), .int .i64 0]) ?_ 1 _ rfl; (with_reducible repeat (first | refine kN ?_ _ | refine kD ?_ | refine kA ?_ _)); refine blk_put (cs := #[.int .i64 0, .int .i64 0]) ?_ 0 _ rfl; (with_reducible repeat (first | refine kN ?_ _ | refine kD ?_ | refine kA ?_ _)); exact BK277.out) hb); have n8_ := Aside0.mk (bP (by repeat (first | (with_reducible first | exact HB.out | apply bA | apply bN | apply bD | refine bS ?_ GE244.out | refine bS ?_ GE245.out | refine bS ?_ GE246.out | refine bS ?_ GE252.out | refine bS ?_ GE277.out) | exact HB.out)) hb); clear HO_108; clear HO_253002; clear HO_253003; clear BK244; clear BK245; clear BK246; clear BK252; clear BK277; clear HB; have HO_108 := n0_; have HO_253002 := n1_; have HO_253003 := n2_; have BK244 := n3_; have BK245 := n4_; have BK246 := n5_; have BK252 := n6_; have BK277 := n7_; have HB := n8_; clear n0_ n1_ n2_ n3_ n4_ n5_ n6_ n7_ n8_; (try clear hb); (try clear hb2); (try clear hk); (try clear hi); have hnb186 := NB245_246.out; have hnc186 := NB246_245.out; have hnb187 := NB245_252.out; have hnc187 := NB252_245.out; obtain ⟨hcz188_0, hcz188_1, hcz188_2, hcz188_3⟩ := cZ4 BK245.out; obtain ⟨hfz188_0, hfz188_1, hfz188_2, hfz188_3⟩ := fZ4 BK245.out; have hcz189_0 : w185.cell? ⟨gb277, 0, none⟩ = some (.int .i64 ((rd_T73 x6_2 x110_3).f0)) := (kC BK277.out 0).trans rfl; have hcz189_1 : w185.cell? ⟨gb277, 1, none⟩ = some (.int .i64 ((rd_T73 x6_2 x110_3).f1)) := (kC BK277.out 1).trans rfl; obtain ⟨hfz189_0, hfz189_1⟩ := fZ2 BK277.out) | (go_at_call 44; (with_reducible refine (impl_Grammar_isFinal.calls k3 a1_0 a1_1 _ _ l1_2 _ _ l1_3 ((rd_T73 x6_2 x110_3).f1) true _ ?side1 ?side2 ?side3 ?side4 A172.out).mono ?_); (case side1 => exact cP (cB HR1_2.out HB.out)); (case side2 => exact HC1_2.out); (case side3 => exact cP (cB HR1_3.out HB.out)); (case side4 => exact HC1_3.out); rintro e w190 ⟨rfl, hb⟩; have n0_ := Aside0.mk (rB (rQ HO_108) hb); have n1_ := Aside0.mk (rB (rQ HO_253002) hb); have n2_ := Aside0.mk (rB (rQ HO_253003) hb); have n3_ := Aside0.mk (kB (kQ BK244) hb); have n4_ := Aside0.mk (kB (kQ BK245) hb); have n5_ := Aside0.mk (kB (kQ BK246) hb); have n6_ := Aside0.mk (kB (kQ BK252) hb); have n7_ := Aside0.mk (kB (kQ BK277) hb); have n8_ := Aside0.mk (bP (by repeat (first | (with_reducible first | exact HB.out | apply bA | apply bN | apply bD | refine bS ?_ GE244.out | refine bS ?_ GE245.out | refine bS ?_ GE246.out | refine bS ?_ GE252.out | refine bS ?_ GE277.out) | exact HB.out)) hb); clear HO_108; clear HO_253002; clear HO_253003; clear BK244; clear BK245; clear BK246; clear BK252; clear BK277; clear HB; have HO_108 := n0_; have HO_253002 := n1_; have HO_253003 := n2_; have BK244 := n3_; have BK245 := n4_; have BK246 := n5_; have BK252 := n6_; have BK277 := n7_; have HB := n8_; clear n0_ n1_ n2_ n3_ n4_ n5_ n6_ n7_ n8_; (try clear hb); (try clear hb2); (try clear hk); (try clear hi); have hnb191 := NB252_246.out; have hnc191 := NB246_252.out; obtain ⟨hcz192_0, hcz192_1, hcz192_2, hcz192_3⟩ := cZ4 BK252.out; obtain ⟨hfz192_0, hfz192_1, hfz192_2, hfz192_3⟩ := fZ4 BK252.out) | ((with_reducible refine gate_builtin (b := .append) (xs := #[.tmp 126, .tmp 128]) rfl ?_); (try (refine gate_guard (by rfl) ?_; dsimp only)); at_builtin; refine Kd.R_append (Kd.int .i64) (w0 := w) w.heap.size rfl (.tmp 126) (.tmp 128) 22 2 (.int .i64 0) 8 rfl Try.underlying22 info2 rfl (by decide) (by omega) u253002 x253002_3 x110_3 [.int .i64 x110_3] (fun _ => True) (fun _ => False) rfl rfl ?aP (fun _ hk => hk.elim) ?aF ?aO ?aB ?aS ?aL ?_; (case aP => exact rfl); (case aB => exact (by repeat (first | (with_reducible first | exact HB.out | apply bA | apply bN | apply bD | refine bS ?_ GE244.out | refine bS ?_ GE245.out | refine bS ?_ GE246.out | refine bS ?_ GE252.out | refine bS ?_ GE277.out) | exact HB.out))); (case aF => exact (fun _ _ => trivial)); (case aO => exact (rQ HO_253002)); (case aS => exact (bZ (by repeat (first | (with_reducible first | exact HB.out | apply bA | apply bN | apply bD | refine bS ?_ GE244.out | refine bS ?_ GE245.out | refine bS ?_ GE246.out | refine bS ?_ GE252.out | refine bS ?_ GE277.out) | exact HB.out)))); (case aL => have := LMc174.out; omega); intro v281 w193 ho hb hg hat; rw [← Ny280.out] at ho; have n0_ := Aside0.mk (Kd.R_over' (rQ HO_108) (Kd.R_typed (rQ HO_253002)) (by decide) hg); have n1_ := Aside0.mk (Kd.R_over' (rQ HO_253003) (Kd.R_typed (rQ HO_253002)) (by decide) hg); have n2_ := Aside0.mk (blk_grown (kQ BK244) hg (Kd.R_ne HO_253002.out BK244.out (by decide))); have n3_ := Aside0.mk (blk_grown (kQ BK245) hg (Kd.R_ne HO_253002.out BK245.out (by decide))); have n4_ := Aside0.mk (blk_grown (kQ BK246) hg (Kd.R_ne HO_253002.out BK246.out (by decide))); have n5_ := Aside0.mk (blk_grown (kQ BK252) hg (Kd.R_ne HO_253002.out BK252.out (by decide))); have n6_ := Aside0.mk (blk_grown (kQ BK277) hg (Kd.R_ne HO_253002.out BK277.out (by decide))); have n7_ := Aside0.mk (hb); have n8_ := Aside0.mk (ho); clear HO_108; clear HO_253003; clear BK244; clear BK245; clear BK246; clear BK252; clear BK277; clear HB; clear HO_253002; have HO_108 := n0_; have HO_253003 := n1_; have BK244 := n2_; have BK245 := n3_; have BK246 := n4_; have BK252 := n5_; have BK277 := n6_; have HB := n7_; have HO282 := n8_; clear n0_ n1_ n2_ n3_ n4_ n5_ n6_ n7_ n8_; clear ho hb hg hat; obtain ⟨Ao194, co194, eo194⟩ := Kd.R_slice HO282.out; subst eo194; obtain ⟨hcz195_0, hcz195_1, hcz195_2, hcz195_3⟩ := cZ4 BK252.out; obtain ⟨hfz195_0, hfz195_1, hfz195_2, hfz195_3⟩ := fZ4 BK252.out))
               go_roundg k3
               case measure => have := HJ2.out; have := HK2.out; have := HK3.out; omega
               case rel => exact ⟨(wrap64 (x110_3 + 1)), (y280), (.slice Ao194 y280.length co194), eT, H', ⟨by have := HJ2.out; have := HK2.out; have := HK3.out; omega⟩, ⟨by (with_reducible repeat (first | apply rA | apply rN | apply rD)); exact rM (Kd.R_far (p := ⟨gb252, 2, none⟩) (Kd.R_types HO_108.out BK252.out (by decide)) (fun _ hk => hk.2) (.slice Ao194 y280.length co194)) (fun _ hk => trivial)⟩, ⟨by (with_reducible repeat (first | apply rA | apply rN | apply rD)); exact rM (Kd.R_far (p := ⟨gb252, 2, none⟩) (Kd.R_types HO282.out BK252.out (by decide)) (fun _ hk => hk.2) (.slice Ao194 y280.length co194)) (fun _ hk => trivial)⟩, ⟨by (with_reducible repeat (first | apply rA | apply rN | apply rD)); exact rM (Kd.R_far (p := ⟨gb252, 2, none⟩) (Kd.R_types HO_253003.out BK252.out (by decide)) (fun _ hk => hk.2) (.slice Ao194 y280.length co194)) (fun _ hk => trivial)⟩, ⟨by (with_reducible repeat (first | refine kN ?_ _ | refine kD ?_ | refine kA ?_ _)); refine kF ?_ NB244_252.out _; (with_reducible repeat (first | refine kN ?_ _ | refine kD ?_ | refine kA ?_ _)); exact BK244.out⟩, ⟨by (with_reducible repeat (first | refine kN ?_ _ | refine kD ?_ | refine kA ?_ _)); refine kF ?_ NB245_252.out _; (with_reducible repeat (first | refine kN ?_ _ | refine kD ?_ | refine kA ?_ _)); exact BK245.out⟩, ⟨by (with_reducible repeat (first | refine kN ?_ _ | refine kD ?_ | refine kA ?_ _)); refine kF ?_ NB246_252.out _; (with_reducible repeat (first | refine kN ?_ _ | refine kD ?_ | refine kA ?_ _)); exact BK246.out⟩, ⟨by (with_reducible repeat (first | refine kN ?_ _ | refine kD ?_ | refine kA ?_ _)); refine blk_put (cs := #[.int .i64 (x6_2.length : Int), .int .i64 0, u253002, u253003]) ?_ 2 _ rfl; (with_reducible repeat (first | refine kN ?_ _ | refine kD ?_ | refine kA ?_ _)); exact BK252.out⟩, ⟨by repeat (first | (with_reducible first | exact HB.out | apply bA | apply bN | apply bD | refine bS ?_ GE244.out | refine bS ?_ GE245.out | refine bS ?_ GE246.out | refine bS ?_ GE252.out | refine bS ?_ GE277.out) | exact HB.out)⟩⟩
              ·rw [if_neg c174] at H
               exact absurd H (by simp)
             ·replace c173 := Bool.eq_false_iff.mpr c173
              subst c173
              have H1 : (impl_MeetGrammars.l3 k3 x6_2 (x6_2.length : Int) (wrap64 (x110_3 + 1)) a0_0 a0_1 l0_2 l0_3 a1_0 a1_1 l1_2 l1_3 (x6_2.length : Int) 0 x253002_3 x253003_2) = some (r1, r2, r3, r4, r5) := by rw [if_neg (show ¬ (false = true) by decide)] at H; exact H
              clear H
              have H := H1
              clear H1
              have H' := Aside0.mk H
              clear H
              have p276 : 0 ≤ (x110_3 : Int) := oT
              have q276 : x110_3 < (x6_2.length : Int) := oT
              obtain ⟨ad276, e276, hx276_0, hx276_1⟩ := at_T73 (Kd.R_reads' HO_108.out).2.2 x110_3 p276 q276
              cases e276
              replace p276 := eq_true p276
              replace q276 := eq_true q276
              go_wp2_with (first | ((with_reducible refine gate_dst (N := 16) rfl ?_); (try (refine gate_guard (by rfl) ?_; dsimp only)); refine bE ?hg (N := 16) ?hd (cs := #[.int .i64 0, .int .i64 0]) (t := 73) ?hr ?_; (case hd => rfl); (case hg => rfl); (case hr => first | (go_simp; done) | (go_simp; rfl)); intro gb277 hg w196 hbox hb; have z_ := bX hb (by repeat (first | (with_reducible first | exact HB.out | apply bA | apply bN | apply bD | refine bS ?_ GE244.out | refine bS ?_ GE245.out | refine bS ?_ GE246.out | refine bS ?_ GE252.out) | exact HB.out)); have n0_ := Aside0.mk (rB (Kd.R_elderB (rQ HO_108) gb277 (Nat.le_of_eq hg.symm)) hb); have n1_ := Aside0.mk (rB (rQ HO_253002) hb); have n2_ := Aside0.mk (rB (rQ HO_253003) hb); have n3_ := Aside0.mk (kB (kQ BK244) hb); have n4_ := Aside0.mk (kB (kQ BK245) hb); have n5_ := Aside0.mk (kB (kQ BK246) hb); have n6_ := Aside0.mk (kB (kQ BK252) hb); have n7_ := Aside0.mk (bP z_ hb); have n8_ := Aside0.mk (hbox); have n9_ := Aside0.mk ((by rw [hg]; exact (bZ z_) : w.heap.size ≤ gb277)); have n10_ := Aside0.mk ((by rw [hg]; exact (bZ z_) : w.heap.size ≤ gb277)); have n11_ := Aside0.mk ((by rw [hg]; exact Nat.ne_of_lt (kL (kQ BK244)) : gb244 ≠ gb277)); have n12_ := Aside0.mk ((by rw [hg]; exact Nat.ne_of_gt (kL (kQ BK244)) : gb277 ≠ gb244)); have n13_ := Aside0.mk ((by rw [hg]; exact Nat.ne_of_lt (kL (kQ BK245)) : gb245 ≠ gb277)); have n14_ := Aside0.mk ((by rw [hg]; exact Nat.ne_of_gt (kL (kQ BK245)) : gb277 ≠ gb245)); have n15_ := Aside0.mk ((by rw [hg]; exact Nat.ne_of_lt (kL (kQ BK246)) : gb246 ≠ gb277)); have n16_ := Aside0.mk ((by rw [hg]; exact Nat.ne_of_gt (kL (kQ BK246)) : gb277 ≠ gb246)); have n17_ := Aside0.mk ((by rw [hg]; exact Nat.ne_of_lt (kL (kQ BK252)) : gb252 ≠ gb277)); have n18_ := Aside0.mk ((by rw [hg]; exact Nat.ne_of_gt (kL (kQ BK252)) : gb277 ≠ gb252)); clear HO_108; clear HO_253002; clear HO_253003; clear BK244; clear BK245; clear BK246; clear BK252; clear HB; have HO_108 := n0_; have HO_253002 := n1_; have HO_253003 := n2_; have BK244 := n3_; have BK245 := n4_; have BK246 := n5_; have BK252 := n6_; have HB := n7_; have BK277 := n8_; have GW277 := n9_; have GE277 := n10_; have NB244_277 := n11_; have NB277_244 := n12_; have NB245_277 := n13_; have NB277_245 := n14_; have NB246_277 := n15_; have NB277_246 := n16_; have NB252_277 := n17_; have NB277_252 := n18_; clear z_ n0_ n1_ n2_ n3_ n4_ n5_ n6_ n7_ n8_ n9_ n10_ n11_ n12_ n13_ n14_ n15_ n16_ n17_ n18_; clear hb hbox hg; have hnb197 := NB277_244.out; have hnc197 := NB244_277.out; have hnb198 := NB277_245.out; have hnc198 := NB245_277.out; have hnb199 := NB277_246.out; have hnc199 := NB246_277.out; have hnb200 := NB277_252.out; have hnc200 := NB252_277.out; obtain ⟨hcz201_0, hcz201_1⟩ := cZ2 BK277.out; obtain ⟨hfz201_0, hfz201_1⟩ := fZ2 BK277.out; have hnb202 := NB244_245.out; have hnc202 := NB245_244.out; have hnb203 := NB244_246.out; have hnc203 := NB246_244.out; have hnb204 := NB244_252.out; have hnc204 := NB252_244.out; obtain ⟨hcz205_0, hcz205_1, hcz205_2, hcz205_3⟩ := cZ4 BK244.out; obtain ⟨hfz205_0, hfz205_1, hfz205_2, hfz205_3⟩ := fZ4 BK244.out) | ((with_reducible refine gC (f := 44) rfl ?_); refine goesL_ (some 118) rfl rfl Try.func44 (by kernel_rfl) rfl #[.agg #[.int .i64 a0_0, .int .i64 a0_1, .slice A0_2 l0_2.length c0_2, .slice A0_3 l0_3.length c0_3], .int .i64 ((rd_T73 x6_2 x110_3).f0)] rfl lQ ?_; (with_reducible refine (impl_Grammar_isFinal.calls k3 a0_0 a0_1 _ _ l0_2 _ _ l0_3 ((rd_T73 x6_2 x110_3).f0) true _ ?side1 ?side2 ?side3 ?side4 A170.out).mono ?_); (case side1 => exact cB HR0_2.out (by repeat (first | (with_reducible first | exact HB.out | apply bA | apply bN | apply bD | refine bS ?_ GE244.out | refine bS ?_ GE245.out | refine bS ?_ GE246.out | refine bS ?_ GE252.out | refine bS ?_ GE277.out) | exact HB.out))); (case side2 => exact HC0_2.out); (case side3 => exact cB HR0_3.out (by repeat (first | (with_reducible first | exact HB.out | apply bA | apply bN | apply bD | refine bS ?_ GE244.out | refine bS ?_ GE245.out | refine bS ?_ GE246.out | refine bS ?_ GE252.out | refine bS ?_ GE277.out) | exact HB.out))); (case side4 => exact HC0_3.out); rintro e w206 ⟨rfl, hb⟩; refine ⟨_, rfl, ?_⟩; have n0_ := Aside0.mk (rB (by (with_reducible repeat (first | apply rA | apply rN | apply rD)); exact (rM (Kd.R_far (p := ⟨gb277, 1, none⟩) (Kd.R_far (p := ⟨gb277, 0, none⟩) (rM HO_108.out (fun k_ hk => (⟨hk, hk.2⟩ : _ ∧ k_ ≠ gb277))) (fun _ hk => hk.2) (.int .i64 ((rd_T73 x6_2 x110_3).f0))) (fun _ hk => hk.2) (.int .i64 ((rd_T73 x6_2 x110_3).f1))) (fun _ h_ => h_.1))) hb); have n1_ := Aside0.mk (rB (by (with_reducible repeat (first | apply rA | apply rN | apply rD)); exact (rM (Kd.R_far (p := ⟨gb277, 1, none⟩) (Kd.R_far (p := ⟨gb277, 0, none⟩) (Kd.R_types HO_253002.out BK277.out (by decide)) (fun _ hk => hk.2) (.int .i64 ((rd_T73 x6_2 x110_3).f0))) (fun _ hk => hk.2) (.int .i64 ((rd_T73 x6_2 x110_3).f1))) (fun _ h_ => h_.1))) hb); have n2_ := Aside0.mk (rB (by (with_reducible repeat (first | apply rA | apply rN | apply rD)); exact (rM (Kd.R_far (p := ⟨gb277, 1, none⟩) (Kd.R_far (p := ⟨gb277, 0, none⟩) (Kd.R_types HO_253003.out BK277.out (by decide)) (fun _ hk => hk.2) (.int .i64 ((rd_T73 x6_2 x110_3).f0))) (fun _ hk => hk.2) (.int .i64 ((rd_T73 x6_2 x110_3).f1))) (fun _ h_ => h_.1))) hb); have n3_ := Aside0.mk (kB (g := gb244) (o := .cells #[.int .i64 a0_0, .int .i64 a0_1, .slice A0_2 l0_2.length c0_2, .slice A0_3 l0_3.length c0_3] 39 (0, 0)) (by (with_reducible repeat (first | refine kN ?_ _ | refine kD ?_ | refine kA ?_ _)); refine kF ?_ NB244_277.out _; (with_reducible repeat (first | refine kN ?_ _ | refine kD ?_ | refine kA ?_ _)); refine kF ?_ NB244_277.out _; (with_reducible repeat (first | refine kN ?_ _ | refine kD ?_ | refine kA ?_ _)); exact BK244.out) hb); have n4_ := Aside0.mk (kB (g := gb245) (o := .cells #[.int .i64 a1_0, .int .i64 a1_1, .slice A1_2 l1_2.length c1_2, .slice A1_3 l1_3.length c1_3] 39 (0, 0)) (by (with_reducible repeat (first | refine kN ?_ _ | refine kD ?_ | refine kA ?_ _)); refine kF ?_ NB245_277.out _; (with_reducible repeat (first | refine kN ?_ _ | refine kD ?_ | refine kA ?_ _)); refine kF ?_ NB245_277.out _; (with_reducible repeat (first | refine kN ?_ _ | refine kD ?_ | refine kA ?_ _)); exact BK245.out) hb); have n5_ := Aside0.mk (kB (g := gb246) (o := .cells #[.int .i64 x247000_2, .int .i64 x247001_2, .slice none 0 0, .slice none 0 0] 39 (0, 0)) (by (with_reducible repeat (first | refine kN ?_ _ | refine kD ?_ | refine kA ?_ _)); refine kF ?_ NB246_277.out _; (with_reducible repeat (first | refine kN ?_ _ | refine kD ?_ | refine kA ?_ _)); refine kF ?_ NB246_277.out _; (with_reducible repeat (first | refine kN ?_ _ | refine kD ?_ | refine kA ?_ _)); exact BK246.out) hb); have n6_ := Aside0.mk (kB (g := gb252) (o := .cells #[.int .i64 (x6_2.length : Int), .int .i64 0, u253002, u253003] 39 (0, 0)) (by (with_reducible repeat (first | refine kN ?_ _ | refine kD ?_ | refine kA ?_ _)); refine kF ?_ NB252_277.out _; (with_reducible repeat (first | refine kN ?_ _ | refine kD ?_ | refine kA ?_ _)); refine kF ?_ NB252_277.out _; (with_reducible repeat (first | refine kN ?_ _ | refine kD ?_ | refine kA ?_ _)); exact BK252.out) hb); have n7_ := Aside0.mk (kB (g := gb277) (o := .cells #[.int .i64 ((rd_T73 x6_2 x110_3).f0), .int .i64 ((rd_T73 x6_2 x110_3).f1)] 73 (0, 0)) (by (with_reducible repeat (first | refine kN ?_ _ | refine kD ?_ | refine kA ?_ _)); refine blk_put (cs := #[.int .i64 ((rd_T73 x6_2 x110_3).f0), .int .i64 0]) ?_ 1 _ rfl; (with_reducible repeat (first | refine kN ?_ _ | refine kD ?_ | refine kA ?_ _)); refine blk_put (cs := #[.int .i64 0, .int .i64 0]) ?_ 0 _ rfl; (with_reducible repeat (first | refine kN ?_ _ | refine kD ?_ | refine kA ?_ _)); exact BK277.out) hb); have n8_ := Aside0.mk (bP (by repeat (first | (with_reducible first | exact HB.out | apply bA | apply bN | apply bD | refine bS ?_ GE244.out | refine bS ?_ GE245.out | refine bS ?_ GE246.out | refine bS ?_ GE252.out | refine bS ?_ GE277.out) | exact HB.out)) hb); clear HO_108; clear HO_253002; clear HO_253003; clear BK244; clear BK245; clear BK246; clear BK252; clear BK277; clear HB; have HO_108 := n0_; have HO_253002 := n1_; have HO_253003 := n2_; have BK244 := n3_; have BK245 := n4_; have BK246 := n5_; have BK252 := n6_; have BK277 := n7_; have HB := n8_; clear n0_ n1_ n2_ n3_ n4_ n5_ n6_ n7_ n8_; (try clear hb); (try clear hb2); (try clear hk); (try clear hi); have hnb207 := NB245_246.out; have hnc207 := NB246_245.out; have hnb208 := NB245_252.out; have hnc208 := NB252_245.out; obtain ⟨hcz209_0, hcz209_1, hcz209_2, hcz209_3⟩ := cZ4 BK245.out; obtain ⟨hfz209_0, hfz209_1, hfz209_2, hfz209_3⟩ := fZ4 BK245.out; have hcz210_0 : w206.cell? ⟨gb277, 0, none⟩ = some (.int .i64 ((rd_T73 x6_2 x110_3).f0)) := (kC BK277.out 0).trans rfl; have hcz210_1 : w206.cell? ⟨gb277, 1, none⟩ = some (.int .i64 ((rd_T73 x6_2 x110_3).f1)) := (kC BK277.out 1).trans rfl; obtain ⟨hfz210_0, hfz210_1⟩ := fZ2 BK277.out) | (go_at_call 44; (with_reducible refine (impl_Grammar_isFinal.calls k3 a1_0 a1_1 _ _ l1_2 _ _ l1_3 ((rd_T73 x6_2 x110_3).f1) false _ ?side1 ?side2 ?side3 ?side4 A172.out).mono ?_); (case side1 => exact cP (cB HR1_2.out HB.out)); (case side2 => exact HC1_2.out); (case side3 => exact cP (cB HR1_3.out HB.out)); (case side4 => exact HC1_3.out); rintro e w211 ⟨rfl, hb⟩; have n0_ := Aside0.mk (rB (rQ HO_108) hb); have n1_ := Aside0.mk (rB (rQ HO_253002) hb); have n2_ := Aside0.mk (rB (rQ HO_253003) hb); have n3_ := Aside0.mk (kB (kQ BK244) hb); have n4_ := Aside0.mk (kB (kQ BK245) hb); have n5_ := Aside0.mk (kB (kQ BK246) hb); have n6_ := Aside0.mk (kB (kQ BK252) hb); have n7_ := Aside0.mk (kB (kQ BK277) hb); have n8_ := Aside0.mk (bP (by repeat (first | (with_reducible first | exact HB.out | apply bA | apply bN | apply bD | refine bS ?_ GE244.out | refine bS ?_ GE245.out | refine bS ?_ GE246.out | refine bS ?_ GE252.out | refine bS ?_ GE277.out) | exact HB.out)) hb); clear HO_108; clear HO_253002; clear HO_253003; clear BK244; clear BK245; clear BK246; clear BK252; clear BK277; clear HB; have HO_108 := n0_; have HO_253002 := n1_; have HO_253003 := n2_; have BK244 := n3_; have BK245 := n4_; have BK246 := n5_; have BK252 := n6_; have BK277 := n7_; have HB := n8_; clear n0_ n1_ n2_ n3_ n4_ n5_ n6_ n7_ n8_; (try clear hb); (try clear hb2); (try clear hk); (try clear hi)))
              go_roundg k3
              case measure => have := HJ2.out; have := HK2.out; have := HK3.out; omega
              case rel => exact ⟨(wrap64 (x110_3 + 1)), (x253002_3), (u253002), eT, H', ⟨by have := HJ2.out; have := HK2.out; have := HK3.out; omega⟩, ⟨by (with_reducible repeat (first | apply rA | apply rN | apply rD)); exact rM HO_108.out (fun _ hk => trivial)⟩, ⟨rQ HO_253002⟩, ⟨rQ HO_253003⟩, ⟨kQ BK244⟩, ⟨kQ BK245⟩, ⟨kQ BK246⟩, ⟨kQ BK252⟩, ⟨by repeat (first | (with_reducible first | exact HB.out | apply bA | apply bN | apply bD | refine bS ?_ GE244.out | refine bS ?_ GE245.out | refine bS ?_ GE246.out | refine bS ?_ GE252.out | refine bS ?_ GE277.out) | exact HB.out)⟩⟩
            ·replace c171 := Bool.eq_false_iff.mpr c171
             subst c171
             have H1 : (impl_MeetGrammars.l3 k3 x6_2 (x6_2.length : Int) (wrap64 (x110_3 + 1)) a0_0 a0_1 l0_2 l0_3 a1_0 a1_1 l1_2 l1_3 (x6_2.length : Int) 0 x253002_3 x253003_2) = some (r1, r2, r3, r4, r5) := by rw [if_neg (show ¬ (false = true) by decide)] at H; exact H
             clear H
             have H := H1
             clear H1
             have H' := Aside0.mk H
             clear H
             have p276 : 0 ≤ (x110_3 : Int) := oT
             have q276 : x110_3 < (x6_2.length : Int) := oT
             obtain ⟨ad276, e276, hx276_0, hx276_1⟩ := at_T73 (Kd.R_reads' HO_108.out).2.2 x110_3 p276 q276
             cases e276
             replace p276 := eq_true p276
             replace q276 := eq_true q276
             go_wp2_with (first | ((with_reducible refine gate_dst (N := 16) rfl ?_); (try (refine gate_guard (by rfl) ?_; dsimp only)); refine bE ?hg (N := 16) ?hd (cs := #[.int .i64 0, .int .i64 0]) (t := 73) ?hr ?_; (case hd => rfl); (case hg => rfl); (case hr => first | (go_simp; done) | (go_simp; rfl)); intro gb277 hg w212 hbox hb; have z_ := bX hb (by repeat (first | (with_reducible first | exact HB.out | apply bA | apply bN | apply bD | refine bS ?_ GE244.out | refine bS ?_ GE245.out | refine bS ?_ GE246.out | refine bS ?_ GE252.out) | exact HB.out)); have n0_ := Aside0.mk (rB (Kd.R_elderB (rQ HO_108) gb277 (Nat.le_of_eq hg.symm)) hb); have n1_ := Aside0.mk (rB (rQ HO_253002) hb); have n2_ := Aside0.mk (rB (rQ HO_253003) hb); have n3_ := Aside0.mk (kB (kQ BK244) hb); have n4_ := Aside0.mk (kB (kQ BK245) hb); have n5_ := Aside0.mk (kB (kQ BK246) hb); have n6_ := Aside0.mk (kB (kQ BK252) hb); have n7_ := Aside0.mk (bP z_ hb); have n8_ := Aside0.mk (hbox); have n9_ := Aside0.mk ((by rw [hg]; exact (bZ z_) : w.heap.size ≤ gb277)); have n10_ := Aside0.mk ((by rw [hg]; exact (bZ z_) : w.heap.size ≤ gb277)); have n11_ := Aside0.mk ((by rw [hg]; exact Nat.ne_of_lt (kL (kQ BK244)) : gb244 ≠ gb277)); have n12_ := Aside0.mk ((by rw [hg]; exact Nat.ne_of_gt (kL (kQ BK244)) : gb277 ≠ gb244)); have n13_ := Aside0.mk ((by rw [hg]; exact Nat.ne_of_lt (kL (kQ BK245)) : gb245 ≠ gb277)); have n14_ := Aside0.mk ((by rw [hg]; exact Nat.ne_of_gt (kL (kQ BK245)) : gb277 ≠ gb245)); have n15_ := Aside0.mk ((by rw [hg]; exact Nat.ne_of_lt (kL (kQ BK246)) : gb246 ≠ gb277)); have n16_ := Aside0.mk ((by rw [hg]; exact Nat.ne_of_gt (kL (kQ BK246)) : gb277 ≠ gb246)); have n17_ := Aside0.mk ((by rw [hg]; exact Nat.ne_of_lt (kL (kQ BK252)) : gb252 ≠ gb277)); have n18_ := Aside0.mk ((by rw [hg]; exact Nat.ne_of_gt (kL (kQ BK252)) : gb277 ≠ gb252)); clear HO_108; clear HO_253002; clear HO_253003; clear BK244; clear BK245; clear BK246; clear BK252; clear HB; have HO_108 := n0_; have HO_253002 := n1_; have HO_253003 := n2_; have BK244 := n3_; have BK245 := n4_; have BK246 := n5_; have BK252 := n6_; have HB := n7_; have BK277 := n8_; have GW277 := n9_; have GE277 := n10_; have NB244_277 := n11_; have NB277_244 := n12_; have NB245_277 := n13_; have NB277_245 := n14_; have NB246_277 := n15_; have NB277_246 := n16_; have NB252_277 := n17_; have NB277_252 := n18_; clear z_ n0_ n1_ n2_ n3_ n4_ n5_ n6_ n7_ n8_ n9_ n10_ n11_ n12_ n13_ n14_ n15_ n16_ n17_ n18_; clear hb hbox hg; have hnb213 := NB277_244.out; have hnc213 := NB244_277.out; have hnb214 := NB277_245.out; have hnc214 := NB245_277.out; have hnb215 := NB277_246.out; have hnc215 := NB246_277.out; have hnb216 := NB277_252.out; have hnc216 := NB252_277.out; obtain ⟨hcz217_0, hcz217_1⟩ := cZ2 BK277.out; obtain ⟨hfz217_0, hfz217_1⟩ := fZ2 BK277.out; have hnb218 := NB244_245.out; have hnc218 := NB245_244.out; have hnb219 := NB244_246.out; have hnc219 := NB246_244.out; have hnb220 := NB244_252.out; have hnc220 := NB252_244.out; obtain ⟨hcz221_0, hcz221_1, hcz221_2, hcz221_3⟩ := cZ4 BK244.out; obtain ⟨hfz221_0, hfz221_1, hfz221_2, hfz221_3⟩ := fZ4 BK244.out) | ((with_reducible refine gC (f := 44) rfl ?_); refine goesL_ (some 118) rfl rfl Try.func44 (by kernel_rfl) rfl #[.agg #[.int .i64 a0_0, .int .i64 a0_1, .slice A0_2 l0_2.length c0_2, .slice A0_3 l0_3.length c0_3], .int .i64 ((rd_T73 x6_2 x110_3).f0)] rfl lQ ?_; (with_reducible refine (impl_Grammar_isFinal.calls k3 a0_0 a0_1 _ _ l0_2 _ _ l0_3 ((rd_T73 x6_2 x110_3).f0) false _ ?side1 ?side2 ?side3 ?side4 A170.out).mono ?_); (case side1 => exact cB HR0_2.out (by repeat (first | (with_reducible first | exact HB.out | apply bA | apply bN | apply bD | refine bS ?_ GE244.out | refine bS ?_ GE245.out | refine bS ?_ GE246.out | refine bS ?_ GE252.out | refine bS ?_ GE277.out) | exact HB.out))); (case side2 => exact HC0_2.out); (case side3 => exact cB HR0_3.out (by repeat (first | (with_reducible first | exact HB.out | apply bA | apply bN | apply bD | refine bS ?_ GE244.out | refine bS ?_ GE245.out | refine bS ?_ GE246.out | refine bS ?_ GE252.out | refine bS ?_ GE277.out) | exact HB.out))); (case side4 => exact HC0_3.out); rintro e w222 ⟨rfl, hb⟩; refine ⟨_, rfl, ?_⟩; have n0_ := Aside0.mk (rB (by (with_reducible repeat (first | apply rA | apply rN | apply rD)); exact (rM (Kd.R_far (p := ⟨gb277, 1, none⟩) (Kd.R_far (p := ⟨gb277, 0, none⟩) (rM HO_108.out (fun k_ hk => (⟨hk, hk.2⟩ : _ ∧ k_ ≠ gb277))) (fun _ hk => hk.2) (.int .i64 ((rd_T73 x6_2 x110_3).f0))) (fun _ hk => hk.2) (.int .i64 ((rd_T73 x6_2 x110_3).f1))) (fun _ h_ => h_.1))) hb); have n1_ := Aside0.mk (rB (by (with_reducible repeat (first | apply rA | apply rN | apply rD)); exact (rM (Kd.R_far (p := ⟨gb277, 1, none⟩) (Kd.R_far (p := ⟨gb277, 0, none⟩) (Kd.R_types HO_253002.out BK277.out (by decide)) (fun _ hk => hk.2) (.int .i64 ((rd_T73 x6_2 x110_3).f0))) (fun _ hk => hk.2) (.int .i64 ((rd_T73 x6_2 x110_3).f1))) (fun _ h_ => h_.1))) hb); have n2_ := Aside0.mk (rB (by (with_reducible repeat (first | apply rA | apply rN | apply rD)); exact (rM (Kd.R_far (p := ⟨gb277, 1, none⟩) (Kd.R_far (p := ⟨gb277, 0, none⟩) (Kd.R_types HO_253003.out BK277.out (by decide)) (fun _ hk => hk.2) (.int .i64 ((rd_T73 x6_2 x110_3).f0))) (fun _ hk => hk.2) (.int .i64 ((rd_T73 x6_2 x110_3).f1))) (fun _ h_ => h_.1))) hb); have n3_ := Aside0.mk (kB (g := gb244) (o := .cells #[.int .i64 a0_0, .int .i64 a0_1, .slice A0_2 l0_2.length c0_2, .slice A0_3 l0_3.length c0_3] 39 (0, 0)) (by (with_reducible repeat (first | refine kN ?_ _ | refine kD ?_ | refine kA ?_ _)); refine kF ?_ NB244_277.out _; (with_reducible repeat (first | refine kN ?_ _ | refine kD ?_ | refine kA ?_ _)); refine kF ?_ NB244_277.out _; (with_reducible repeat (first | refine kN ?_ _ | refine kD ?_ | refine kA ?_ _)); exact BK244.out) hb); have n4_ := Aside0.mk (kB (g := gb245) (o := .cells #[.int .i64 a1_0, .int .i64 a1_1, .slice A1_2 l1_2.length c1_2, .slice A1_3 l1_3.length c1_3] 39 (0, 0)) (by (with_reducible repeat (first | refine kN ?_ _ | refine kD ?_ | refine kA ?_ _)); refine kF ?_ NB245_277.out _; (with_reducible repeat (first | refine kN ?_ _ | refine kD ?_ | refine kA ?_ _)); refine kF ?_ NB245_277.out _; (with_reducible repeat (first | refine kN ?_ _ | refine kD ?_ | refine kA ?_ _)); exact BK245.out) hb); have n5_ := Aside0.mk (kB (g := gb246) (o := .cells #[.int .i64 x247000_2, .int .i64 x247001_2, .slice none 0 0, .slice none 0 0] 39 (0, 0)) (by (with_reducible repeat (first | refine kN ?_ _ | refine kD ?_ | refine kA ?_ _)); refine kF ?_ NB246_277.out _; (with_reducible repeat (first | refine kN ?_ _ | refine kD ?_ | refine kA ?_ _)); refine kF ?_ NB246_277.out _; (with_reducible repeat (first | refine kN ?_ _ | refine kD ?_ | refine kA ?_ _)); exact BK246.out) hb); have n6_ := Aside0.mk (kB (g := gb252) (o := .cells #[.int .i64 (x6_2.length : Int), .int .i64 0, u253002, u253003] 39 (0, 0)) (by (with_reducible repeat (first | refine kN ?_ _ | refine kD ?_ | refine kA ?_ _)); refine kF ?_ NB252_277.out _; (with_reducible repeat (first | refine kN ?_ _ | refine kD ?_ | refine kA ?_ _)); refine kF ?_ NB252_277.out _; (with_reducible repeat (first | refine kN ?_ _ | refine kD ?_ | refine kA ?_ _)); exact BK252.out) hb); have n7_ := Aside0.mk (kB (g := gb277) (o := .cells #[.int .i64 ((rd_T73 x6_2 x110_3).f0), .int .i64 ((rd_T73 x6_2 x110_3).f1)] 73 (0, 0)) (by (with_reducible repeat (first | refine kN ?_ _ | refine kD ?_ | refine kA ?_ _)); refine blk_put (cs := #[.int .i64 ((rd_T73 x6_2 x110_3).f0), .int .i64 0]) ?_ 1 _ rfl; (with_reducible repeat (first | refine kN ?_ _ | refine kD ?_ | refine kA ?_ _)); refine blk_put (cs := #[.int .i64 0, .int .i64 0]) ?_ 0 _ rfl; (with_reducible repeat (first | refine kN ?_ _ | refine kD ?_ | refine kA ?_ _)); exact BK277.out) hb); have n8_ := Aside0.mk (bP (by repeat (first | (with_reducible first | exact HB.out | apply bA | apply bN | apply bD | refine bS ?_ GE244.out | refine bS ?_ GE245.out | refine bS ?_ GE246.out | refine bS ?_ GE252.out | refine bS ?_ GE277.out) | exact HB.out)) hb); clear HO_108; clear HO_253002; clear HO_253003; clear BK244; clear BK245; clear BK246; clear BK252; clear BK277; clear HB; have HO_108 := n0_; have HO_253002 := n1_; have HO_253003 := n2_; have BK244 := n3_; have BK245 := n4_; have BK246 := n5_; have BK252 := n6_; have BK277 := n7_; have HB := n8_; clear n0_ n1_ n2_ n3_ n4_ n5_ n6_ n7_ n8_; (try clear hb); (try clear hb2); (try clear hk); (try clear hi)))
             go_roundg k3
             case measure => have := HJ2.out; have := HK2.out; have := HK3.out; omega
             case rel => exact ⟨(wrap64 (x110_3 + 1)), (x253002_3), (u253002), eT, H', ⟨by have := HJ2.out; have := HK2.out; have := HK3.out; omega⟩, ⟨by (with_reducible repeat (first | apply rA | apply rN | apply rD)); exact rM HO_108.out (fun _ hk => trivial)⟩, ⟨rQ HO_253002⟩, ⟨rQ HO_253003⟩, ⟨kQ BK244⟩, ⟨kQ BK245⟩, ⟨kQ BK246⟩, ⟨kQ BK252⟩, ⟨by repeat (first | (with_reducible first | exact HB.out | apply bA | apply bN | apply bD | refine bS ?_ GE244.out | refine bS ?_ GE245.out | refine bS ?_ GE246.out | refine bS ?_ GE252.out | refine bS ?_ GE277.out) | exact HB.out)⟩⟩
           ·rw [if_neg c169] at H
            exact absurd H (by simp)
          ·rw [if_neg c168] at H
           exact absurd H (by simp)
         ·rw [if_neg c167] at H
          have c167b0 : decide (x110_3 < (x6_2.length : Int)) = false := decide_eq_false c167
          clear c167
          simp only [Option.some.injEq, Prod.mk.injEq] at H
          obtain ⟨rfl, rfl, rfl, rfl, rfl⟩ := H
          have hnb223 := NB252_244.out
          have hnc223 := NB244_252.out
          have hnb224 := NB252_245.out
          have hnc224 := NB245_252.out
          have hnb225 := NB252_246.out
          have hnc225 := NB246_252.out
          obtain ⟨hcz226_0, hcz226_1, hcz226_2, hcz226_3⟩ := cZ4 BK252.out
          obtain ⟨hfz226_0, hfz226_1, hfz226_2, hfz226_3⟩ := fZ4 BK252.out
          have hnb227 := NB246_244.out
          have hnc227 := NB244_246.out
          have hnb228 := NB246_245.out
          have hnc228 := NB245_246.out
          obtain ⟨hcz229_0, hcz229_1, hcz229_2, hcz229_3⟩ := cZ4 BK246.out
          obtain ⟨hfz229_0, hfz229_1, hfz229_2, hfz229_3⟩ := fZ4 BK246.out
          obtain ⟨Ao230, co230, eo230⟩ := Kd.R_slice HO_253002.out
          subst eo230
          obtain ⟨Ao231, co231, eo231⟩ := Kd.R_slice HO_253003.out
          subst eo231
          go_wp2
          refine bodyPost_ret (results_ct rfl _ _ gb246 39 #[.int .i64 (x6_2.length : Int), .int .i64 0, .slice Ao230 x253002_3.length co230, .slice Ao231 x253003_2.length co231] (0, 0) _ rfl (by (with_reducible repeat (first | refine kN ?_ _ | refine kD ?_ | refine kA ?_ _)); refine blk_put (cs := #[.int .i64 (x6_2.length : Int), .int .i64 0, .slice Ao230 x253002_3.length co230, .slice none 0 0]) ?_ 3 _ rfl; (with_reducible repeat (first | refine kN ?_ _ | refine kD ?_ | refine kA ?_ _)); refine blk_put (cs := #[.int .i64 (x6_2.length : Int), .int .i64 0, .slice none 0 0, .slice none 0 0]) ?_ 2 _ rfl; (with_reducible repeat (first | refine kN ?_ _ | refine kD ?_ | refine kA ?_ _)); refine blk_put (cs := #[.int .i64 (x6_2.length : Int), .int .i64 x247001_2, .slice none 0 0, .slice none 0 0]) ?_ 1 _ rfl; (with_reducible repeat (first | refine kN ?_ _ | refine kD ?_ | refine kA ?_ _)); refine blk_put (cs := #[.int .i64 x247000_2, .int .i64 x247001_2, .slice none 0 0, .slice none 0 0]) ?_ 0 _ rfl; (with_reducible repeat (first | refine kN ?_ _ | refine kD ?_ | refine kA ?_ _)); exact BK246.out) Try.underlying39 rfl (by kernel_rfl)) rfl ?_
          exact ⟨_, _, by first | rfl | (simp [errW_none, errW_some] <;> rfl) | (simp [*, errW_none, errW_some] <;> rfl), by (with_reducible repeat (first | apply rA | apply rN | apply rD)); exact rM (Kd.R_far (p := ⟨gb246, 3, none⟩) (Kd.R_far (p := ⟨gb246, 2, none⟩) (Kd.R_far (p := ⟨gb246, 1, none⟩) (Kd.R_far (p := ⟨gb246, 0, none⟩) (Kd.R_types HO_253002.out BK246.out (by decide)) (fun _ hk => hk.2) (.int .i64 (x6_2.length : Int))) (fun _ hk => hk.2) (.int .i64 0)) (fun _ hk => hk.2) (.slice Ao230 x253002_3.length co230)) (fun _ hk => hk.2) (.slice Ao231 x253003_2.length co231)) (fun _ hk => trivial), by (with_reducible repeat (first | apply rA | apply rN | apply rD)); exact rM (Kd.R_far (p := ⟨gb246, 3, none⟩) (Kd.R_far (p := ⟨gb246, 2, none⟩) (Kd.R_far (p := ⟨gb246, 1, none⟩) (Kd.R_far (p := ⟨gb246, 0, none⟩) (Kd.R_types HO_253003.out BK246.out (by decide)) (fun _ hk => hk.2) (.int .i64 (x6_2.length : Int))) (fun _ hk => hk.2) (.int .i64 0)) (fun _ hk => hk.2) (.slice Ao230 x253002_3.length co230)) (fun _ hk => hk.2) (.slice Ao231 x253003_2.length co231)) (fun _ hk => trivial), by repeat (first | (with_reducible first | exact HB.out | apply bA | apply bN | apply bD | refine bS ?_ GE244.out | refine bS ?_ GE245.out | refine bS ?_ GE246.out | refine bS ?_ GE252.out) | exact HB.out)⟩

end Go.Proofs.Yteljnbhbpidjpaa.G
-- shrunk
-- tight
-- tight2
-- tight3
