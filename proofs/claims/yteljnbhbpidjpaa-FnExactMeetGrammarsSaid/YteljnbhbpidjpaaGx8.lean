/- What functions of the given program compute, as plain Lean functions, and that the code comes to just that; by a program of this session over the kit's print. No condition. -/
import Derived.Test.YteljnbhbpidjpaaGx0
import Derived.Test.YteljnbhbpidjpaaGx4
import Derived.Test.YteljnbhbpidjpaaGx5
namespace Go.Proofs.Yteljnbhbpidjpaa.G
open Go.RowKit Go.Proofs.YteljnbhbpidjpaaW.PrintWords Go.Proofs.YteljnbhbpidjpaaW.PrintLast Go.Proofs.YteljnbhbpidjpaaW.PrintMore
open Go.Proofs.YteljnbhbpidjpaaW.PrintWords renaming below_alloc → bA, pw_below_drewN → bN, below_drew1 → bD, below_set → bS, blk_drewN → kN, blk_drew → kD, blk_alloc → kA, blk_below → kB, below_size → bZ, below_step → bP, blk_far → kF, blk_lt → kL, gate_callee → gC, box_event → bE, blk_cell → kC
open Go.Proofs.YteljnbhbpidjpaaW.PrintLast renaming take_ofW → tW, one_of → oO, i64_w → iW, i32_w → jW
open Go.Proofs.YteljnbhbpidjpaaW.PrintWords.Kd renaming R_alloc → rA, R_drewN → rN, R_drew → rD, C_alloc → cA, C_drewN → cN, C_drew → cD, C_below → cB, R_lower → rL, R_below → rB, R_elder' → rE, R_new' → rW, R_lt → rT, R_mono → rM
open List renaming setIfInBounds_toArray → sI, set_cons_zero → sZ, set_cons_succ → sS
open Bool renaming true → T, false → F
attribute [local go_sem] max2_int min2_int max_two min_two max_three min_three max_four min_four   -- for this text's walks alone
set_option linter.unusedVariables false
set_option linter.unusedSimpArgs false

/-! ### spec_MeetGrammars: function 16 -/
mutual
def spec_MeetGrammars.j0 : Nat → Bool → Int → Int → List Int → List (S68) → Int → Int → List Int → List (S68) → Option (Int × Int × List Int × (List (S68)) × Int)
 | 0, _, _, _, _, _, _, _, _, _ => none
 | k + 1, x19, x133000, x133001, x133002, x133003, x134000, x134001, x134002, x134003 => if x19 = true then (some (0, 0, ([] : List Int), ([] : List (S68)), 1)) else (spec_MeetGrammars.l0 k (([(([x133001, x134001] : List Int))] : List (List Int))) 0 x133000 x133001 x133002 x133003 x134000 x134001 x134002 x134003 0 0 (([] : List Int)) (([] : List (S68))))
def spec_MeetGrammars.l0 : Nat → List (List Int) → Int → Int → Int → List Int → List (S68) → Int → Int → List Int → List (S68) → Int → Int → List Int → List (S68) → Option (Int × Int × List Int × (List (S68)) × Int)
 | 0, _, _, _, _, _, _, _, _, _, _, _, _, _, _ => none
 | k + 1, x6, x8, x133000, x133001, x133002, x133003, x134000, x134001, x134002, x134003, x150000, x150001, x150002, x150003 => if x8 < (x6.length : Int) then (if 0 ≤ x8 then (if 0 < ((rd_L3 x6 x8).length : Int) then (if 1 < ((rd_L3 x6 x8).length : Int) then ((spec_l00Has.f k x133002 (rd (rd_L3 x6 x8) 0)).bind fun t154 => (if t154 = true then ((spec_l00Has.f k x134002 (rd (rd_L3 x6 x8) 1)).bind fun t155 => (spec_MeetGrammars.j2 k x6 x8 (rd (rd_L3 x6 x8) 0) (rd (rd_L3 x6 x8) 1) t155 x133000 x133001 x133002 x133003 x134000 x134001 x134002 x134003 x150000 x150001 x150002 x150003)) else (spec_MeetGrammars.j2 k x6 x8 (rd (rd_L3 x6 x8) 0) (rd (rd_L3 x6 x8) 1) false x133000 x133001 x133002 x133003 x134000 x134001 x134002 x134003 x150000 x150001 x150002 x150003))) else (none)) else (none)) else (none)) else (some ((x6.length : Int), x150001, x150002, x150003, 0))
def spec_MeetGrammars.j2 : Nat → List (List Int) → Int → Int → Int → Bool → Int → Int → List Int → List (S68) → Int → Int → List Int → List (S68) → Int → Int → List Int → List (S68) → Option (Int × Int × List Int × (List (S68)) × Int)
 | 0, _, _, _, _, _, _, _, _, _, _, _, _, _, _, _, _, _ => none
 | k + 1, x6, x8, x9, x10, x57, x133000, x133001, x133002, x133003, x134000, x134001, x134002, x134003, x150000, x150001, x150002, x150003 => if x57 = true then (if x150002.length < 17592186044416 then (spec_MeetGrammars.j3 k x6 x8 x9 x10 x133000 x133001 x133002 x133003 x134000 x134001 x134002 x134003 x150000 x150001 (x150002 ++ [x8]) x150003) else (none)) else (spec_MeetGrammars.j3 k x6 x8 x9 x10 x133000 x133001 x133002 x133003 x134000 x134001 x134002 x134003 x150000 x150001 x150002 x150003)
def spec_MeetGrammars.j3 : Nat → List (List Int) → Int → Int → Int → Int → Int → List Int → List (S68) → Int → Int → List Int → List (S68) → Int → Int → List Int → List (S68) → Option (Int × Int × List Int × (List (S68)) × Int)
 | 0, _, _, _, _, _, _, _, _, _, _, _, _, _, _, _, _ => none
 | k + 1, x6, x8, x9, x10, x133000, x133001, x133002, x133003, x134000, x134001, x134002, x134003, x150000, x150001, x150002, x150003 => spec_MeetGrammars.l1 k x6 x8 x9 x10 0 x133000 x133001 x133002 x133003 x134000 x134001 x134002 x134003 x150000 x150001 x150002 x150003
def spec_MeetGrammars.l1 : Nat → List (List Int) → Int → Int → Int → Int → Int → Int → List Int → List (S68) → Int → Int → List Int → List (S68) → Int → Int → List Int → List (S68) → Option (Int × Int × List Int × (List (S68)) × Int)
 | 0, _, _, _, _, _, _, _, _, _, _, _, _, _, _, _, _, _ => none
 | k + 1, x6, x8, x9, x10, x11, x133000, x133001, x133002, x133003, x134000, x134001, x134002, x134003, x150000, x150001, x150002, x150003 => if x11 < (x133003.length : Int) then (if 0 ≤ x11 then (if ((rd_T68 x133003 x11).f0) = x9 then ((spec_l07Step.f k x134000 x134001 x134002 x134003 x10 ((rd_T68 x133003 x11).f1)).bind fun t161 => (if t161 < 0 then (spec_MeetGrammars.l1 k x6 x8 x9 x10 (wrap64 (x11 + 1)) x133000 x133001 x133002 x133003 x134000 x134001 x134002 x134003 x150000 x150001 x150002 x150003) else ((spec_l07Pair.f k x6 ((rd_T68 x133003 x11).f2) t161).bind fun t163 => (if t163 < 0 then (if x6.length < 5864062014805 then (if x150003.length < 5864062014805 then (spec_MeetGrammars.l1 k (x6 ++ [(([(rd_T68 x133003 x11).f2, t161] : List Int))]) x8 x9 x10 (wrap64 (x11 + 1)) x133000 x133001 x133002 x133003 x134000 x134001 x134002 x134003 x150000 x150001 x150002 (x150003 ++ [(⟨x8, (rd_T68 x133003 x11).f1, (x6.length : Int)⟩ : S68)])) else (none)) else (none)) else (if x150003.length < 5864062014805 then (spec_MeetGrammars.l1 k x6 x8 x9 x10 (wrap64 (x11 + 1)) x133000 x133001 x133002 x133003 x134000 x134001 x134002 x134003 x150000 x150001 x150002 (x150003 ++ [(⟨x8, (rd_T68 x133003 x11).f1, t163⟩ : S68)])) else (none)))))) else (spec_MeetGrammars.l1 k x6 x8 x9 x10 (wrap64 (x11 + 1)) x133000 x133001 x133002 x133003 x134000 x134001 x134002 x134003 x150000 x150001 x150002 x150003)) else (none)) else (if (x6.length : Int) > 32 then (some (0, 0, ([] : List Int), ([] : List (S68)), 5)) else (if (x150003.length : Int) > 256 then (some (0, 0, ([] : List Int), ([] : List (S68)), 5)) else (spec_MeetGrammars.l0 k x6 (wrap64 (x8 + 1)) x133000 x133001 x133002 x133003 x134000 x134001 x134002 x134003 x150000 x150001 x150002 x150003)))
end
def spec_MeetGrammars.f (k : Nat) (a0_0 : Int) (a0_1 : Int) (l0_2 : List Int) (l0_3 : List (S68)) (a1_0 : Int) (a1_1 : Int) (l1_2 : List Int) (l1_3 : List (S68)) : Option (Int × Int × List Int × (List (S68)) × Int) := (spec_l07Ok.f k a0_0 a0_1 l0_2 l0_3).bind fun t135 => (if t135 = true then ((spec_l07Ok.f k a1_0 a1_1 l1_2 l1_3).bind fun t136 => (spec_MeetGrammars.j0 k (!t136) a0_0 a0_1 l0_2 l0_3 a1_0 a1_1 l1_2 l1_3)) else (spec_MeetGrammars.j0 k true a0_0 a0_1 l0_2 l0_3 a1_0 a1_1 l1_2 l1_3))
theorem spec_MeetGrammars.mono_l : ∀ k, (∀ y0 y1 y2 y3 y4 y5 y6 y7 y8, LeO (spec_MeetGrammars.j0 k y0 y1 y2 y3 y4 y5 y6 y7 y8) (spec_MeetGrammars.j0 (k + 1) y0 y1 y2 y3 y4 y5 y6 y7 y8)) ∧ (∀ y0 y1 y2 y3 y4 y5 y6 y7 y8 y9 y10 y11 y12 y13, LeO (spec_MeetGrammars.l0 k y0 y1 y2 y3 y4 y5 y6 y7 y8 y9 y10 y11 y12 y13) (spec_MeetGrammars.l0 (k + 1) y0 y1 y2 y3 y4 y5 y6 y7 y8 y9 y10 y11 y12 y13)) ∧ (∀ y0 y1 y2 y3 y4 y5 y6 y7 y8 y9 y10 y11 y12 y13 y14 y15 y16, LeO (spec_MeetGrammars.j2 k y0 y1 y2 y3 y4 y5 y6 y7 y8 y9 y10 y11 y12 y13 y14 y15 y16) (spec_MeetGrammars.j2 (k + 1) y0 y1 y2 y3 y4 y5 y6 y7 y8 y9 y10 y11 y12 y13 y14 y15 y16)) ∧ (∀ y0 y1 y2 y3 y4 y5 y6 y7 y8 y9 y10 y11 y12 y13 y14 y15, LeO (spec_MeetGrammars.j3 k y0 y1 y2 y3 y4 y5 y6 y7 y8 y9 y10 y11 y12 y13 y14 y15) (spec_MeetGrammars.j3 (k + 1) y0 y1 y2 y3 y4 y5 y6 y7 y8 y9 y10 y11 y12 y13 y14 y15)) ∧ (∀ y0 y1 y2 y3 y4 y5 y6 y7 y8 y9 y10 y11 y12 y13 y14 y15 y16, LeO (spec_MeetGrammars.l1 k y0 y1 y2 y3 y4 y5 y6 y7 y8 y9 y10 y11 y12 y13 y14 y15 y16) (spec_MeetGrammars.l1 (k + 1) y0 y1 y2 y3 y4 y5 y6 y7 y8 y9 y10 y11 y12 y13 y14 y15 y16))
 | 0 => ⟨fun _ _ _ _ _ _ _ _ _ r h => by simp [spec_MeetGrammars.j0] at h, fun _ _ _ _ _ _ _ _ _ _ _ _ _ _ r h => by simp [spec_MeetGrammars.l0] at h, fun _ _ _ _ _ _ _ _ _ _ _ _ _ _ _ _ _ r h => by simp [spec_MeetGrammars.j2] at h, fun _ _ _ _ _ _ _ _ _ _ _ _ _ _ _ _ r h => by simp [spec_MeetGrammars.j3] at h, fun _ _ _ _ _ _ _ _ _ _ _ _ _ _ _ _ _ r h => by simp [spec_MeetGrammars.l1] at h⟩
 | k + 1 => by
  obtain ⟨ih0, ih1, ih2, ih3, ih4⟩ := spec_MeetGrammars.mono_l k
  refine ⟨?_, ?_, ?_, ?_, ?_⟩
  ·intro y0 y1 y2 y3 y4 y5 y6 y7 y8
   unfold spec_MeetGrammars.j0
   repeat' first
   | (with_reducible exact ih0 _ _ _ _ _ _ _ _ _)
   | (with_reducible exact ih1 _ _ _ _ _ _ _ _ _ _ _ _ _ _)
   | (with_reducible exact ih2 _ _ _ _ _ _ _ _ _ _ _ _ _ _ _ _ _)
   | (with_reducible exact ih3 _ _ _ _ _ _ _ _ _ _ _ _ _ _ _ _)
   | (with_reducible exact ih4 _ _ _ _ _ _ _ _ _ _ _ _ _ _ _ _ _)
   | (with_reducible exact spec_l00Has.mono _ _ _)
   | (with_reducible exact spec_l07Ok.mono _ _ _ _ _)
   | (with_reducible exact spec_l07Pair.mono _ _ _ _)
   | (with_reducible exact spec_l07Step.mono _ _ _ _ _ _ _)
   | (with_reducible exact LeO.refl _)
   | (with_reducible exact LeO.none _)
   | (with_reducible refine LeO.ite ?_ ?_)
   | (with_reducible refine LeO.bind ?_ (fun _ => ?_))
   | exact ih0 _ _ _ _ _ _ _ _ _
   | exact ih1 _ _ _ _ _ _ _ _ _ _ _ _ _ _
   | exact ih2 _ _ _ _ _ _ _ _ _ _ _ _ _ _ _ _ _
   | exact ih3 _ _ _ _ _ _ _ _ _ _ _ _ _ _ _ _
   | exact ih4 _ _ _ _ _ _ _ _ _ _ _ _ _ _ _ _ _
   | exact spec_l00Has.mono _ _ _
   | exact spec_l07Ok.mono _ _ _ _ _
   | exact spec_l07Pair.mono _ _ _ _
   | exact spec_l07Step.mono _ _ _ _ _ _ _
   | exact LeO.none _
   | refine LeO.ite ?_ ?_
   | refine LeO.bind ?_ (fun _ => ?_)
  ·intro y0 y1 y2 y3 y4 y5 y6 y7 y8 y9 y10 y11 y12 y13
   unfold spec_MeetGrammars.l0
   repeat' first
   | (with_reducible exact ih0 _ _ _ _ _ _ _ _ _)
   | (with_reducible exact ih1 _ _ _ _ _ _ _ _ _ _ _ _ _ _)
   | (with_reducible exact ih2 _ _ _ _ _ _ _ _ _ _ _ _ _ _ _ _ _)
   | (with_reducible exact ih3 _ _ _ _ _ _ _ _ _ _ _ _ _ _ _ _)
   | (with_reducible exact ih4 _ _ _ _ _ _ _ _ _ _ _ _ _ _ _ _ _)
   | (with_reducible exact spec_l00Has.mono _ _ _)
   | (with_reducible exact spec_l07Ok.mono _ _ _ _ _)
   | (with_reducible exact spec_l07Pair.mono _ _ _ _)
   | (with_reducible exact spec_l07Step.mono _ _ _ _ _ _ _)
   | (with_reducible exact LeO.refl _)
   | (with_reducible exact LeO.none _)
   | (with_reducible refine LeO.ite ?_ ?_)
   | (with_reducible refine LeO.bind ?_ (fun _ => ?_))
   | exact ih0 _ _ _ _ _ _ _ _ _
   | exact ih1 _ _ _ _ _ _ _ _ _ _ _ _ _ _
   | exact ih2 _ _ _ _ _ _ _ _ _ _ _ _ _ _ _ _ _
   | exact ih3 _ _ _ _ _ _ _ _ _ _ _ _ _ _ _ _
   | exact ih4 _ _ _ _ _ _ _ _ _ _ _ _ _ _ _ _ _
   | exact spec_l00Has.mono _ _ _
   | exact spec_l07Ok.mono _ _ _ _ _
   | exact spec_l07Pair.mono _ _ _ _
   | exact spec_l07Step.mono _ _ _ _ _ _ _
   | exact LeO.none _
   | refine LeO.ite ?_ ?_
   | refine LeO.bind ?_ (fun _ => ?_)
  ·intro y0 y1 y2 y3 y4 y5 y6 y7 y8 y9 y10 y11 y12 y13 y14 y15 y16
   unfold spec_MeetGrammars.j2
   repeat' first
   | (with_reducible exact ih0 _ _ _ _ _ _ _ _ _)
   | (with_reducible exact ih1 _ _ _ _ _ _ _ _ _ _ _ _ _ _)
   | (with_reducible exact ih2 _ _ _ _ _ _ _ _ _ _ _ _ _ _ _ _ _)
   | (with_reducible exact ih3 _ _ _ _ _ _ _ _ _ _ _ _ _ _ _ _)
   | (with_reducible exact ih4 _ _ _ _ _ _ _ _ _ _ _ _ _ _ _ _ _)
   | (with_reducible exact spec_l00Has.mono _ _ _)
   | (with_reducible exact spec_l07Ok.mono _ _ _ _ _)
   | (with_reducible exact spec_l07Pair.mono _ _ _ _)
   | (with_reducible exact spec_l07Step.mono _ _ _ _ _ _ _)
   | (with_reducible exact LeO.refl _)
   | (with_reducible exact LeO.none _)
   | (with_reducible refine LeO.ite ?_ ?_)
   | (with_reducible refine LeO.bind ?_ (fun _ => ?_))
   | exact ih0 _ _ _ _ _ _ _ _ _
   | exact ih1 _ _ _ _ _ _ _ _ _ _ _ _ _ _
   | exact ih2 _ _ _ _ _ _ _ _ _ _ _ _ _ _ _ _ _
   | exact ih3 _ _ _ _ _ _ _ _ _ _ _ _ _ _ _ _
   | exact ih4 _ _ _ _ _ _ _ _ _ _ _ _ _ _ _ _ _
   | exact spec_l00Has.mono _ _ _
   | exact spec_l07Ok.mono _ _ _ _ _
   | exact spec_l07Pair.mono _ _ _ _
   | exact spec_l07Step.mono _ _ _ _ _ _ _
   | exact LeO.none _
   | refine LeO.ite ?_ ?_
   | refine LeO.bind ?_ (fun _ => ?_)
  ·intro y0 y1 y2 y3 y4 y5 y6 y7 y8 y9 y10 y11 y12 y13 y14 y15
   unfold spec_MeetGrammars.j3
   repeat' first
   | (with_reducible exact ih0 _ _ _ _ _ _ _ _ _)
   | (with_reducible exact ih1 _ _ _ _ _ _ _ _ _ _ _ _ _ _)
   | (with_reducible exact ih2 _ _ _ _ _ _ _ _ _ _ _ _ _ _ _ _ _)
   | (with_reducible exact ih3 _ _ _ _ _ _ _ _ _ _ _ _ _ _ _ _)
   | (with_reducible exact ih4 _ _ _ _ _ _ _ _ _ _ _ _ _ _ _ _ _)
   | (with_reducible exact spec_l00Has.mono _ _ _)
   | (with_reducible exact spec_l07Ok.mono _ _ _ _ _)
   | (with_reducible exact spec_l07Pair.mono _ _ _ _)
   | (with_reducible exact spec_l07Step.mono _ _ _ _ _ _ _)
   | (with_reducible exact LeO.refl _)
   | (with_reducible exact LeO.none _)
   | (with_reducible refine LeO.ite ?_ ?_)
   | (with_reducible refine LeO.bind ?_ (fun _ => ?_))
   | exact ih0 _ _ _ _ _ _ _ _ _
   | exact ih1 _ _ _ _ _ _ _ _ _ _ _ _ _ _
   | exact ih2 _ _ _ _ _ _ _ _ _ _ _ _ _ _ _ _ _
   | exact ih3 _ _ _ _ _ _ _ _ _ _ _ _ _ _ _ _
   | exact ih4 _ _ _ _ _ _ _ _ _ _ _ _ _ _ _ _ _
   | exact spec_l00Has.mono _ _ _
   | exact spec_l07Ok.mono _ _ _ _ _
   | exact spec_l07Pair.mono _ _ _ _
   | exact spec_l07Step.mono _ _ _ _ _ _ _
   | exact LeO.none _
   | refine LeO.ite ?_ ?_
   | refine LeO.bind ?_ (fun _ => ?_)
  ·intro y0 y1 y2 y3 y4 y5 y6 y7 y8 y9 y10 y11 y12 y13 y14 y15 y16
   unfold spec_MeetGrammars.l1
   repeat' first
   | (with_reducible exact ih0 _ _ _ _ _ _ _ _ _)
   | (with_reducible exact ih1 _ _ _ _ _ _ _ _ _ _ _ _ _ _)
   | (with_reducible exact ih2 _ _ _ _ _ _ _ _ _ _ _ _ _ _ _ _ _)
   | (with_reducible exact ih3 _ _ _ _ _ _ _ _ _ _ _ _ _ _ _ _)
   | (with_reducible exact ih4 _ _ _ _ _ _ _ _ _ _ _ _ _ _ _ _ _)
   | (with_reducible exact spec_l00Has.mono _ _ _)
   | (with_reducible exact spec_l07Ok.mono _ _ _ _ _)
   | (with_reducible exact spec_l07Pair.mono _ _ _ _)
   | (with_reducible exact spec_l07Step.mono _ _ _ _ _ _ _)
   | (with_reducible exact LeO.refl _)
   | (with_reducible exact LeO.none _)
   | (with_reducible refine LeO.ite ?_ ?_)
   | (with_reducible refine LeO.bind ?_ (fun _ => ?_))
   | exact ih0 _ _ _ _ _ _ _ _ _
   | exact ih1 _ _ _ _ _ _ _ _ _ _ _ _ _ _
   | exact ih2 _ _ _ _ _ _ _ _ _ _ _ _ _ _ _ _ _
   | exact ih3 _ _ _ _ _ _ _ _ _ _ _ _ _ _ _ _
   | exact ih4 _ _ _ _ _ _ _ _ _ _ _ _ _ _ _ _ _
   | exact spec_l00Has.mono _ _ _
   | exact spec_l07Ok.mono _ _ _ _ _
   | exact spec_l07Pair.mono _ _ _ _
   | exact spec_l07Step.mono _ _ _ _ _ _ _
   | exact LeO.none _
   | refine LeO.ite ?_ ?_
   | refine LeO.bind ?_ (fun _ => ?_)
theorem spec_MeetGrammars.mono : ∀ a0 a1 a2 a3 a4 a5 a6 a7 k, LeO (spec_MeetGrammars.f k a0 a1 a2 a3 a4 a5 a6 a7) (spec_MeetGrammars.f (k + 1) a0 a1 a2 a3 a4 a5 a6 a7) := by
 intro a0 a1 a2 a3 a4 a5 a6 a7 k
 obtain ⟨ih0, ih1, ih2, ih3, ih4⟩ := spec_MeetGrammars.mono_l k
 unfold spec_MeetGrammars.f
 repeat' first
   | (with_reducible exact ih0 _ _ _ _ _ _ _ _ _)
   | (with_reducible exact ih1 _ _ _ _ _ _ _ _ _ _ _ _ _ _)
   | (with_reducible exact ih2 _ _ _ _ _ _ _ _ _ _ _ _ _ _ _ _ _)
   | (with_reducible exact ih3 _ _ _ _ _ _ _ _ _ _ _ _ _ _ _ _)
   | (with_reducible exact ih4 _ _ _ _ _ _ _ _ _ _ _ _ _ _ _ _ _)
   | (with_reducible exact spec_l00Has.mono _ _ _)
   | (with_reducible exact spec_l07Ok.mono _ _ _ _ _)
   | (with_reducible exact spec_l07Pair.mono _ _ _ _)
   | (with_reducible exact spec_l07Step.mono _ _ _ _ _ _ _)
   | (with_reducible exact LeO.refl _)
   | (with_reducible exact LeO.none _)
   | (with_reducible refine LeO.ite ?_ ?_)
   | (with_reducible refine LeO.bind ?_ (fun _ => ?_))
   | exact ih0 _ _ _ _ _ _ _ _ _
   | exact ih1 _ _ _ _ _ _ _ _ _ _ _ _ _ _
   | exact ih2 _ _ _ _ _ _ _ _ _ _ _ _ _ _ _ _ _
   | exact ih3 _ _ _ _ _ _ _ _ _ _ _ _ _ _ _ _
   | exact ih4 _ _ _ _ _ _ _ _ _ _ _ _ _ _ _ _ _
   | exact spec_l00Has.mono _ _ _
   | exact spec_l07Ok.mono _ _ _ _ _
   | exact spec_l07Pair.mono _ _ _ _
   | exact spec_l07Step.mono _ _ _ _ _ _ _
   | exact LeO.none _
   | refine LeO.ite ?_ ?_
   | refine LeO.bind ?_ (fun _ => ?_)
def spec_MeetGrammars.T22 : Bool × List (List Nat × List Nat) := (true, [([], []), ([0], [0]), ([], []), ([], []), ([3], [3]), ([], []), ([4, 5], [4, 5]), ([6], [6]), ([7], [7]), ([], []), ([2, 8, 9], [2, 8, 9]), ([10], [10]), ([1, 11], [1, 11]), ([0, 1, 2, 3, 4, 5, 6, 7, 8, 9, 10, 11, 12], []), ([13, 12, 12, 0, 1, 2, 3, 4, 5, 6, 7, 8, 9, 10, 11, 12], [12, 13])])
def spec_MeetGrammars.B22 : List Nat := [0, 1, 0, 0, 8, 0, 56, 120, 248, 0, 1020, 2044, 4095, 8191, 16383]
theorem spec_MeetGrammars.tab22 : rtab .any (opsOf Try.f16 22) = spec_MeetGrammars.T22 := by kernel_rfl
theorem spec_MeetGrammars.bits22 : waitsOk spec_MeetGrammars.T22.2 spec_MeetGrammars.B22 = true := by kernel_rfl
set_option maxHeartbeats 8000000 in
set_option maxRecDepth 100000 in
theorem spec_MeetGrammars.calls (k : Nat) (a0_0 : Int) (a0_1 : Int) (A0_2 : Option Addr) (c0_2 : Nat) (l0_2 : List Int) (A0_3 : Option Addr) (c0_3 : Nat) (l0_3 : List (S68)) (a1_0 : Int) (a1_1 : Int) (A1_2 : Option Addr) (c1_2 : Nat) (l1_2 : List Int) (A1_3 : Option Addr) (c1_3 : Nat) (l1_3 : List (S68)) (r1 : Int) (r2 : Int) (r3 : List Int) (r4 : List (S68)) (r5 : Int) (w : World) (hr0_2 : Kd.C (Kd.int .i64) w A0_2 l0_2.length l0_2) (hc0_2 : l0_2.length ≤ c0_2) (hr0_3 : Kd.C k68 w A0_3 l0_3.length l0_3) (hc0_3 : l0_3.length ≤ c0_3) (hr1_2 : Kd.C (Kd.int .i64) w A1_2 l1_2.length l1_2) (hc1_2 : l1_2.length ≤ c1_2) (hr1_3 : Kd.C k68 w A1_3 l1_3.length l1_3) (hc1_3 : l1_3.length ≤ c1_3) (h : spec_MeetGrammars.f k a0_0 a0_1 l0_2 l0_3 a1_0 a1_1 l1_2 l1_3 = some (r1, r2, r3, r4, r5)) :
  Calls Try.prog 16 #[.agg #[.int .i64 a0_0, .int .i64 a0_1, .slice A0_2 l0_2.length c0_2, .slice A0_3 l0_3.length c0_3], .agg #[.int .i64 a1_0, .int .i64 a1_1, .slice A1_2 l1_2.length c1_2, .slice A1_3 l1_3.length c1_3]] w fun e w' => ∃ v2_ v3_ : Value, e = .returned (.tuple #[.agg #[.int .i64 r1, .int .i64 r2, v2_, v3_], .int .i64 r5]) ∧ Kd.R (Kd.int .i64) 2 w' w.heap.size (fun _ => True) v2_ r3 ∧ Kd.R k68 68 w' w.heap.size (fun _ => True) v3_ r4 ∧ Below w.heap.size w w' := by
 have hu39 := Try.underlying39
 have hu68 := Try.underlying68
 have HR0_2 := Aside0.mk hr0_2
 have HC0_2 := Aside0.mk hc0_2
 clear hr0_2 hc0_2
 have HR0_3 := Aside0.mk hr0_3
 have HC0_3 := Aside0.mk hc0_3
 clear hr0_3 hc0_3
 have HR1_2 := Aside0.mk hr1_2
 have HC1_2 := Aside0.mk hc1_2
 clear hr1_2 hc1_2
 have HR1_3 := Aside0.mk hr1_3
 have HC1_3 := Aside0.mk hc1_3
 clear hr1_3 hc1_3
 have HB := Aside0.mk (Below.refl w.heap.size w)
 have H : ((spec_l07Ok.f k a0_0 a0_1 l0_2 l0_3).bind fun t135 => (if t135 = true then ((spec_l07Ok.f k a1_0 a1_1 l1_2 l1_3).bind fun t136 => (spec_MeetGrammars.j0 k (!t136) a0_0 a0_1 l0_2 l0_3 a1_0 a1_1 l1_2 l1_3)) else (spec_MeetGrammars.j0 k true a0_0 a0_1 l0_2 l0_3 a1_0 a1_1 l1_2 l1_3))) = some (r1, r2, r3, r4, r5) := h
 clear h
 have HC3 := Aside0.mk H
 clear H
 go_enter Try.func16, Try.ntmps16
 go_upto_region 1 with (first | ((with_reducible refine gate_dst (N := 2) rfl ?_); (try (refine gate_guard (by rfl) ?_; dsimp only)); refine bE ?hg (N := 2) ?hd (cs := #[.int .i64 a0_0, .int .i64 a0_1, .slice A0_2 l0_2.length c0_2, .slice A0_3 l0_3.length c0_3]) (t := 39) ?hr ?_; (case hd => rfl); (case hg => rfl); (case hr => first | (go_simp; done) | (go_simp; rfl)); intro gb132 hg w4 hbox hb; have n0_ := Aside0.mk (bP (by repeat (first | (with_reducible first | exact HB.out | apply bA | apply bN | apply bD) | exact HB.out)) hb); have n1_ := Aside0.mk (hbox); have n2_ := Aside0.mk ((by rw [hg]; exact (bZ (by repeat (first | (with_reducible first | exact HB.out | apply bA | apply bN | apply bD) | exact HB.out))) : w.heap.size ≤ gb132)); have n3_ := Aside0.mk ((by rw [hg]; exact (bZ (by repeat (first | (with_reducible first | exact HB.out | apply bA | apply bN | apply bD) | exact HB.out))) : w.heap.size ≤ gb132)); clear HB; have HB := n0_; have BK132 := n1_; have GW132 := n2_; have GE132 := n3_; clear n0_ n1_ n2_ n3_; clear hb hbox hg) | ((with_reducible refine gate_dst (N := 3) rfl ?_); (try (refine gate_guard (by rfl) ?_; dsimp only)); refine bE ?hg (N := 3) ?hd (cs := #[.int .i64 a1_0, .int .i64 a1_1, .slice A1_2 l1_2.length c1_2, .slice A1_3 l1_3.length c1_3]) (t := 39) ?hr ?_; (case hd => rfl); (case hg => rfl); (case hr => first | (go_simp; done) | (go_simp; rfl)); intro gb133 hg w5 hbox hb; have n0_ := Aside0.mk (kB (g := gb132) (o := .cells #[.int .i64 a0_0, .int .i64 a0_1, .slice A0_2 l0_2.length c0_2, .slice A0_3 l0_3.length c0_3] 39 (0, 0)) (by (with_reducible repeat (first | refine kN ?_ _ | refine kD ?_ | refine kA ?_ _)); exact BK132.out) hb); have n1_ := Aside0.mk (bP (by repeat (first | (with_reducible first | exact HB.out | apply bA | apply bN | apply bD | refine bS ?_ GE132.out) | exact HB.out)) hb); have n2_ := Aside0.mk (hbox); have n3_ := Aside0.mk ((by rw [hg]; exact (bZ (by repeat (first | (with_reducible first | exact HB.out | apply bA | apply bN | apply bD | refine bS ?_ GE132.out) | exact HB.out))) : w.heap.size ≤ gb133)); have n4_ := Aside0.mk ((by rw [hg]; exact (bZ (by repeat (first | (with_reducible first | exact HB.out | apply bA | apply bN | apply bD | refine bS ?_ GE132.out) | exact HB.out))) : w.heap.size ≤ gb133)); have n5_ := Aside0.mk ((by rw [hg]; exact Nat.ne_of_lt (kL (g := gb132) (o := .cells #[.int .i64 a0_0, .int .i64 a0_1, .slice A0_2 l0_2.length c0_2, .slice A0_3 l0_3.length c0_3] 39 (0, 0)) (by (with_reducible repeat (first | refine kN ?_ _ | refine kD ?_ | refine kA ?_ _)); exact BK132.out)) : gb132 ≠ gb133)); have n6_ := Aside0.mk ((by rw [hg]; exact Nat.ne_of_gt (kL (g := gb132) (o := .cells #[.int .i64 a0_0, .int .i64 a0_1, .slice A0_2 l0_2.length c0_2, .slice A0_3 l0_3.length c0_3] 39 (0, 0)) (by (with_reducible repeat (first | refine kN ?_ _ | refine kD ?_ | refine kA ?_ _)); exact BK132.out)) : gb133 ≠ gb132)); clear BK132; clear HB; have BK132 := n0_; have HB := n1_; have BK133 := n2_; have GW133 := n3_; have GE133 := n4_; have NB132_133 := n5_; have NB133_132 := n6_; clear n0_ n1_ n2_ n3_ n4_ n5_ n6_; clear hb hbox hg) | ((with_reducible refine gate_dst (N := 4) rfl ?_); (try (refine gate_guard (by rfl) ?_; dsimp only)); refine bE ?hg (N := 4) ?hd (cs := #[.int .i64 0, .int .i64 0, .slice none 0 0, .slice none 0 0]) (t := 39) ?hr ?_; (case hd => rfl); (case hg => rfl); (case hr => first | (go_simp; done) | (go_simp; rfl)); intro gb134 hg w6 hbox hb; have n0_ := Aside0.mk (kB (g := gb132) (o := .cells #[.int .i64 a0_0, .int .i64 a0_1, .slice A0_2 l0_2.length c0_2, .slice A0_3 l0_3.length c0_3] 39 (0, 0)) (by (with_reducible repeat (first | refine kN ?_ _ | refine kD ?_ | refine kA ?_ _)); exact BK132.out) hb); have n1_ := Aside0.mk (kB (g := gb133) (o := .cells #[.int .i64 a1_0, .int .i64 a1_1, .slice A1_2 l1_2.length c1_2, .slice A1_3 l1_3.length c1_3] 39 (0, 0)) (by (with_reducible repeat (first | refine kN ?_ _ | refine kD ?_ | refine kA ?_ _)); exact BK133.out) hb); have n2_ := Aside0.mk (bP (by repeat (first | (with_reducible first | exact HB.out | apply bA | apply bN | apply bD | refine bS ?_ GE132.out | refine bS ?_ GE133.out) | exact HB.out)) hb); have n3_ := Aside0.mk (hbox); have n4_ := Aside0.mk ((by rw [hg]; exact (bZ (by repeat (first | (with_reducible first | exact HB.out | apply bA | apply bN | apply bD | refine bS ?_ GE132.out | refine bS ?_ GE133.out) | exact HB.out))) : w.heap.size ≤ gb134)); have n5_ := Aside0.mk ((by rw [hg]; exact (bZ (by repeat (first | (with_reducible first | exact HB.out | apply bA | apply bN | apply bD | refine bS ?_ GE132.out | refine bS ?_ GE133.out) | exact HB.out))) : w.heap.size ≤ gb134)); have n6_ := Aside0.mk ((by rw [hg]; exact Nat.ne_of_lt (kL (g := gb132) (o := .cells #[.int .i64 a0_0, .int .i64 a0_1, .slice A0_2 l0_2.length c0_2, .slice A0_3 l0_3.length c0_3] 39 (0, 0)) (by (with_reducible repeat (first | refine kN ?_ _ | refine kD ?_ | refine kA ?_ _)); exact BK132.out)) : gb132 ≠ gb134)); have n7_ := Aside0.mk ((by rw [hg]; exact Nat.ne_of_gt (kL (g := gb132) (o := .cells #[.int .i64 a0_0, .int .i64 a0_1, .slice A0_2 l0_2.length c0_2, .slice A0_3 l0_3.length c0_3] 39 (0, 0)) (by (with_reducible repeat (first | refine kN ?_ _ | refine kD ?_ | refine kA ?_ _)); exact BK132.out)) : gb134 ≠ gb132)); have n8_ := Aside0.mk ((by rw [hg]; exact Nat.ne_of_lt (kL (g := gb133) (o := .cells #[.int .i64 a1_0, .int .i64 a1_1, .slice A1_2 l1_2.length c1_2, .slice A1_3 l1_3.length c1_3] 39 (0, 0)) (by (with_reducible repeat (first | refine kN ?_ _ | refine kD ?_ | refine kA ?_ _)); exact BK133.out)) : gb133 ≠ gb134)); have n9_ := Aside0.mk ((by rw [hg]; exact Nat.ne_of_gt (kL (g := gb133) (o := .cells #[.int .i64 a1_0, .int .i64 a1_1, .slice A1_2 l1_2.length c1_2, .slice A1_3 l1_3.length c1_3] 39 (0, 0)) (by (with_reducible repeat (first | refine kN ?_ _ | refine kD ?_ | refine kA ?_ _)); exact BK133.out)) : gb134 ≠ gb133)); clear BK132; clear BK133; clear HB; have BK132 := n0_; have BK133 := n1_; have HB := n2_; have BK134 := n3_; have GW134 := n4_; have GE134 := n5_; have NB132_134 := n6_; have NB134_132 := n7_; have NB133_134 := n8_; have NB134_133 := n9_; clear n0_ n1_ n2_ n3_ n4_ n5_ n6_ n7_ n8_ n9_; clear hb hbox hg))
 (try simp only [Act.put, sI, sZ, sS])
 go_cut [19] (fun v19 wc => ∃ (kq : Nat) (x19_2 : Bool) (x133000_2 : Int) (x133001_2 : Int) (x134000_2 : Int) (x134001_2 : Int), v19 = .bool x19_2 ∧ Aside0 (spec_MeetGrammars.j0 kq x19_2 x133000_2 x133001_2 l0_2 l0_3 x134000_2 x134001_2 l1_2 l1_3 = some (r1, r2, r3, r4, r5)) ∧ Aside0 (kq ≤ k) ∧ Aside0 (wc.heap[gb132]? = some (.cells #[.int .i64 x133000_2, .int .i64 x133001_2, (.slice A0_2 l0_2.length c0_2), (.slice A0_3 l0_3.length c0_3)] 39 (0, 0))) ∧ Aside0 (wc.heap[gb133]? = some (.cells #[.int .i64 x134000_2, .int .i64 x134001_2, (.slice A1_2 l1_2.length c1_2), (.slice A1_3 l1_3.length c1_3)] 39 (0, 0))) ∧ Aside0 (wc.heap[gb134]? = some (.cells #[.int .i64 0, .int .i64 0, (.slice none 0 0), (.slice none 0 0)] 39 (0, 0))) ∧ Aside0 (Below w.heap.size w wc))
 case first =>
  have H := HC3.out
  clear HC3
  replace H := Option.bind_eq_some_iff.mp H
  obtain ⟨t135, A70, H⟩ := H
  replace H : (if t135 = true then ((spec_l07Ok.f k a1_0 a1_1 l1_2 l1_3).bind fun t136 => (spec_MeetGrammars.j0 k (!t136) a0_0 a0_1 l0_2 l0_3 a1_0 a1_1 l1_2 l1_3)) else (spec_MeetGrammars.j0 k true a0_0 a0_1 l0_2 l0_3 a1_0 a1_1 l1_2 l1_3)) = some (r1, r2, r3, r4, r5) := H
  have A7 := Aside0.mk A70
  clear A70
  by_cases c8 : t135 = true
  ·subst c8
   have H1 : ((spec_l07Ok.f k a1_0 a1_1 l1_2 l1_3).bind fun t136 => (spec_MeetGrammars.j0 k (!t136) a0_0 a0_1 l0_2 l0_3 a1_0 a1_1 l1_2 l1_3)) = some (r1, r2, r3, r4, r5) := by rw [if_pos rfl] at H; exact H
   clear H
   have H := H1
   clear H1
   replace H := Option.bind_eq_some_iff.mp H
   obtain ⟨t136, A90, H⟩ := H
   replace H : (spec_MeetGrammars.j0 k (!t136) a0_0 a0_1 l0_2 l0_3 a1_0 a1_1 l1_2 l1_3) = some (r1, r2, r3, r4, r5) := H
   have A9 := Aside0.mk A90
   clear A90
   have H' := Aside0.mk H
   clear H
   go_wp2_with (first | ((with_reducible refine gC (f := 36) rfl ?_); refine goesL_ (some 14) rfl rfl Try.func36 (by kernel_rfl) rfl #[.pointer (some ⟨gb132, 0, none⟩)] rfl (by (try simp only [List.map_toArray, List.map_cons, List.map_nil]); first | done | rfl | (simp only [List.length_drop, List.length_take]; rfl)) ?_; (with_reducible refine (spec_l07Ok.calls k ⟨gb132, 0, none⟩ a0_0 a0_1 l0_2 l0_3 true _ ?side1 A7.out).mono ?_); (case side1 => exact C_box (t := 39) (show _ from by (with_reducible repeat (first | refine kN ?_ _ | refine kD ?_ | refine kA ?_ _)); exact BK132.out) (k39_mk _ (⟨a0_0, a0_1, l0_2, l0_3⟩ : S39) (by exact HC0_2.out) (by repeat (first | exact (cB HR0_2.out HB.out) | (with_reducible refine cA ?_ _) | (with_reducible refine cN ?_ _) | (with_reducible refine cD ?_))) (by exact HC0_3.out) (by repeat (first | exact (cB HR0_3.out HB.out) | (with_reducible refine cA ?_ _) | (with_reducible refine cN ?_ _) | (with_reducible refine cD ?_))))); rintro e w10 ⟨rfl, hb⟩; refine ⟨_, rfl, ?_⟩; have n0_ := Aside0.mk (kB (g := gb132) (o := .cells #[.int .i64 a0_0, .int .i64 a0_1, .slice A0_2 l0_2.length c0_2, .slice A0_3 l0_3.length c0_3] 39 (0, 0)) (by (with_reducible repeat (first | refine kN ?_ _ | refine kD ?_ | refine kA ?_ _)); exact BK132.out) hb); have n1_ := Aside0.mk (kB (g := gb133) (o := .cells #[.int .i64 a1_0, .int .i64 a1_1, .slice A1_2 l1_2.length c1_2, .slice A1_3 l1_3.length c1_3] 39 (0, 0)) (by (with_reducible repeat (first | refine kN ?_ _ | refine kD ?_ | refine kA ?_ _)); exact BK133.out) hb); have n2_ := Aside0.mk (kB (g := gb134) (o := .cells #[.int .i64 0, .int .i64 0, .slice none 0 0, .slice none 0 0] 39 (0, 0)) (by (with_reducible repeat (first | refine kN ?_ _ | refine kD ?_ | refine kA ?_ _)); exact BK134.out) hb); have n3_ := Aside0.mk (bP (by repeat (first | (with_reducible first | exact HB.out | apply bA | apply bN | apply bD | refine bS ?_ GE132.out | refine bS ?_ GE133.out | refine bS ?_ GE134.out) | exact HB.out)) hb); clear BK132; clear BK133; clear BK134; clear HB; have BK132 := n0_; have BK133 := n1_; have BK134 := n2_; have HB := n3_; clear n0_ n1_ n2_ n3_; (try clear hb); (try clear hb2); (try clear hk); (try clear hi)) | (go_at_call 36; (with_reducible refine (spec_l07Ok.calls k ⟨gb133, 0, none⟩ a1_0 a1_1 l1_2 l1_3 t136 _ ?side1 A9.out).mono ?_); (case side1 => exact C_box (t := 39) (show _ from by (with_reducible repeat (first | refine kN ?_ _ | refine kD ?_ | refine kA ?_ _)); exact BK133.out) (k39_mk _ (⟨a1_0, a1_1, l1_2, l1_3⟩ : S39) (by exact HC1_2.out) (by repeat (first | exact (cB HR1_2.out HB.out) | (with_reducible refine cA ?_ _) | (with_reducible refine cN ?_ _) | (with_reducible refine cD ?_))) (by exact HC1_3.out) (by repeat (first | exact (cB HR1_3.out HB.out) | (with_reducible refine cA ?_ _) | (with_reducible refine cN ?_ _) | (with_reducible refine cD ?_))))); rintro e w11 ⟨rfl, hb⟩; have n0_ := Aside0.mk (kB (g := gb132) (o := .cells #[.int .i64 a0_0, .int .i64 a0_1, .slice A0_2 l0_2.length c0_2, .slice A0_3 l0_3.length c0_3] 39 (0, 0)) (by (with_reducible repeat (first | refine kN ?_ _ | refine kD ?_ | refine kA ?_ _)); exact BK132.out) hb); have n1_ := Aside0.mk (kB (g := gb133) (o := .cells #[.int .i64 a1_0, .int .i64 a1_1, .slice A1_2 l1_2.length c1_2, .slice A1_3 l1_3.length c1_3] 39 (0, 0)) (by (with_reducible repeat (first | refine kN ?_ _ | refine kD ?_ | refine kA ?_ _)); exact BK133.out) hb); have n2_ := Aside0.mk (kB (g := gb134) (o := .cells #[.int .i64 0, .int .i64 0, .slice none 0 0, .slice none 0 0] 39 (0, 0)) (by (with_reducible repeat (first | refine kN ?_ _ | refine kD ?_ | refine kA ?_ _)); exact BK134.out) hb); have n3_ := Aside0.mk (bP (by repeat (first | (with_reducible first | exact HB.out | apply bA | apply bN | apply bD | refine bS ?_ GE132.out | refine bS ?_ GE133.out | refine bS ?_ GE134.out) | exact HB.out)) hb); clear BK132; clear BK133; clear BK134; clear HB; have BK132 := n0_; have BK133 := n1_; have BK134 := n2_; have HB := n3_; clear n0_ n1_ n2_ n3_; (try clear hb); (try clear hb2); (try clear hk); (try clear hi)))
   go_meet
   case rel => exact ⟨_, (!t136), (a0_0), (a0_1), (a1_0), (a1_1), (by first | rfl | (simp; done) | (simp [*]; done)), H', ⟨by first | omega | exact Nat.le_refl _⟩, ⟨by (with_reducible repeat (first | refine kN ?_ _ | refine kD ?_ | refine kA ?_ _)); exact BK132.out⟩, ⟨by (with_reducible repeat (first | refine kN ?_ _ | refine kD ?_ | refine kA ?_ _)); exact BK133.out⟩, ⟨by (with_reducible repeat (first | refine kN ?_ _ | refine kD ?_ | refine kA ?_ _)); exact BK134.out⟩, ⟨by repeat (first | (with_reducible first | exact HB.out | apply bA | apply bN | apply bD | refine bS ?_ GE132.out | refine bS ?_ GE133.out | refine bS ?_ GE134.out) | exact HB.out)⟩⟩
  ·replace c8 := Bool.eq_false_iff.mpr c8
   subst c8
   have H1 : (spec_MeetGrammars.j0 k true a0_0 a0_1 l0_2 l0_3 a1_0 a1_1 l1_2 l1_3) = some (r1, r2, r3, r4, r5) := by rw [if_neg (show ¬ (false = true) by decide)] at H; exact H
   clear H
   have H := H1
   clear H1
   have H' := Aside0.mk H
   clear H
   go_wp2_with (first | ((with_reducible refine gC (f := 36) rfl ?_); refine goesL_ (some 14) rfl rfl Try.func36 (by kernel_rfl) rfl #[.pointer (some ⟨gb132, 0, none⟩)] rfl (by (try simp only [List.map_toArray, List.map_cons, List.map_nil]); first | done | rfl | (simp only [List.length_drop, List.length_take]; rfl)) ?_; (with_reducible refine (spec_l07Ok.calls k ⟨gb132, 0, none⟩ a0_0 a0_1 l0_2 l0_3 false _ ?side1 A7.out).mono ?_); (case side1 => exact C_box (t := 39) (show _ from by (with_reducible repeat (first | refine kN ?_ _ | refine kD ?_ | refine kA ?_ _)); exact BK132.out) (k39_mk _ (⟨a0_0, a0_1, l0_2, l0_3⟩ : S39) (by exact HC0_2.out) (by repeat (first | exact (cB HR0_2.out HB.out) | (with_reducible refine cA ?_ _) | (with_reducible refine cN ?_ _) | (with_reducible refine cD ?_))) (by exact HC0_3.out) (by repeat (first | exact (cB HR0_3.out HB.out) | (with_reducible refine cA ?_ _) | (with_reducible refine cN ?_ _) | (with_reducible refine cD ?_))))); rintro e w12 ⟨rfl, hb⟩; refine ⟨_, rfl, ?_⟩; have n0_ := Aside0.mk (kB (g := gb132) (o := .cells #[.int .i64 a0_0, .int .i64 a0_1, .slice A0_2 l0_2.length c0_2, .slice A0_3 l0_3.length c0_3] 39 (0, 0)) (by (with_reducible repeat (first | refine kN ?_ _ | refine kD ?_ | refine kA ?_ _)); exact BK132.out) hb); have n1_ := Aside0.mk (kB (g := gb133) (o := .cells #[.int .i64 a1_0, .int .i64 a1_1, .slice A1_2 l1_2.length c1_2, .slice A1_3 l1_3.length c1_3] 39 (0, 0)) (by (with_reducible repeat (first | refine kN ?_ _ | refine kD ?_ | refine kA ?_ _)); exact BK133.out) hb); have n2_ := Aside0.mk (kB (g := gb134) (o := .cells #[.int .i64 0, .int .i64 0, .slice none 0 0, .slice none 0 0] 39 (0, 0)) (by (with_reducible repeat (first | refine kN ?_ _ | refine kD ?_ | refine kA ?_ _)); exact BK134.out) hb); have n3_ := Aside0.mk (bP (by repeat (first | (with_reducible first | exact HB.out | apply bA | apply bN | apply bD | refine bS ?_ GE132.out | refine bS ?_ GE133.out | refine bS ?_ GE134.out) | exact HB.out)) hb); clear BK132; clear BK133; clear BK134; clear HB; have BK132 := n0_; have BK133 := n1_; have BK134 := n2_; have HB := n3_; clear n0_ n1_ n2_ n3_; (try clear hb); (try clear hb2); (try clear hk); (try clear hi)))
   go_meet
   case rel => exact ⟨_, (true), (a0_0), (a0_1), (a1_0), (a1_1), (by first | rfl | (simp; done) | (simp [*]; done)), H', ⟨by first | omega | exact Nat.le_refl _⟩, ⟨by (with_reducible repeat (first | refine kN ?_ _ | refine kD ?_ | refine kA ?_ _)); exact BK132.out⟩, ⟨by (with_reducible repeat (first | refine kN ?_ _ | refine kD ?_ | refine kA ?_ _)); exact BK133.out⟩, ⟨by (with_reducible repeat (first | refine kN ?_ _ | refine kD ?_ | refine kA ?_ _)); exact BK134.out⟩, ⟨by repeat (first | (with_reducible first | exact HB.out | apply bA | apply bN | apply bD | refine bS ?_ GE132.out | refine bS ?_ GE133.out | refine bS ?_ GE134.out) | exact HB.out)⟩⟩
 case rest =>
  clear HC3
  try clear c1
  try clear p2
  try clear c3
  try clear c8
  obtain ⟨kq, x19_2, x133000_2, x133001_2, x134000_2, x134001_2, rfl, HA, HJ2, BK132, BK133, BK134, HB⟩ := hcut
  cases kq with
  | zero => exact absurd HA.out (by simp [spec_MeetGrammars.j0])
  | succ kj2 =>
   have H := HA.out
   clear HA
   simp only [spec_MeetGrammars.j0] at H
   by_cases c13 : x19_2 = true
   ·subst c13
    have H1 : (some (0, 0, ([] : List Int), ([] : List (S68)), 1)) = some (r1, r2, r3, r4, r5) := by rw [if_pos rfl] at H; exact H
    clear H
    have H := H1
    clear H1
    simp only [Option.some.injEq, Prod.mk.injEq] at H
    obtain ⟨rfl, rfl, rfl, rfl, rfl⟩ := H
    have hnb14 := NB134_132.out
    have hnc14 := NB132_134.out
    have hnb15 := NB134_133.out
    have hnc15 := NB133_134.out
    have hcz16_0 : wc.cell? ⟨gb134, 0, none⟩ = some (.int .i64 0) := (kC BK134.out 0).trans rfl
    have hcz16_1 : wc.cell? ⟨gb134, 1, none⟩ = some (.int .i64 0) := (kC BK134.out 1).trans rfl
    have hcz16_2 : wc.cell? ⟨gb134, 2, none⟩ = some (.slice none 0 0) := (kC BK134.out 2).trans rfl
    have hcz16_3 : wc.cell? ⟨gb134, 3, none⟩ = some (.slice none 0 0) := (kC BK134.out 3).trans rfl
    have hfz16_0 := blk_frozen BK134.out 0
    have hfz16_1 := blk_frozen BK134.out 1
    have hfz16_2 := blk_frozen BK134.out 2
    have hfz16_3 := blk_frozen BK134.out 3
    go_wp2
    refine bodyPost_ret (results_ct rfl _ _ gb134 39 #[.int .i64 0, .int .i64 0, .slice none 0 0, .slice none 0 0] (0, 0) _ rfl (by (with_reducible repeat (first | refine kN ?_ _ | refine kD ?_ | refine kA ?_ _)); refine blk_put (cs := #[.int .i64 0, .int .i64 0, .slice none 0 0, .slice none 0 0]) ?_ 3 _ rfl; (with_reducible repeat (first | refine kN ?_ _ | refine kD ?_ | refine kA ?_ _)); refine blk_put (cs := #[.int .i64 0, .int .i64 0, .slice none 0 0, .slice none 0 0]) ?_ 2 _ rfl; (with_reducible repeat (first | refine kN ?_ _ | refine kD ?_ | refine kA ?_ _)); refine blk_put (cs := #[.int .i64 0, .int .i64 0, .slice none 0 0, .slice none 0 0]) ?_ 1 _ rfl; (with_reducible repeat (first | refine kN ?_ _ | refine kD ?_ | refine kA ?_ _)); refine blk_put (cs := #[.int .i64 0, .int .i64 0, .slice none 0 0, .slice none 0 0]) ?_ 0 _ rfl; (with_reducible repeat (first | refine kN ?_ _ | refine kD ?_ | refine kA ?_ _)); exact BK134.out) Try.underlying39 rfl (by kernel_rfl)) rfl ?_
    exact ⟨_, _, by first | rfl | (simp [errW_none, errW_some] <;> rfl) | (simp [*, errW_none, errW_some] <;> rfl), by first | exact Kd.R_nil _ _ _ _ _ | exact Kd.N_nil _ _ _ _ _ | exact Kd.V_nil _ _ _ _ _ | exact Kd.Q_nil _ _ _ _ _ | exact Kd.S_nil _ _ _ _ _, by first | exact Kd.R_nil _ _ _ _ _ | exact Kd.N_nil _ _ _ _ _ | exact Kd.V_nil _ _ _ _ _ | exact Kd.Q_nil _ _ _ _ _ | exact Kd.S_nil _ _ _ _ _, by repeat (first | (with_reducible first | exact HB.out | apply bA | apply bN | apply bD | refine bS ?_ GE132.out | refine bS ?_ GE133.out | refine bS ?_ GE134.out) | exact HB.out)⟩
   ·replace c13 := Bool.eq_false_iff.mpr c13
    subst c13
    have H1 : (spec_MeetGrammars.l0 kj2 (([(([x133001_2, x134001_2] : List Int))] : List (List Int))) 0 x133000_2 x133001_2 l0_2 l0_3 x134000_2 x134001_2 l1_2 l1_3 0 0 (([] : List Int)) (([] : List (S68)))) = some (r1, r2, r3, r4, r5) := by rw [if_neg (show ¬ (false = true) by decide)] at H; exact H
    clear H
    have H := H1
    clear H1
    obtain ⟨y137, hy137⟩ : ∃ y_ : List Int, y_ = (([x133001_2, x134001_2] : List Int)) := ⟨_, rfl⟩
    replace H : (spec_MeetGrammars.l0 kj2 (([y137] : List (List Int))) 0 x133000_2 x133001_2 l0_2 l0_3 x134000_2 x134001_2 l1_2 l1_3 0 0 (([] : List Int)) (([] : List (S68)))) = some (r1, r2, r3, r4, r5) := by first | (rw [hy137]; with_reducible exact H) | (have H2_ := (Option.bind_some _ _).symm.trans H; rw [hy137]; with_reducible exact H2_) | (have H2_ := (Option.bind_some _ _).symm.trans H; with_reducible exact H2_) | with_reducible exact H | (rw [hy137]; exact H) | exact H
    have Ny137 := Aside0.mk hy137
    clear hy137
    obtain ⟨y140, hy140⟩ : ∃ y_ : List (List Int), y_ = (([y137] : List (List Int))) := ⟨_, rfl⟩
    replace H : (spec_MeetGrammars.l0 kj2 y140 0 x133000_2 x133001_2 l0_2 l0_3 x134000_2 x134001_2 l1_2 l1_3 0 0 (([] : List Int)) (([] : List (S68)))) = some (r1, r2, r3, r4, r5) := by first | (rw [hy140]; with_reducible exact H) | (have H2_ := (Option.bind_some _ _).symm.trans H; rw [hy140]; with_reducible exact H2_) | (have H2_ := (Option.bind_some _ _).symm.trans H; with_reducible exact H2_) | with_reducible exact H | (rw [hy140]; exact H) | exact H
    have Ny140 := Aside0.mk hy140
    clear hy140
    obtain ⟨y143, hy143⟩ : ∃ y_ : List Int, y_ = (([] : List Int)) := ⟨_, rfl⟩
    replace H : (spec_MeetGrammars.l0 kj2 y140 0 x133000_2 x133001_2 l0_2 l0_3 x134000_2 x134001_2 l1_2 l1_3 0 0 y143 (([] : List (S68)))) = some (r1, r2, r3, r4, r5) := by first | (rw [hy143]; with_reducible exact H) | (have H2_ := (Option.bind_some _ _).symm.trans H; rw [hy143]; with_reducible exact H2_) | (have H2_ := (Option.bind_some _ _).symm.trans H; with_reducible exact H2_) | with_reducible exact H | (rw [hy143]; exact H) | exact H
    have Ny143 := Aside0.mk hy143
    clear hy143
    obtain ⟨y146, hy146⟩ : ∃ y_ : List (S68), y_ = (([] : List (S68))) := ⟨_, rfl⟩
    replace H : (spec_MeetGrammars.l0 kj2 y140 0 x133000_2 x133001_2 l0_2 l0_3 x134000_2 x134001_2 l1_2 l1_3 0 0 y143 y146) = some (r1, r2, r3, r4, r5) := by first | (rw [hy146]; with_reducible exact H) | (have H2_ := (Option.bind_some _ _).symm.trans H; rw [hy146]; with_reducible exact H2_) | (have H2_ := (Option.bind_some _ _).symm.trans H; with_reducible exact H2_) | with_reducible exact H | (rw [hy146]; exact H) | exact H
    have Ny146 := Aside0.mk hy146
    clear hy146
    have H' := Aside0.mk H
    clear H
    have hnb17 := NB132_133.out
    have hnc17 := NB133_132.out
    have hnb18 := NB132_134.out
    have hnc18 := NB134_132.out
    have hcz19_0 : wc.cell? ⟨gb132, 0, none⟩ = some (.int .i64 x133000_2) := (kC BK132.out 0).trans rfl
    have hcz19_1 : wc.cell? ⟨gb132, 1, none⟩ = some (.int .i64 x133001_2) := (kC BK132.out 1).trans rfl
    have hcz19_2 : wc.cell? ⟨gb132, 2, none⟩ = some (.slice A0_2 l0_2.length c0_2) := (kC BK132.out 2).trans rfl
    have hcz19_3 : wc.cell? ⟨gb132, 3, none⟩ = some (.slice A0_3 l0_3.length c0_3) := (kC BK132.out 3).trans rfl
    have hfz19_0 := blk_frozen BK132.out 0
    have hfz19_1 := blk_frozen BK132.out 1
    have hfz19_2 := blk_frozen BK132.out 2
    have hfz19_3 := blk_frozen BK132.out 3
    have hnb20 := NB133_134.out
    have hnc20 := NB134_133.out
    have hcz21_0 : wc.cell? ⟨gb133, 0, none⟩ = some (.int .i64 x134000_2) := (kC BK133.out 0).trans rfl
    have hcz21_1 : wc.cell? ⟨gb133, 1, none⟩ = some (.int .i64 x134001_2) := (kC BK133.out 1).trans rfl
    have hcz21_2 : wc.cell? ⟨gb133, 2, none⟩ = some (.slice A1_2 l1_2.length c1_2) := (kC BK133.out 2).trans rfl
    have hcz21_3 : wc.cell? ⟨gb133, 3, none⟩ = some (.slice A1_3 l1_3.length c1_3) := (kC BK133.out 3).trans rfl
    have hfz21_0 := blk_frozen BK133.out 0
    have hfz21_1 := blk_frozen BK133.out 1
    have hfz21_2 := blk_frozen BK133.out 2
    have hfz21_3 := blk_frozen BK133.out 3
    go_wp2_with (first | ((with_reducible refine gate_dst (N := 25) rfl ?_); (try (refine gate_guard (by rfl) ?_; dsimp only)); refine Kd.R_lit (Kd.int .i64) _ 2 ?hg (N := 25) ?hd (xs := ([x133001_2, x134001_2] : List Int)) (inner := [.int .i64 x133001_2, .int .i64 x134001_2]) (ok := fun _ => True) (okp := fun _ => True) ?hr ?hp (fun _ hk => hk) trivial (Below.refl _ _) (Nat.le_refl _) (by simp) ?_; (case hd => rfl); (case hg => rfl); (case hr => first | (go_simp; done) | (go_simp; rfl)); (case hp => exact (Reps.one (show Kd.M (Kd.int .i64) _ _ _ x133001_2 [.int .i64 x133001_2] from rfl) (Reps.one (show Kd.M (Kd.int .i64) _ _ _ x134001_2 [.int .i64 x134001_2] from rfl) (Reps.none _ _)))); intro v138 w22 ho23 hb hg_ hnew_; clear hg_ hnew_; (first | rw [← Ny137.out] at ho23 | (simp only [Int.reduceToNat] at ho23; rw [← Ny137.out] at ho23)); have n0_ := Aside0.mk (rL ho23 (bZ (by repeat (first | (with_reducible first | exact HB.out | apply bA | apply bN | apply bD | refine bS ?_ GE132.out | refine bS ?_ GE133.out | refine bS ?_ GE134.out) | exact HB.out)))); have n1_ := Aside0.mk (kB (g := gb132) (o := .cells #[.int .i64 x133000_2, .int .i64 x133001_2, .slice A0_2 l0_2.length c0_2, .slice A0_3 l0_3.length c0_3] 39 (0, 0)) (by (with_reducible repeat (first | refine kN ?_ _ | refine kD ?_ | refine kA ?_ _)); exact BK132.out) hb); have n2_ := Aside0.mk (kB (g := gb133) (o := .cells #[.int .i64 x134000_2, .int .i64 x134001_2, .slice A1_2 l1_2.length c1_2, .slice A1_3 l1_3.length c1_3] 39 (0, 0)) (by (with_reducible repeat (first | refine kN ?_ _ | refine kD ?_ | refine kA ?_ _)); exact BK133.out) hb); have n3_ := Aside0.mk (kB (g := gb134) (o := .cells #[.int .i64 0, .int .i64 0, .slice none 0 0, .slice none 0 0] 39 (0, 0)) (by (with_reducible repeat (first | refine kN ?_ _ | refine kD ?_ | refine kA ?_ _)); exact BK134.out) hb); have n4_ := Aside0.mk (bP (by repeat (first | (with_reducible first | exact HB.out | apply bA | apply bN | apply bD | refine bS ?_ GE132.out | refine bS ?_ GE133.out | refine bS ?_ GE134.out) | exact HB.out)) hb); clear BK132; clear BK133; clear BK134; clear HB; have HO139 := n0_; have BK132 := n1_; have BK133 := n2_; have BK134 := n3_; have HB := n4_; clear n0_ n1_ n2_ n3_ n4_; clear hb ho23; obtain ⟨Ao24, co24, eo24⟩ := Kd.R_slice HO139.out; subst eo24) | ((with_reducible refine gate_dst (N := 26) rfl ?_); (try (refine gate_guard (by rfl) ?_; dsimp only)); refine Kd.N_lit (Kd.slice 2 (Kd.int .i64)) _ 22 ?hg (N' := 26) ?hd (xs := ([y137] : List (List Int))) (inner := [.slice Ao24 y137.length co24]) (ok := (fun k_ => k_ ≠ gb132 ∧ k_ ≠ gb133 ∧ k_ ≠ gb134)) (okp := (fun k_ => k_ ≠ gb132 ∧ k_ ≠ gb133 ∧ k_ ≠ gb134)) ?hr ?hp (fun _ hk => hk) ((show ∀ k_, w22.heap.size ≤ k_ → (fun k_ => k_ ≠ gb132 ∧ k_ ≠ gb133 ∧ k_ ≠ gb134) k_ from fun k_ hk => ⟨Kd.freshB (g := gb132) (o := .cells #[.int .i64 x133000_2, .int .i64 x133001_2, .slice A0_2 l0_2.length c0_2, .slice A0_3 l0_3.length c0_3] 39 (0, 0)) (by (with_reducible repeat (first | refine kN ?_ _ | refine kD ?_ | refine kA ?_ _)); exact BK132.out) k_ hk, Kd.freshB (g := gb133) (o := .cells #[.int .i64 x134000_2, .int .i64 x134001_2, .slice A1_2 l1_2.length c1_2, .slice A1_3 l1_3.length c1_3] 39 (0, 0)) (by (with_reducible repeat (first | refine kN ?_ _ | refine kD ?_ | refine kA ?_ _)); exact BK133.out) k_ hk, Kd.freshB (g := gb134) (o := .cells #[.int .i64 0, .int .i64 0, .slice none 0 0, .slice none 0 0] 39 (0, 0)) (by (with_reducible repeat (first | refine kN ?_ _ | refine kD ?_ | refine kA ?_ _)); exact BK134.out) k_ hk⟩) _ (Nat.le_refl _)) (Below.refl _ _) (Nat.le_refl _) (by simp) ?_; (case hd => rfl); (case hg => rfl); (case hr => first | (go_simp; done) | (go_simp; rfl)); (case hp => exact (Reps.one (show Kd.FK (Kd.slice 2 (Kd.int .i64)) _ _ y137 [.slice Ao24 y137.length co24] from (Kd.FK_slice_mk (Kd.R_reads' (rM (ok' := (fun k_ => k_ ≠ gb132 ∧ k_ ≠ gb133 ∧ k_ ≠ gb134)) (Kd.R_types (Kd.R_types (Kd.R_types (HO139.out) BK132.out (by decide)) BK133.out (by decide)) BK134.out (by decide)) (fun k_ hk => ⟨hk.1.1.2, ⟨hk.1.2, hk.2⟩⟩))).2.1 (Kd.R_F (rM (ok' := (fun k_ => k_ ≠ gb132 ∧ k_ ≠ gb133 ∧ k_ ≠ gb134)) (Kd.R_types (Kd.R_types (Kd.R_types (HO139.out) BK132.out (by decide)) BK133.out (by decide)) BK134.out (by decide)) (fun k_ hk => ⟨hk.1.1.2, ⟨hk.1.2, hk.2⟩⟩))))) (Reps.none _ _))); intro v141 w25 ho26 hb hg_ hnew_; clear hg_ hnew_; (first | rw [← Ny140.out] at ho26 | (simp only [Int.reduceToNat] at ho26; rw [← Ny140.out] at ho26)); have n0_ := Aside0.mk (Kd.N_lower ho26 (bZ (by repeat (first | (with_reducible first | exact HB.out | apply bA | apply bN | apply bD | refine bS ?_ GE132.out | refine bS ?_ GE133.out | refine bS ?_ GE134.out) | exact HB.out)))); have n1_ := Aside0.mk (kB (g := gb132) (o := .cells #[.int .i64 x133000_2, .int .i64 x133001_2, .slice A0_2 l0_2.length c0_2, .slice A0_3 l0_3.length c0_3] 39 (0, 0)) (by (with_reducible repeat (first | refine kN ?_ _ | refine kD ?_ | refine kA ?_ _)); exact BK132.out) hb); have n2_ := Aside0.mk (kB (g := gb133) (o := .cells #[.int .i64 x134000_2, .int .i64 x134001_2, .slice A1_2 l1_2.length c1_2, .slice A1_3 l1_3.length c1_3] 39 (0, 0)) (by (with_reducible repeat (first | refine kN ?_ _ | refine kD ?_ | refine kA ?_ _)); exact BK133.out) hb); have n3_ := Aside0.mk (kB (g := gb134) (o := .cells #[.int .i64 0, .int .i64 0, .slice none 0 0, .slice none 0 0] 39 (0, 0)) (by (with_reducible repeat (first | refine kN ?_ _ | refine kD ?_ | refine kA ?_ _)); exact BK134.out) hb); have n4_ := Aside0.mk (bP (by repeat (first | (with_reducible first | exact HB.out | apply bA | apply bN | apply bD | refine bS ?_ GE132.out | refine bS ?_ GE133.out | refine bS ?_ GE134.out) | exact HB.out)) hb); clear BK132; clear BK133; clear BK134; clear HB; clear HO139; have HO142 := n0_; have BK132 := n1_; have BK133 := n2_; have BK134 := n3_; have HB := n4_; clear n0_ n1_ n2_ n3_ n4_; clear hb ho26) | ((with_reducible refine gate_dst (N := 27) rfl ?_); (try (refine gate_guard (by rfl) ?_; dsimp only)); refine Kd.R_lit (Kd.int .i64) _ 2 ?hg (N := 27) ?hd (xs := ([] : List Int)) (inner := []) (ok := fun _ => True) (okp := fun _ => True) ?hr ?hp (fun _ hk => hk) trivial (Below.refl _ _) (Nat.le_refl _) (by simp) ?_; (case hd => rfl); (case hg => rfl); (case hr => first | (go_simp; done) | (go_simp; rfl)); (case hp => exact (Reps.none _ _)); intro v144 w27 ho28 hb hg_ hnew_; clear hg_ hnew_; (first | rw [← Ny143.out] at ho28 | (simp only [Int.reduceToNat] at ho28; rw [← Ny143.out] at ho28)); have n0_ := Aside0.mk (Kd.N_elder' (by (with_reducible repeat (first | apply Kd.N_alloc | apply Kd.N_drewN | apply Kd.N_drew)); exact HO142.out) (Kd.R_base ho28) hb); have n1_ := Aside0.mk (rL ho28 (bZ (by repeat (first | (with_reducible first | exact HB.out | apply bA | apply bN | apply bD | refine bS ?_ GE132.out | refine bS ?_ GE133.out | refine bS ?_ GE134.out) | exact HB.out)))); have n2_ := Aside0.mk (kB (g := gb132) (o := .cells #[.int .i64 x133000_2, .int .i64 x133001_2, .slice A0_2 l0_2.length c0_2, .slice A0_3 l0_3.length c0_3] 39 (0, 0)) (by (with_reducible repeat (first | refine kN ?_ _ | refine kD ?_ | refine kA ?_ _)); exact BK132.out) hb); have n3_ := Aside0.mk (kB (g := gb133) (o := .cells #[.int .i64 x134000_2, .int .i64 x134001_2, .slice A1_2 l1_2.length c1_2, .slice A1_3 l1_3.length c1_3] 39 (0, 0)) (by (with_reducible repeat (first | refine kN ?_ _ | refine kD ?_ | refine kA ?_ _)); exact BK133.out) hb); have n4_ := Aside0.mk (kB (g := gb134) (o := .cells #[.int .i64 0, .int .i64 0, .slice none 0 0, .slice none 0 0] 39 (0, 0)) (by (with_reducible repeat (first | refine kN ?_ _ | refine kD ?_ | refine kA ?_ _)); exact BK134.out) hb); have n5_ := Aside0.mk (bP (by repeat (first | (with_reducible first | exact HB.out | apply bA | apply bN | apply bD | refine bS ?_ GE132.out | refine bS ?_ GE133.out | refine bS ?_ GE134.out) | exact HB.out)) hb); clear HO142; clear BK132; clear BK133; clear BK134; clear HB; have HO142 := n0_; have HO145 := n1_; have BK132 := n2_; have BK133 := n3_; have BK134 := n4_; have HB := n5_; clear n0_ n1_ n2_ n3_ n4_ n5_; clear hb ho28) | ((with_reducible refine gate_dst (N := 28) rfl ?_); (try (refine gate_guard (by rfl) ?_; dsimp only)); refine Kd.R_lit k68 _ 68 ?hg (N := 28) ?hd (xs := ([] : List (S68))) (inner := []) (ok := fun _ => True) (okp := fun _ => True) ?hr ?hp (fun _ hk => hk) trivial (Below.refl _ _) (Nat.le_refl _) (by simp) ?_; (case hd => rfl); (case hg => rfl); (case hr => first | (go_simp; done) | (go_simp; rfl)); (case hp => exact (Reps.none _ _)); intro v147 w29 ho30 hb hg_ hnew_; clear hg_ hnew_; (first | rw [← Ny146.out] at ho30 | (simp only [Int.reduceToNat] at ho30; rw [← Ny146.out] at ho30)); have n0_ := Aside0.mk (Kd.N_elder' (by (with_reducible repeat (first | apply Kd.N_alloc | apply Kd.N_drewN | apply Kd.N_drew)); exact HO142.out) (Kd.R_base ho30) hb); have n1_ := Aside0.mk (rB (by (with_reducible repeat (first | apply rA | apply rN | apply rD)); exact HO145.out) hb); have n2_ := Aside0.mk (rL ho30 (bZ (by repeat (first | (with_reducible first | exact HB.out | apply bA | apply bN | apply bD | refine bS ?_ GE132.out | refine bS ?_ GE133.out | refine bS ?_ GE134.out) | exact HB.out)))); have n3_ := Aside0.mk (kB (g := gb132) (o := .cells #[.int .i64 x133000_2, .int .i64 x133001_2, .slice A0_2 l0_2.length c0_2, .slice A0_3 l0_3.length c0_3] 39 (0, 0)) (by (with_reducible repeat (first | refine kN ?_ _ | refine kD ?_ | refine kA ?_ _)); exact BK132.out) hb); have n4_ := Aside0.mk (kB (g := gb133) (o := .cells #[.int .i64 x134000_2, .int .i64 x134001_2, .slice A1_2 l1_2.length c1_2, .slice A1_3 l1_3.length c1_3] 39 (0, 0)) (by (with_reducible repeat (first | refine kN ?_ _ | refine kD ?_ | refine kA ?_ _)); exact BK133.out) hb); have n5_ := Aside0.mk (kB (g := gb134) (o := .cells #[.int .i64 0, .int .i64 0, .slice none 0 0, .slice none 0 0] 39 (0, 0)) (by (with_reducible repeat (first | refine kN ?_ _ | refine kD ?_ | refine kA ?_ _)); exact BK134.out) hb); have n6_ := Aside0.mk (bP (by repeat (first | (with_reducible first | exact HB.out | apply bA | apply bN | apply bD | refine bS ?_ GE132.out | refine bS ?_ GE133.out | refine bS ?_ GE134.out) | exact HB.out)) hb); clear HO142; clear HO145; clear BK132; clear BK133; clear BK134; clear HB; have HO142 := n0_; have HO145 := n1_; have HO148 := n2_; have BK132 := n3_; have BK133 := n4_; have BK134 := n5_; have HB := n6_; clear n0_ n1_ n2_ n3_ n4_ n5_ n6_; clear hb ho30; obtain ⟨Ao31, co31, eo31⟩ := Kd.R_slice HO148.out; subst eo31; obtain ⟨Ao32, co32, eo32⟩ := Kd.R_slice HO145.out; subst eo32) | ((with_reducible refine gate_dst (N := 7) rfl ?_); (try (refine gate_guard (by rfl) ?_; dsimp only)); refine bE ?hg (N := 7) ?hd (cs := #[.int .i64 0, .int .i64 0, .slice none 0 0, .slice none 0 0]) (t := 39) ?hr ?_; (case hd => rfl); (case hg => rfl); (case hr => first | (go_simp; done) | (go_simp; rfl)); intro gb149 hg w33 hbox hb; have n0_ := Aside0.mk (Kd.N_below (Kd.N_elderB (by (with_reducible repeat (first | apply Kd.N_alloc | apply Kd.N_drewN | apply Kd.N_drew)); exact HO142.out) gb149 (Nat.le_of_eq hg.symm)) hb); have n1_ := Aside0.mk (rB (by (with_reducible repeat (first | apply rA | apply rN | apply rD)); exact HO145.out) hb); have n2_ := Aside0.mk (rB (by (with_reducible repeat (first | apply rA | apply rN | apply rD)); exact HO148.out) hb); have n3_ := Aside0.mk (kB (g := gb132) (o := .cells #[.int .i64 x133000_2, .int .i64 x133001_2, .slice A0_2 l0_2.length c0_2, .slice A0_3 l0_3.length c0_3] 39 (0, 0)) (by (with_reducible repeat (first | refine kN ?_ _ | refine kD ?_ | refine kA ?_ _)); exact BK132.out) hb); have n4_ := Aside0.mk (kB (g := gb133) (o := .cells #[.int .i64 x134000_2, .int .i64 x134001_2, .slice A1_2 l1_2.length c1_2, .slice A1_3 l1_3.length c1_3] 39 (0, 0)) (by (with_reducible repeat (first | refine kN ?_ _ | refine kD ?_ | refine kA ?_ _)); exact BK133.out) hb); have n5_ := Aside0.mk (kB (g := gb134) (o := .cells #[.int .i64 0, .int .i64 0, .slice none 0 0, .slice none 0 0] 39 (0, 0)) (by (with_reducible repeat (first | refine kN ?_ _ | refine kD ?_ | refine kA ?_ _)); exact BK134.out) hb); have n6_ := Aside0.mk (bP (by repeat (first | (with_reducible first | exact HB.out | apply bA | apply bN | apply bD | refine bS ?_ GE132.out | refine bS ?_ GE133.out | refine bS ?_ GE134.out) | exact HB.out)) hb); have n7_ := Aside0.mk (hbox); have n8_ := Aside0.mk ((by rw [hg]; exact (bZ (by repeat (first | (with_reducible first | exact HB.out | apply bA | apply bN | apply bD | refine bS ?_ GE132.out | refine bS ?_ GE133.out | refine bS ?_ GE134.out) | exact HB.out))) : w.heap.size ≤ gb149)); have n9_ := Aside0.mk ((by rw [hg]; exact (bZ (by repeat (first | (with_reducible first | exact HB.out | apply bA | apply bN | apply bD | refine bS ?_ GE132.out | refine bS ?_ GE133.out | refine bS ?_ GE134.out) | exact HB.out))) : w.heap.size ≤ gb149)); have n10_ := Aside0.mk ((by rw [hg]; exact Nat.ne_of_lt (kL (g := gb132) (o := .cells #[.int .i64 x133000_2, .int .i64 x133001_2, .slice A0_2 l0_2.length c0_2, .slice A0_3 l0_3.length c0_3] 39 (0, 0)) (by (with_reducible repeat (first | refine kN ?_ _ | refine kD ?_ | refine kA ?_ _)); exact BK132.out)) : gb132 ≠ gb149)); have n11_ := Aside0.mk ((by rw [hg]; exact Nat.ne_of_gt (kL (g := gb132) (o := .cells #[.int .i64 x133000_2, .int .i64 x133001_2, .slice A0_2 l0_2.length c0_2, .slice A0_3 l0_3.length c0_3] 39 (0, 0)) (by (with_reducible repeat (first | refine kN ?_ _ | refine kD ?_ | refine kA ?_ _)); exact BK132.out)) : gb149 ≠ gb132)); have n12_ := Aside0.mk ((by rw [hg]; exact Nat.ne_of_lt (kL (g := gb133) (o := .cells #[.int .i64 x134000_2, .int .i64 x134001_2, .slice A1_2 l1_2.length c1_2, .slice A1_3 l1_3.length c1_3] 39 (0, 0)) (by (with_reducible repeat (first | refine kN ?_ _ | refine kD ?_ | refine kA ?_ _)); exact BK133.out)) : gb133 ≠ gb149)); have n13_ := Aside0.mk ((by rw [hg]; exact Nat.ne_of_gt (kL (g := gb133) (o := .cells #[.int .i64 x134000_2, .int .i64 x134001_2, .slice A1_2 l1_2.length c1_2, .slice A1_3 l1_3.length c1_3] 39 (0, 0)) (by (with_reducible repeat (first | refine kN ?_ _ | refine kD ?_ | refine kA ?_ _)); exact BK133.out)) : gb149 ≠ gb133)); have n14_ := Aside0.mk ((by rw [hg]; exact Nat.ne_of_lt (kL (g := gb134) (o := .cells #[.int .i64 0, .int .i64 0, .slice none 0 0, .slice none 0 0] 39 (0, 0)) (by (with_reducible repeat (first | refine kN ?_ _ | refine kD ?_ | refine kA ?_ _)); exact BK134.out)) : gb134 ≠ gb149)); have n15_ := Aside0.mk ((by rw [hg]; exact Nat.ne_of_gt (kL (g := gb134) (o := .cells #[.int .i64 0, .int .i64 0, .slice none 0 0, .slice none 0 0] 39 (0, 0)) (by (with_reducible repeat (first | refine kN ?_ _ | refine kD ?_ | refine kA ?_ _)); exact BK134.out)) : gb149 ≠ gb134)); clear HO142; clear HO145; clear HO148; clear BK132; clear BK133; clear BK134; clear HB; have HO142 := n0_; have HO145 := n1_; have HO148 := n2_; have BK132 := n3_; have BK133 := n4_; have BK134 := n5_; have HB := n6_; have BK149 := n7_; have GW149 := n8_; have GE149 := n9_; have NB132_149 := n10_; have NB149_132 := n11_; have NB133_149 := n12_; have NB149_133 := n13_; have NB134_149 := n14_; have NB149_134 := n15_; clear n0_ n1_ n2_ n3_ n4_ n5_ n6_ n7_ n8_ n9_ n10_ n11_ n12_ n13_ n14_ n15_; clear hb hbox hg; have hnb34 := NB149_132.out; have hnc34 := NB132_149.out; have hnb35 := NB149_133.out; have hnc35 := NB133_149.out; have hnb36 := NB149_134.out; have hnc36 := NB134_149.out; have hcz37_0 : w33.cell? ⟨gb149, 0, none⟩ = some (.int .i64 0) := (kC BK149.out 0).trans rfl; have hcz37_1 : w33.cell? ⟨gb149, 1, none⟩ = some (.int .i64 0) := (kC BK149.out 1).trans rfl; have hcz37_2 : w33.cell? ⟨gb149, 2, none⟩ = some (.slice none 0 0) := (kC BK149.out 2).trans rfl; have hcz37_3 : w33.cell? ⟨gb149, 3, none⟩ = some (.slice none 0 0) := (kC BK149.out 3).trans rfl; have hfz37_0 := blk_frozen BK149.out 0; have hfz37_1 := blk_frozen BK149.out 1; have hfz37_2 := blk_frozen BK149.out 2; have hfz37_3 := blk_frozen BK149.out 3))
    go_loopg [6, 8] kj2 (fun kq v6 v8 w' => ∃ (x6_2 : List (List Int)) (x8_2 : Int) (x134000_2 : Int) (x134001_2 : Int) (x135000_2 : Int) (x135001_2 : Int) (x150002_2 : List Int) (x150003_2 : List (S68)) (u150002 : Value) (u150003 : Value), v8 = .int .i64 x8_2 ∧ Aside0 (spec_MeetGrammars.l0 kq x6_2 x8_2 x133000_2 x133001_2 l0_2 l0_3 x134000_2 x134001_2 l1_2 l1_3 0 0 x150002_2 x150003_2 = some (r1, r2, r3, r4, r5)) ∧ Aside0 (kq ≤ kj2) ∧ Aside0 (Kd.N (Kd.slice 2 (Kd.int .i64)) 22 w' w.heap.size (fun k_ => some k_ ≠ (u150002 : Value).ownBlock ∧ some k_ ≠ (u150003 : Value).ownBlock ∧ k_ ≠ gb132 ∧ k_ ≠ gb133 ∧ k_ ≠ gb134 ∧ k_ ≠ gb149) v6 x6_2) ∧ Aside0 (Kd.R (Kd.int .i64) 2 w' w.heap.size (fun _ => True) u150002 x150002_2) ∧ Aside0 (Kd.R k68 68 w' w.heap.size (fun _ => True) u150003 x150003_2) ∧ Aside0 (w'.heap[gb132]? = some (.cells #[.int .i64 x133000_2, .int .i64 x133001_2, (.slice A0_2 l0_2.length c0_2), (.slice A0_3 l0_3.length c0_3)] 39 (0, 0))) ∧ Aside0 (w'.heap[gb133]? = some (.cells #[.int .i64 x134000_2, .int .i64 x134001_2, (.slice A1_2 l1_2.length c1_2), (.slice A1_3 l1_3.length c1_3)] 39 (0, 0))) ∧ Aside0 (w'.heap[gb134]? = some (.cells #[.int .i64 x135000_2, .int .i64 x135001_2, (.slice none 0 0), (.slice none 0 0)] 39 (0, 0))) ∧ Aside0 (w'.heap[gb149]? = some (.cells #[.int .i64 0, .int .i64 0, u150002, u150003] 39 (0, 0))) ∧ Aside0 (Below w.heap.size w w'))
    case atStart => exact ⟨(y140), (0), (x134000_2), (x134001_2), (0), (0), (y143), (y146), (.slice Ao32 y143.length co32), (.slice Ao31 y146.length co31), (by first | rfl | (simp; done) | (simp [*]; done)), H', ⟨Nat.le_refl _⟩, ⟨by (with_reducible repeat (first | apply Kd.N_alloc | apply Kd.N_drewN | apply Kd.N_drew)); exact Kd.N_mono (Kd.N_far (p := ⟨gb149, 3, none⟩) (Kd.N_far (p := ⟨gb149, 2, none⟩) (Kd.N_far (p := ⟨gb149, 1, none⟩) (Kd.N_far (p := ⟨gb149, 0, none⟩) (Kd.N_mono HO142.out (fun k_ hk => (⟨hk, hk.2⟩ : _ ∧ k_ ≠ gb149))) (fun _ hk => hk.2) (.int .i64 0)) (fun _ hk => hk.2) (.int .i64 0)) (fun _ hk => hk.2) (.slice Ao32 y143.length co32)) (fun _ hk => hk.2) (.slice Ao31 y146.length co31)) (fun _ hk => ⟨hk.1.1.1.2, ⟨hk.1.1.2, ⟨hk.1.1.1.1.1, ⟨hk.1.1.1.1.2.1, ⟨hk.1.1.1.1.2.2, hk.1.2⟩⟩⟩⟩⟩)⟩, ⟨by (with_reducible repeat (first | apply rA | apply rN | apply rD)); exact rM (Kd.R_far (p := ⟨gb149, 3, none⟩) (Kd.R_far (p := ⟨gb149, 2, none⟩) (Kd.R_far (p := ⟨gb149, 1, none⟩) (Kd.R_far (p := ⟨gb149, 0, none⟩) (Kd.R_types HO145.out BK149.out (by decide)) (fun _ hk => hk.2) (.int .i64 0)) (fun _ hk => hk.2) (.int .i64 0)) (fun _ hk => hk.2) (.slice Ao32 y143.length co32)) (fun _ hk => hk.2) (.slice Ao31 y146.length co31)) (fun _ hk => trivial)⟩, ⟨by (with_reducible repeat (first | apply rA | apply rN | apply rD)); exact rM (Kd.R_far (p := ⟨gb149, 3, none⟩) (Kd.R_far (p := ⟨gb149, 2, none⟩) (Kd.R_far (p := ⟨gb149, 1, none⟩) (Kd.R_far (p := ⟨gb149, 0, none⟩) (Kd.R_types HO148.out BK149.out (by decide)) (fun _ hk => hk.2) (.int .i64 0)) (fun _ hk => hk.2) (.int .i64 0)) (fun _ hk => hk.2) (.slice Ao32 y143.length co32)) (fun _ hk => hk.2) (.slice Ao31 y146.length co31)) (fun _ hk => trivial)⟩, ⟨by (with_reducible repeat (first | refine kN ?_ _ | refine kD ?_ | refine kA ?_ _)); refine kF ?_ NB132_149.out _; (with_reducible repeat (first | refine kN ?_ _ | refine kD ?_ | refine kA ?_ _)); refine kF ?_ NB132_149.out _; (with_reducible repeat (first | refine kN ?_ _ | refine kD ?_ | refine kA ?_ _)); refine kF ?_ NB132_149.out _; (with_reducible repeat (first | refine kN ?_ _ | refine kD ?_ | refine kA ?_ _)); refine kF ?_ NB132_149.out _; (with_reducible repeat (first | refine kN ?_ _ | refine kD ?_ | refine kA ?_ _)); exact BK132.out⟩, ⟨by (with_reducible repeat (first | refine kN ?_ _ | refine kD ?_ | refine kA ?_ _)); refine kF ?_ NB133_149.out _; (with_reducible repeat (first | refine kN ?_ _ | refine kD ?_ | refine kA ?_ _)); refine kF ?_ NB133_149.out _; (with_reducible repeat (first | refine kN ?_ _ | refine kD ?_ | refine kA ?_ _)); refine kF ?_ NB133_149.out _; (with_reducible repeat (first | refine kN ?_ _ | refine kD ?_ | refine kA ?_ _)); refine kF ?_ NB133_149.out _; (with_reducible repeat (first | refine kN ?_ _ | refine kD ?_ | refine kA ?_ _)); exact BK133.out⟩, ⟨by (with_reducible repeat (first | refine kN ?_ _ | refine kD ?_ | refine kA ?_ _)); refine kF ?_ NB134_149.out _; (with_reducible repeat (first | refine kN ?_ _ | refine kD ?_ | refine kA ?_ _)); refine kF ?_ NB134_149.out _; (with_reducible repeat (first | refine kN ?_ _ | refine kD ?_ | refine kA ?_ _)); refine kF ?_ NB134_149.out _; (with_reducible repeat (first | refine kN ?_ _ | refine kD ?_ | refine kA ?_ _)); refine kF ?_ NB134_149.out _; (with_reducible repeat (first | refine kN ?_ _ | refine kD ?_ | refine kA ?_ _)); exact BK134.out⟩, ⟨by (with_reducible repeat (first | refine kN ?_ _ | refine kD ?_ | refine kA ?_ _)); refine blk_put (cs := #[.int .i64 0, .int .i64 0, .slice Ao32 y143.length co32, .slice none 0 0]) ?_ 3 _ rfl; (with_reducible repeat (first | refine kN ?_ _ | refine kD ?_ | refine kA ?_ _)); refine blk_put (cs := #[.int .i64 0, .int .i64 0, .slice none 0 0, .slice none 0 0]) ?_ 2 _ rfl; (with_reducible repeat (first | refine kN ?_ _ | refine kD ?_ | refine kA ?_ _)); refine blk_put (cs := #[.int .i64 0, .int .i64 0, .slice none 0 0, .slice none 0 0]) ?_ 1 _ rfl; (with_reducible repeat (first | refine kN ?_ _ | refine kD ?_ | refine kA ?_ _)); refine blk_put (cs := #[.int .i64 0, .int .i64 0, .slice none 0 0, .slice none 0 0]) ?_ 0 _ rfl; (with_reducible repeat (first | refine kN ?_ _ | refine kD ?_ | refine kA ?_ _)); exact BK149.out⟩, ⟨by repeat (first | (with_reducible first | exact HB.out | apply bA | apply bN | apply bD | refine bS ?_ GE132.out | refine bS ?_ GE133.out | refine bS ?_ GE134.out | refine bS ?_ GE149.out) | exact HB.out)⟩⟩
    case round =>
     clear H'
     try clear c1
     try clear c2
     try clear p2
     try clear c3
     try clear c8
     try clear c13
     try clear c14
     try clear c15
     try clear c16
     try clear c17
     try clear c18
     try clear c20
     try clear c34
     try clear c35
     try clear c36
     try clear hcz16_0
     try clear hcz16_1
     try clear hcz16_2
     try clear hcz16_3
     try clear hcz19_0
     try clear hcz19_1
     try clear hcz19_2
     try clear hcz19_3
     try clear hcz21_0
     try clear hcz21_1
     try clear hcz21_2
     try clear hcz21_3
     try clear hcz37_0
     try clear hcz37_1
     try clear hcz37_2
     try clear hcz37_3
     try clear hfz16_0
     try clear hfz16_1
     try clear hfz16_2
     try clear hfz16_3
     try clear hfz19_0
     try clear hfz19_1
     try clear hfz19_2
     try clear hfz19_3
     try clear hfz21_0
     try clear hfz21_1
     try clear hfz21_2
     try clear hfz21_3
     try clear hfz37_0
     try clear hfz37_1
     try clear hfz37_2
     try clear hfz37_3
     try clear p2
     obtain ⟨x6_2, x8_2, x134000_2, x134001_2, x135000_2, x135001_2, x150002_2, x150003_2, u150002, u150003, rfl, HA, HK2, HO_6, HO_150002, HO_150003, BK132, BK133, BK134, BK149, HB⟩ := hrel
     cases gk with
     | zero => exact absurd HA.out (by simp [spec_MeetGrammars.l0])
     | succ k2 =>
      have H := HA.out
      clear HA
      simp only [spec_MeetGrammars.l0] at H
      by_cases c38 : x8_2 < (x6_2.length : Int)
      ·rw [if_pos c38] at H
       have c38b0 : decide (x8_2 < (x6_2.length : Int)) = true := decide_eq_true c38
       clear c38
       by_cases c39 : 0 ≤ x8_2
       ·rw [if_pos c39] at H
        have c39b0 : decide (0 ≤ x8_2) = true := decide_eq_true c39
        clear c39
        by_cases c40 : 0 < ((rd_L3 x6_2 x8_2).length : Int)
        ·rw [if_pos c40] at H
         have c40b0 : decide (0 < ((rd_L3 x6_2 x8_2).length : Int)) = true := decide_eq_true c40
         have c40b1 : decide (0 < (rd_L3 x6_2 x8_2).length) = true := decide_eq_true (by omega)
         clear c40
         by_cases c41 : 1 < ((rd_L3 x6_2 x8_2).length : Int)
         ·rw [if_pos c41] at H
          have c41b0 : decide (1 < ((rd_L3 x6_2 x8_2).length : Int)) = true := decide_eq_true c41
          have c41b1 : decide (1 < (rd_L3 x6_2 x8_2).length) = true := decide_eq_true (by omega)
          clear c41
          have HC42 := Aside0.mk H
          clear H
          obtain ⟨Ao43, co43, eo43⟩ := Kd.N_slice HO_6.out
          subst eo43
          have p150 : 0 ≤ (x8_2 : Int) := of_decide_eq_true (by first | (with_reducible assumption) | assumption)
          have q150 : x8_2 < (x6_2.length : Int) := of_decide_eq_true (by first | (with_reducible assumption) | assumption)
          obtain ⟨ad150, A150_0, c150_0, e150, hx150_0, hl150_0, hi150_0⟩ := at_L3 (Kd.N_reads' HO_6.out).2.2 x8_2 p150 q150
          cases e150
          obtain ⟨ce150, hce150, hMe150, hcc150⟩ := Kd.N_get HO_6.out [] x8_2 p150 (by first | exact q150 | exact of_decide_eq_true (by first | (with_reducible assumption) | assumption) | (have e_ := (Kd.N_reads' HO_6.out).1; omega))
          obtain ⟨ua150_0, uc150_0, rfl, ul150_0, ge150_0⟩ := Kd.FK_slice_open hMe150
          have hv150_0 := hcc150 0 _ rfl
          rw [Nat.add_zero, show ((Kd.slice 2 (Kd.int .i64))).sz = 1 from rfl, Nat.mul_one] at hv150_0
          replace hv150_0 := Option.some.inj (hv150_0.symm.trans hx150_0)
          injection hv150_0 with hva_ hvn_ hvc_
          rw [hva_] at ge150_0
          rw [hvc_] at ul150_0
          have HL150_0 := Aside0.mk (show Kd.V (Kd.int .i64) 2 _ w.heap.size _ _ (rd_L3 x6_2 x8_2) from Kd.V_mk ul150_0 ge150_0)
          clear hva_ hvn_ hvc_ ge150_0 ul150_0
          clear hcc150 hce150
          have HR150_0 := Aside0.mk hi150_0
          have HC150_0 := Aside0.mk hl150_0
          clear hi150_0 hl150_0
          replace p150 := eq_true p150
          replace q150 := eq_true q150
          have p151 : 0 ≤ (0 : Int) := (by omega)
          have q151 : 0 < ((rd_L3 x6_2 x8_2).length : Int) := of_decide_eq_true (by first | (with_reducible assumption) | assumption)
          obtain ⟨ad151, e151, hx151_0⟩ := Kd.at_int (by repeat (first | (with_reducible exact HR150_0.out) | (with_reducible refine cA ?_ _) | (with_reducible refine cN ?_ _) | (with_reducible refine cD ?_) | exact HR150_0.out)) 0 p151 q151
          cases e151
          have qi151 : (0 < (rd_L3 x6_2 x8_2).length) = True := eq_true (by omega)
          (try rw [show ((0 : Int)).toNat = 0 from rfl] at hx151_0)
          (try rw [Addr.add_zero'] at hx151_0)
          replace p151 := eq_true p151
          replace q151 := eq_true q151
          have p152 : 0 ≤ (x8_2 : Int) := of_decide_eq_true (by first | (with_reducible assumption) | assumption)
          have q152 : x8_2 < (x6_2.length : Int) := of_decide_eq_true (by first | (with_reducible assumption) | assumption)
          obtain ⟨ad152, A152_0, c152_0, e152, hx152_0, hl152_0, hi152_0⟩ := at_L3 (Kd.N_reads' HO_6.out).2.2 x8_2 p152 q152
          obtain rfl : ad150 = ad152 := (by injection e152)
          obtain ⟨ce152, hce152, hMe152, hcc152⟩ := Kd.N_get HO_6.out [] x8_2 p152 (by first | exact q152 | exact of_decide_eq_true (by first | (with_reducible assumption) | assumption) | (have e_ := (Kd.N_reads' HO_6.out).1; omega))
          obtain ⟨ua152_0, uc152_0, rfl, ul152_0, ge152_0⟩ := Kd.FK_slice_open hMe152
          have hv152_0 := hcc152 0 _ rfl
          rw [Nat.add_zero, show ((Kd.slice 2 (Kd.int .i64))).sz = 1 from rfl, Nat.mul_one] at hv152_0
          replace hv152_0 := Option.some.inj (hv152_0.symm.trans hx152_0)
          injection hv152_0 with hva_ hvn_ hvc_
          rw [hva_] at ge152_0
          rw [hvc_] at ul152_0
          have HL152_0 := Aside0.mk (show Kd.V (Kd.int .i64) 2 _ w.heap.size _ _ (rd_L3 x6_2 x8_2) from Kd.V_mk ul152_0 ge152_0)
          clear hva_ hvn_ hvc_ ge152_0 ul152_0
          clear hcc152 hce152
          have HR152_0 := Aside0.mk hi152_0
          have HC152_0 := Aside0.mk hl152_0
          clear hi152_0 hl152_0
          replace p152 := eq_true p152
          replace q152 := eq_true q152
          have ea_ := Option.some.inj (hx150_0.symm.trans hx152_0)
          injection ea_ with ea_ en_ ec_
          subst ea_
          subst ec_
          clear en_
          have p153 : 0 ≤ (1 : Int) := (by omega)
          have q153 : 1 < ((rd_L3 x6_2 x8_2).length : Int) := of_decide_eq_true (by first | (with_reducible assumption) | assumption)
          obtain ⟨ad153, e153, hx153_0⟩ := Kd.at_int (by repeat (first | (with_reducible exact HR152_0.out) | (with_reducible refine cA ?_ _) | (with_reducible refine cN ?_ _) | (with_reducible refine cD ?_) | exact HR152_0.out)) 1 p153 q153
          cases e153
          (try simp only [show (1 : Int).toNat = 1 from rfl, Nat.reduceMul, Nat.reduceEqDiff, Go.Addr.add, ↓reduceIte] at hx153_0)
          have qi153 : (1 < (rd_L3 x6_2 x8_2).length) = True := eq_true (by omega)
          (try rw [show ((1 : Int)).toNat = 1 from rfl] at hx153_0)
          replace p153 := eq_true p153
          replace q153 := eq_true q153
          go_upto_region 10 with (fail)
          go_cut [57] (fun v57 wc => ∃ (kq : Nat) (x57_41 : Bool), v57 = .bool x57_41 ∧ Aside0 (spec_MeetGrammars.j2 kq x6_2 x8_2 (rd (rd_L3 x6_2 x8_2) 0) (rd (rd_L3 x6_2 x8_2) 1) x57_41 x133000_2 x133001_2 l0_2 l0_3 x134000_2 x134001_2 l1_2 l1_3 0 0 x150002_2 x150003_2 = some (r1, r2, r3, r4, r5)) ∧ Aside0 (kq ≤ k2) ∧ Aside0 (Kd.N (Kd.slice 2 (Kd.int .i64)) 22 wc w.heap.size (fun k_ => some k_ ≠ (u150002 : Value).ownBlock ∧ some k_ ≠ (u150003 : Value).ownBlock ∧ k_ ≠ gb132 ∧ k_ ≠ gb133 ∧ k_ ≠ gb134 ∧ k_ ≠ gb149) (.slice (some ad150) x6_2.length co43) x6_2) ∧ Aside0 (Kd.R (Kd.int .i64) 2 wc w.heap.size (fun _ => True) u150002 x150002_2) ∧ Aside0 (Kd.R k68 68 wc w.heap.size (fun _ => True) u150003 x150003_2) ∧ Aside0 (wc.heap[gb132]? = some (.cells #[.int .i64 x133000_2, .int .i64 x133001_2, (.slice A0_2 l0_2.length c0_2), (.slice A0_3 l0_3.length c0_3)] 39 (0, 0))) ∧ Aside0 (wc.heap[gb133]? = some (.cells #[.int .i64 x134000_2, .int .i64 x134001_2, (.slice A1_2 l1_2.length c1_2), (.slice A1_3 l1_3.length c1_3)] 39 (0, 0))) ∧ Aside0 (wc.heap[gb134]? = some (.cells #[.int .i64 x135000_2, .int .i64 x135001_2, (.slice none 0 0), (.slice none 0 0)] 39 (0, 0))) ∧ Aside0 (wc.heap[gb149]? = some (.cells #[.int .i64 0, .int .i64 0, u150002, u150003] 39 (0, 0))) ∧ Aside0 (Kd.C (Kd.int .i64) wc (some ad151) (rd_L3 x6_2 x8_2).length (rd_L3 x6_2 x8_2)) ∧ Aside0 (Kd.C (Kd.int .i64) wc (some ad151) (rd_L3 x6_2 x8_2).length (rd_L3 x6_2 x8_2)) ∧ Aside0 (Below w.heap.size w wc))
          case first =>
           have H := HC42.out
           clear HC42
           replace H := Option.bind_eq_some_iff.mp H
           obtain ⟨t154, A440, H⟩ := H
           replace H : (if t154 = true then ((spec_l00Has.f k2 l1_2 (rd (rd_L3 x6_2 x8_2) 1)).bind fun t155 => (spec_MeetGrammars.j2 k2 x6_2 x8_2 (rd (rd_L3 x6_2 x8_2) 0) (rd (rd_L3 x6_2 x8_2) 1) t155 x133000_2 x133001_2 l0_2 l0_3 x134000_2 x134001_2 l1_2 l1_3 0 0 x150002_2 x150003_2)) else (spec_MeetGrammars.j2 k2 x6_2 x8_2 (rd (rd_L3 x6_2 x8_2) 0) (rd (rd_L3 x6_2 x8_2) 1) false x133000_2 x133001_2 l0_2 l0_3 x134000_2 x134001_2 l1_2 l1_3 0 0 x150002_2 x150003_2)) = some (r1, r2, r3, r4, r5) := H
           have A44 := Aside0.mk A440
           clear A440
           by_cases c45 : t154 = true
           ·subst c45
            have H1 : ((spec_l00Has.f k2 l1_2 (rd (rd_L3 x6_2 x8_2) 1)).bind fun t155 => (spec_MeetGrammars.j2 k2 x6_2 x8_2 (rd (rd_L3 x6_2 x8_2) 0) (rd (rd_L3 x6_2 x8_2) 1) t155 x133000_2 x133001_2 l0_2 l0_3 x134000_2 x134001_2 l1_2 l1_3 0 0 x150002_2 x150003_2)) = some (r1, r2, r3, r4, r5) := by rw [if_pos rfl] at H; exact H
            clear H
            have H := H1
            clear H1
            replace H := Option.bind_eq_some_iff.mp H
            obtain ⟨t155, A460, H⟩ := H
            replace H : (spec_MeetGrammars.j2 k2 x6_2 x8_2 (rd (rd_L3 x6_2 x8_2) 0) (rd (rd_L3 x6_2 x8_2) 1) t155 x133000_2 x133001_2 l0_2 l0_3 x134000_2 x134001_2 l1_2 l1_3 0 0 x150002_2 x150003_2) = some (r1, r2, r3, r4, r5) := H
            have A46 := Aside0.mk A460
            clear A460
            have H' := Aside0.mk H
            clear H
            have hnb47 := NB132_133.out
            have hnc47 := NB133_132.out
            have hnb48 := NB132_134.out
            have hnc48 := NB134_132.out
            have hnb49 := NB132_149.out
            have hnc49 := NB149_132.out
            have hcz50_0 : wr.cell? ⟨gb132, 0, none⟩ = some (.int .i64 x133000_2) := (kC BK132.out 0).trans rfl
            have hcz50_1 : wr.cell? ⟨gb132, 1, none⟩ = some (.int .i64 x133001_2) := (kC BK132.out 1).trans rfl
            have hcz50_2 : wr.cell? ⟨gb132, 2, none⟩ = some (.slice A0_2 l0_2.length c0_2) := (kC BK132.out 2).trans rfl
            have hcz50_3 : wr.cell? ⟨gb132, 3, none⟩ = some (.slice A0_3 l0_3.length c0_3) := (kC BK132.out 3).trans rfl
            have hfz50_0 := blk_frozen BK132.out 0
            have hfz50_1 := blk_frozen BK132.out 1
            have hfz50_2 := blk_frozen BK132.out 2
            have hfz50_3 := blk_frozen BK132.out 3
            go_wp2_with (first | ((with_reducible refine gC (f := 37) rfl ?_); refine goesL_ (some 51) rfl rfl Try.func37 (by kernel_rfl) rfl #[.slice A0_2 l0_2.length c0_2, .int .i64 (rd (rd_L3 x6_2 x8_2) 0)] rfl (by (try simp only [List.map_toArray, List.map_cons, List.map_nil]); first | done | rfl | (simp only [List.length_drop, List.length_take]; rfl)) ?_; (with_reducible refine (spec_l00Has.calls k2 _ _ l0_2 (rd (rd_L3 x6_2 x8_2) 0) true _ ?side1 ?side2 A44.out).mono ?_); (case side1 => repeat (first | exact (cB HR0_2.out HB.out) | (with_reducible refine cA ?_ _) | (with_reducible refine cN ?_ _) | (with_reducible refine cD ?_))); (case side2 => exact HC0_2.out); rintro e w' ⟨rfl, ⟨nd, rfl⟩⟩; refine ⟨_, rfl, ?_⟩; have hnb51 := NB133_134.out; have hnc51 := NB134_133.out; have hnb52 := NB133_149.out; have hnc52 := NB149_133.out; have hcz53_0 : wr.cell? ⟨gb133, 0, none⟩ = some (.int .i64 x134000_2) := (kC BK133.out 0).trans rfl; have hcz53_1 : wr.cell? ⟨gb133, 1, none⟩ = some (.int .i64 x134001_2) := (kC BK133.out 1).trans rfl; have hcz53_2 : wr.cell? ⟨gb133, 2, none⟩ = some (.slice A1_2 l1_2.length c1_2) := (kC BK133.out 2).trans rfl; have hcz53_3 : wr.cell? ⟨gb133, 3, none⟩ = some (.slice A1_3 l1_3.length c1_3) := (kC BK133.out 3).trans rfl; have hfz53_0 := blk_frozen BK133.out 0; have hfz53_1 := blk_frozen BK133.out 1; have hfz53_2 := blk_frozen BK133.out 2; have hfz53_3 := blk_frozen BK133.out 3) | (go_at_call 37; (with_reducible refine (spec_l00Has.calls k2 _ _ l1_2 (rd (rd_L3 x6_2 x8_2) 1) t155 _ ?side1 ?side2 A46.out).mono ?_); (case side1 => repeat (first | exact (cB HR1_2.out (by repeat (first | (with_reducible first | exact HB.out | apply bA | apply bN | apply bD | refine bS ?_ GE132.out | refine bS ?_ GE133.out | refine bS ?_ GE134.out | refine bS ?_ GE149.out) | exact HB.out))) | (with_reducible refine cA ?_ _) | (with_reducible refine cN ?_ _) | (with_reducible refine cD ?_))); (case side2 => exact HC1_2.out); rintro e w' ⟨rfl, ⟨nd, rfl⟩⟩))
            go_meet
            case rel => exact ⟨_, (t155), (by first | rfl | (simp; done) | (simp [*]; done)), H', ⟨by have := HJ2.out; have := HK2.out; first | omega | exact Nat.le_refl _⟩, ⟨by (with_reducible repeat (first | apply Kd.N_alloc | apply Kd.N_drewN | apply Kd.N_drew)); exact HO_6.out⟩, ⟨by (with_reducible repeat (first | apply rA | apply rN | apply rD)); exact HO_150002.out⟩, ⟨by (with_reducible repeat (first | apply rA | apply rN | apply rD)); exact HO_150003.out⟩, ⟨by (with_reducible repeat (first | refine kN ?_ _ | refine kD ?_ | refine kA ?_ _)); exact BK132.out⟩, ⟨by (with_reducible repeat (first | refine kN ?_ _ | refine kD ?_ | refine kA ?_ _)); exact BK133.out⟩, ⟨by (with_reducible repeat (first | refine kN ?_ _ | refine kD ?_ | refine kA ?_ _)); exact BK134.out⟩, ⟨by (with_reducible repeat (first | refine kN ?_ _ | refine kD ?_ | refine kA ?_ _)); exact BK149.out⟩, ⟨by repeat (first | (with_reducible exact HR150_0.out) | (with_reducible refine cA ?_ _) | (with_reducible refine cN ?_ _) | (with_reducible refine cD ?_) | exact HR150_0.out)⟩, ⟨by repeat (first | (with_reducible exact HR152_0.out) | (with_reducible refine cA ?_ _) | (with_reducible refine cN ?_ _) | (with_reducible refine cD ?_) | exact HR152_0.out)⟩, ⟨by repeat (first | (with_reducible first | exact HB.out | apply bA | apply bN | apply bD | refine bS ?_ GE132.out | refine bS ?_ GE133.out | refine bS ?_ GE134.out | refine bS ?_ GE149.out) | exact HB.out)⟩⟩
           ·replace c45 := Bool.eq_false_iff.mpr c45
            subst c45
            have H1 : (spec_MeetGrammars.j2 k2 x6_2 x8_2 (rd (rd_L3 x6_2 x8_2) 0) (rd (rd_L3 x6_2 x8_2) 1) false x133000_2 x133001_2 l0_2 l0_3 x134000_2 x134001_2 l1_2 l1_3 0 0 x150002_2 x150003_2) = some (r1, r2, r3, r4, r5) := by rw [if_neg (show ¬ (false = true) by decide)] at H; exact H
            clear H
            have H := H1
            clear H1
            have H' := Aside0.mk H
            clear H
            have hnb54 := NB132_133.out
            have hnc54 := NB133_132.out
            have hnb55 := NB132_134.out
            have hnc55 := NB134_132.out
            have hnb56 := NB132_149.out
            have hnc56 := NB149_132.out
            have hcz57_0 : wr.cell? ⟨gb132, 0, none⟩ = some (.int .i64 x133000_2) := (kC BK132.out 0).trans rfl
            have hcz57_1 : wr.cell? ⟨gb132, 1, none⟩ = some (.int .i64 x133001_2) := (kC BK132.out 1).trans rfl
            have hcz57_2 : wr.cell? ⟨gb132, 2, none⟩ = some (.slice A0_2 l0_2.length c0_2) := (kC BK132.out 2).trans rfl
            have hcz57_3 : wr.cell? ⟨gb132, 3, none⟩ = some (.slice A0_3 l0_3.length c0_3) := (kC BK132.out 3).trans rfl
            have hfz57_0 := blk_frozen BK132.out 0
            have hfz57_1 := blk_frozen BK132.out 1
            have hfz57_2 := blk_frozen BK132.out 2
            have hfz57_3 := blk_frozen BK132.out 3
            go_wp2_with (first | ((with_reducible refine gC (f := 37) rfl ?_); refine goesL_ (some 51) rfl rfl Try.func37 (by kernel_rfl) rfl #[.slice A0_2 l0_2.length c0_2, .int .i64 (rd (rd_L3 x6_2 x8_2) 0)] rfl (by (try simp only [List.map_toArray, List.map_cons, List.map_nil]); first | done | rfl | (simp only [List.length_drop, List.length_take]; rfl)) ?_; (with_reducible refine (spec_l00Has.calls k2 _ _ l0_2 (rd (rd_L3 x6_2 x8_2) 0) false _ ?side1 ?side2 A44.out).mono ?_); (case side1 => repeat (first | exact (cB HR0_2.out HB.out) | (with_reducible refine cA ?_ _) | (with_reducible refine cN ?_ _) | (with_reducible refine cD ?_))); (case side2 => exact HC0_2.out); rintro e w' ⟨rfl, ⟨nd, rfl⟩⟩; refine ⟨_, rfl, ?_⟩))
            go_meet
            case rel => exact ⟨_, (false), (by first | rfl | (simp; done) | (simp [*]; done)), H', ⟨by have := HJ2.out; have := HK2.out; first | omega | exact Nat.le_refl _⟩, ⟨by (with_reducible repeat (first | apply Kd.N_alloc | apply Kd.N_drewN | apply Kd.N_drew)); exact HO_6.out⟩, ⟨by (with_reducible repeat (first | apply rA | apply rN | apply rD)); exact HO_150002.out⟩, ⟨by (with_reducible repeat (first | apply rA | apply rN | apply rD)); exact HO_150003.out⟩, ⟨by (with_reducible repeat (first | refine kN ?_ _ | refine kD ?_ | refine kA ?_ _)); exact BK132.out⟩, ⟨by (with_reducible repeat (first | refine kN ?_ _ | refine kD ?_ | refine kA ?_ _)); exact BK133.out⟩, ⟨by (with_reducible repeat (first | refine kN ?_ _ | refine kD ?_ | refine kA ?_ _)); exact BK134.out⟩, ⟨by (with_reducible repeat (first | refine kN ?_ _ | refine kD ?_ | refine kA ?_ _)); exact BK149.out⟩, ⟨by repeat (first | (with_reducible exact HR150_0.out) | (with_reducible refine cA ?_ _) | (with_reducible refine cN ?_ _) | (with_reducible refine cD ?_) | exact HR150_0.out)⟩, ⟨by repeat (first | (with_reducible exact HR152_0.out) | (with_reducible refine cA ?_ _) | (with_reducible refine cN ?_ _) | (with_reducible refine cD ?_) | exact HR152_0.out)⟩, ⟨by repeat (first | (with_reducible first | exact HB.out | apply bA | apply bN | apply bD | refine bS ?_ GE132.out | refine bS ?_ GE133.out | refine bS ?_ GE134.out | refine bS ?_ GE149.out) | exact HB.out)⟩⟩
          case rest =>
           clear HC42
           try clear c1
           try clear p1
           try clear q1
           try clear hx1
           try clear qi1
           try clear c2
           try clear p2
           try clear c3
           try clear c4
           try clear c5
           try clear c8
           try clear c13
           try clear c14
           try clear c15
           try clear p15
           try clear q15
           try clear hx15
           try clear qi15
           try clear c16
           try clear c17
           try clear c18
           try clear c20
           try clear c34
           try clear c35
           try clear c36
           try clear c37
           try clear c38
           try clear c38b0
           try clear c39
           try clear c39b0
           try clear c40
           try clear c40b0
           try clear c40b1
           try clear c41
           try clear c41b0
           try clear c41b1
           try clear c45
           try clear c47
           try clear c48
           try clear c49
           try clear c51
           try clear c52
           try clear c54
           try clear c55
           try clear c56
           try clear hcz16_0
           try clear hcz16_1
           try clear hcz16_2
           try clear hcz16_3
           try clear hcz19_0
           try clear hcz19_1
           try clear hcz19_2
           try clear hcz19_3
           try clear hcz21_0
           try clear hcz21_1
           try clear hcz21_2
           try clear hcz21_3
           try clear hcz37_0
           try clear hcz37_1
           try clear hcz37_2
           try clear hcz37_3
           try clear hcz50_0
           try clear hcz50_1
           try clear hcz50_2
           try clear hcz50_3
           try clear hcz53_0
           try clear hcz53_1
           try clear hcz53_2
           try clear hcz53_3
           try clear hcz57_0
           try clear hcz57_1
           try clear hcz57_2
           try clear hcz57_3
           try clear hfz16_0
           try clear hfz16_1
           try clear hfz16_2
           try clear hfz16_3
           try clear hfz19_0
           try clear hfz19_1
           try clear hfz19_2
           try clear hfz19_3
           try clear hfz21_0
           try clear hfz21_1
           try clear hfz21_2
           try clear hfz21_3
           try clear hfz37_0
           try clear hfz37_1
           try clear hfz37_2
           try clear hfz37_3
           try clear hfz50_0
           try clear hfz50_1
           try clear hfz50_2
           try clear hfz50_3
           try clear hfz53_0
           try clear hfz53_1
           try clear hfz53_2
           try clear hfz53_3
           try clear hfz57_0
           try clear hfz57_1
           try clear hfz57_2
           try clear hfz57_3
           try clear hx150_0
           try clear hx151_0
           try clear hx152_0
           try clear hx153_0
           try clear p150
           try clear p151
           try clear p152
           try clear p153
           try clear p2
           try clear q150
           try clear q151
           try clear q152
           try clear q153
           obtain ⟨kq, x57_41, rfl, HA, HJ41, HO_6, HO_150002, HO_150003, BK132, BK133, BK134, BK149, HR150_0, HR152_0, HB⟩ := hcut
           cases kq with
           | zero => exact absurd HA.out (by simp [spec_MeetGrammars.j2])
           | succ kj41 =>
            have H := HA.out
            clear HA
            simp only [spec_MeetGrammars.j2] at H
            have HC58 := Aside0.mk H
            clear H
            go_upto_if 57 with (fail)
            go_cut [] (fun wc => ∃ (kq : Nat) (x150002_57 : List Int) (u150002 : Value), Aside0 (spec_MeetGrammars.j3 kq x6_2 x8_2 (rd (rd_L3 x6_2 x8_2) 0) (rd (rd_L3 x6_2 x8_2) 1) x133000_2 x133001_2 l0_2 l0_3 x134000_2 x134001_2 l1_2 l1_3 0 0 x150002_57 x150003_2 = some (r1, r2, r3, r4, r5)) ∧ Aside0 (kq ≤ kj41) ∧ Aside0 (Kd.N (Kd.slice 2 (Kd.int .i64)) 22 wc w.heap.size (fun k_ => some k_ ≠ (u150002 : Value).ownBlock ∧ some k_ ≠ (u150003 : Value).ownBlock ∧ k_ ≠ gb132 ∧ k_ ≠ gb133 ∧ k_ ≠ gb134 ∧ k_ ≠ gb149) (.slice (some ad150) x6_2.length co43) x6_2) ∧ Aside0 (Kd.R (Kd.int .i64) 2 wc w.heap.size (fun _ => True) u150002 x150002_57) ∧ Aside0 (Kd.R k68 68 wc w.heap.size (fun _ => True) u150003 x150003_2) ∧ Aside0 (wc.heap[gb132]? = some (.cells #[.int .i64 x133000_2, .int .i64 x133001_2, (.slice A0_2 l0_2.length c0_2), (.slice A0_3 l0_3.length c0_3)] 39 (0, 0))) ∧ Aside0 (wc.heap[gb133]? = some (.cells #[.int .i64 x134000_2, .int .i64 x134001_2, (.slice A1_2 l1_2.length c1_2), (.slice A1_3 l1_3.length c1_3)] 39 (0, 0))) ∧ Aside0 (wc.heap[gb134]? = some (.cells #[.int .i64 x135000_2, .int .i64 x135001_2, (.slice none 0 0), (.slice none 0 0)] 39 (0, 0))) ∧ Aside0 (wc.heap[gb149]? = some (.cells #[.int .i64 0, .int .i64 0, u150002, u150003] 39 (0, 0))) ∧ Aside0 (Below w.heap.size w wc))
            case first =>
             have H := HC58.out
             clear HC58
             by_cases c59 : x57_41 = true
             ·subst c59
              have H1 : (if x150002_2.length < 17592186044416 then (spec_MeetGrammars.j3 kj41 x6_2 x8_2 (rd (rd_L3 x6_2 x8_2) 0) (rd (rd_L3 x6_2 x8_2) 1) x133000_2 x133001_2 l0_2 l0_3 x134000_2 x134001_2 l1_2 l1_3 0 0 (x150002_2 ++ [x8_2]) x150003_2) else (none)) = some (r1, r2, r3, r4, r5) := by rw [if_pos rfl] at H; exact H
              clear H
              have H := H1
              clear H1
              by_cases c60 : x150002_2.length < 17592186044416
              ·rw [if_pos c60] at H
               have LMc60 := Aside0.mk c60
               clear c60
               obtain ⟨y156, hy156⟩ : ∃ y_ : List Int, y_ = (x150002_2 ++ [x8_2]) := ⟨_, rfl⟩
               replace H : (spec_MeetGrammars.j3 kj41 x6_2 x8_2 (rd (rd_L3 x6_2 x8_2) 0) (rd (rd_L3 x6_2 x8_2) 1) x133000_2 x133001_2 l0_2 l0_3 x134000_2 x134001_2 l1_2 l1_3 0 0 y156 x150003_2) = some (r1, r2, r3, r4, r5) := by first | (rw [hy156]; with_reducible exact H) | (have H2_ := (Option.bind_some _ _).symm.trans H; rw [hy156]; with_reducible exact H2_) | (have H2_ := (Option.bind_some _ _).symm.trans H; with_reducible exact H2_) | with_reducible exact H | (rw [hy156]; exact H) | exact H
               have Ny156 := Aside0.mk hy156
               clear hy156
               have H' := Aside0.mk H
               clear H
               have hnb61 := NB149_132.out
               have hnc61 := NB132_149.out
               have hnb62 := NB149_133.out
               have hnc62 := NB133_149.out
               have hnb63 := NB149_134.out
               have hnc63 := NB134_149.out
               have hcz64_0 : wc.cell? ⟨gb149, 0, none⟩ = some (.int .i64 0) := (kC BK149.out 0).trans rfl
               have hcz64_1 : wc.cell? ⟨gb149, 1, none⟩ = some (.int .i64 0) := (kC BK149.out 1).trans rfl
               have hcz64_2 : wc.cell? ⟨gb149, 2, none⟩ = some (u150002) := (kC BK149.out 2).trans rfl
               have hcz64_3 : wc.cell? ⟨gb149, 3, none⟩ = some (u150003) := (kC BK149.out 3).trans rfl
               have hfz64_0 := blk_frozen BK149.out 0
               have hfz64_1 := blk_frozen BK149.out 1
               have hfz64_2 := blk_frozen BK149.out 2
               have hfz64_3 := blk_frozen BK149.out 3
               go_wp2_with (first | ((with_reducible refine gate_builtin (b := .append) (xs := #[.tmp 59, .tmp 61]) rfl ?_); (try (refine gate_guard (by rfl) ?_; dsimp only)); at_builtin; refine Kd.R_append (Kd.int .i64) (w0 := w) w.heap.size rfl (.tmp 59) (.tmp 61) 22 2 (.int .i64 0) 8 rfl Try.underlying22 info2 rfl (by decide) (by omega) u150002 x150002_2 x8_2 [.int .i64 x8_2] (fun _ => True) (fun _ => False) rfl rfl ?aP (fun _ hk => hk.elim) ?aF ?aO ?aB ?aS ?aL ?_; (case aP => exact rfl); (case aB => exact (by repeat (first | (with_reducible first | exact HB.out | apply bA | apply bN | apply bD | refine bS ?_ GE132.out | refine bS ?_ GE133.out | refine bS ?_ GE134.out | refine bS ?_ GE149.out) | exact HB.out))); (case aF => exact (fun _ _ => trivial)); (case aO => exact (by (with_reducible repeat (first | apply rA | apply rN | apply rD)); exact HO_150002.out)); (case aS => exact (bZ (by repeat (first | (with_reducible first | exact HB.out | apply bA | apply bN | apply bD | refine bS ?_ GE132.out | refine bS ?_ GE133.out | refine bS ?_ GE134.out | refine bS ?_ GE149.out) | exact HB.out)))); (case aL => have := LMc60.out; omega); intro v157 w65 ho hb hg hat; rw [← Ny156.out] at ho; have n0_ := Aside0.mk (Kd.N_afterv (ok := (fun k_ => some k_ ≠ (u150003 : Value).ownBlock ∧ k_ ≠ gb132 ∧ k_ ≠ gb133 ∧ k_ ≠ gb134 ∧ k_ ≠ gb149)) (by (with_reducible repeat (first | apply Kd.N_alloc | apply Kd.N_drewN | apply Kd.N_drew)); exact Kd.N_mono HO_6.out (fun _ hk => ⟨⟨hk.2.1, ⟨hk.2.2.1, ⟨hk.2.2.2.1, ⟨hk.2.2.2.2.1, hk.2.2.2.2.2⟩⟩⟩⟩, hk.1⟩)) hg hat); have n1_ := Aside0.mk (Kd.R_over' (by (with_reducible repeat (first | apply rA | apply rN | apply rD)); exact HO_150003.out) (Kd.R_typed (by (with_reducible repeat (first | apply rA | apply rN | apply rD)); exact HO_150002.out)) (by decide) hg); have n2_ := Aside0.mk (blk_grown (g := gb132) (o := .cells #[.int .i64 x133000_2, .int .i64 x133001_2, .slice A0_2 l0_2.length c0_2, .slice A0_3 l0_3.length c0_3] 39 (0, 0)) (by (with_reducible repeat (first | refine kN ?_ _ | refine kD ?_ | refine kA ?_ _)); exact BK132.out) hg (Kd.R_ne HO_150002.out BK132.out (by decide))); have n3_ := Aside0.mk (blk_grown (g := gb133) (o := .cells #[.int .i64 x134000_2, .int .i64 x134001_2, .slice A1_2 l1_2.length c1_2, .slice A1_3 l1_3.length c1_3] 39 (0, 0)) (by (with_reducible repeat (first | refine kN ?_ _ | refine kD ?_ | refine kA ?_ _)); exact BK133.out) hg (Kd.R_ne HO_150002.out BK133.out (by decide))); have n4_ := Aside0.mk (blk_grown (g := gb134) (o := .cells #[.int .i64 x135000_2, .int .i64 x135001_2, .slice none 0 0, .slice none 0 0] 39 (0, 0)) (by (with_reducible repeat (first | refine kN ?_ _ | refine kD ?_ | refine kA ?_ _)); exact BK134.out) hg (Kd.R_ne HO_150002.out BK134.out (by decide))); have n5_ := Aside0.mk (blk_grown (g := gb149) (o := .cells #[.int .i64 0, .int .i64 0, u150002, u150003] 39 (0, 0)) (by (with_reducible repeat (first | refine kN ?_ _ | refine kD ?_ | refine kA ?_ _)); exact BK149.out) hg (Kd.R_ne HO_150002.out BK149.out (by decide))); have n6_ := Aside0.mk (hb); have n7_ := Aside0.mk (ho); clear HO_6; clear HO_150003; clear BK132; clear BK133; clear BK134; clear BK149; clear HB; clear HO_150002; have HO_6 := n0_; have HO_150003 := n1_; have BK132 := n2_; have BK133 := n3_; have BK134 := n4_; have BK149 := n5_; have HB := n6_; have HO158 := n7_; clear n0_ n1_ n2_ n3_ n4_ n5_ n6_ n7_; clear ho hb hg hat; obtain ⟨Ao66, co66, eo66⟩ := Kd.R_slice HO158.out; subst eo66; have hcz67_0 : w65.cell? ⟨gb149, 0, none⟩ = some (.int .i64 0) := (kC BK149.out 0).trans rfl; have hcz67_1 : w65.cell? ⟨gb149, 1, none⟩ = some (.int .i64 0) := (kC BK149.out 1).trans rfl; have hcz67_2 : w65.cell? ⟨gb149, 2, none⟩ = some (u150002) := (kC BK149.out 2).trans rfl; have hcz67_3 : w65.cell? ⟨gb149, 3, none⟩ = some (u150003) := (kC BK149.out 3).trans rfl; have hfz67_0 := blk_frozen BK149.out 0; have hfz67_1 := blk_frozen BK149.out 1; have hfz67_2 := blk_frozen BK149.out 2; have hfz67_3 := blk_frozen BK149.out 3))
               go_meet
               case rel => exact ⟨_, (y156), (.slice Ao66 y156.length co66), H', ⟨by have := HJ2.out; have := HK2.out; have := HJ41.out; first | omega | exact Nat.le_refl _⟩, ⟨by (with_reducible repeat (first | apply Kd.N_alloc | apply Kd.N_drewN | apply Kd.N_drew)); exact Kd.N_mono (Kd.N_far (p := ⟨gb149, 2, none⟩) (Kd.N_mono HO_6.out (fun k_ hk => (⟨hk, hk.1.2.2.2.2⟩ : _ ∧ k_ ≠ gb149))) (fun _ hk => hk.2) (.slice Ao66 y156.length co66)) (fun _ hk => ⟨hk.1.2, ⟨hk.1.1.1, ⟨hk.1.1.2.1, ⟨hk.1.1.2.2.1, ⟨hk.1.1.2.2.2.1, hk.1.1.2.2.2.2⟩⟩⟩⟩⟩)⟩, ⟨by (with_reducible repeat (first | apply rA | apply rN | apply rD)); exact rM (Kd.R_far (p := ⟨gb149, 2, none⟩) (Kd.R_types HO158.out BK149.out (by decide)) (fun _ hk => hk.2) (.slice Ao66 y156.length co66)) (fun _ hk => trivial)⟩, ⟨by (with_reducible repeat (first | apply rA | apply rN | apply rD)); exact rM (Kd.R_far (p := ⟨gb149, 2, none⟩) (Kd.R_types HO_150003.out BK149.out (by decide)) (fun _ hk => hk.2) (.slice Ao66 y156.length co66)) (fun _ hk => trivial)⟩, ⟨by (with_reducible repeat (first | refine kN ?_ _ | refine kD ?_ | refine kA ?_ _)); refine kF ?_ NB132_149.out _; (with_reducible repeat (first | refine kN ?_ _ | refine kD ?_ | refine kA ?_ _)); exact BK132.out⟩, ⟨by (with_reducible repeat (first | refine kN ?_ _ | refine kD ?_ | refine kA ?_ _)); refine kF ?_ NB133_149.out _; (with_reducible repeat (first | refine kN ?_ _ | refine kD ?_ | refine kA ?_ _)); exact BK133.out⟩, ⟨by (with_reducible repeat (first | refine kN ?_ _ | refine kD ?_ | refine kA ?_ _)); refine kF ?_ NB134_149.out _; (with_reducible repeat (first | refine kN ?_ _ | refine kD ?_ | refine kA ?_ _)); exact BK134.out⟩, ⟨by (with_reducible repeat (first | refine kN ?_ _ | refine kD ?_ | refine kA ?_ _)); refine blk_put (cs := #[.int .i64 0, .int .i64 0, u150002, u150003]) ?_ 2 _ rfl; (with_reducible repeat (first | refine kN ?_ _ | refine kD ?_ | refine kA ?_ _)); exact BK149.out⟩, ⟨by repeat (first | (with_reducible first | exact HB.out | apply bA | apply bN | apply bD | refine bS ?_ GE132.out | refine bS ?_ GE133.out | refine bS ?_ GE134.out | refine bS ?_ GE149.out) | exact HB.out)⟩⟩
              ·rw [if_neg c60] at H
               exact absurd H (by simp)
             ·replace c59 := Bool.eq_false_iff.mpr c59
              subst c59
              have H1 : (spec_MeetGrammars.j3 kj41 x6_2 x8_2 (rd (rd_L3 x6_2 x8_2) 0) (rd (rd_L3 x6_2 x8_2) 1) x133000_2 x133001_2 l0_2 l0_3 x134000_2 x134001_2 l1_2 l1_3 0 0 x150002_2 x150003_2) = some (r1, r2, r3, r4, r5) := by rw [if_neg (show ¬ (false = true) by decide)] at H; exact H
              clear H
              have H := H1
              clear H1
              have H' := Aside0.mk H
              clear H
              go_wp2
              go_meet
              case rel => exact ⟨_, (x150002_2), (u150002), H', ⟨by have := HJ2.out; have := HK2.out; have := HJ41.out; first | omega | exact Nat.le_refl _⟩, ⟨by (with_reducible repeat (first | apply Kd.N_alloc | apply Kd.N_drewN | apply Kd.N_drew)); exact HO_6.out⟩, ⟨by (with_reducible repeat (first | apply rA | apply rN | apply rD)); exact HO_150002.out⟩, ⟨by (with_reducible repeat (first | apply rA | apply rN | apply rD)); exact HO_150003.out⟩, ⟨by (with_reducible repeat (first | refine kN ?_ _ | refine kD ?_ | refine kA ?_ _)); exact BK132.out⟩, ⟨by (with_reducible repeat (first | refine kN ?_ _ | refine kD ?_ | refine kA ?_ _)); exact BK133.out⟩, ⟨by (with_reducible repeat (first | refine kN ?_ _ | refine kD ?_ | refine kA ?_ _)); exact BK134.out⟩, ⟨by (with_reducible repeat (first | refine kN ?_ _ | refine kD ?_ | refine kA ?_ _)); exact BK149.out⟩, ⟨by repeat (first | (with_reducible first | exact HB.out | apply bA | apply bN | apply bD | refine bS ?_ GE132.out | refine bS ?_ GE133.out | refine bS ?_ GE134.out | refine bS ?_ GE149.out) | exact HB.out)⟩⟩
            case rest =>
             clear HC58
             try clear c1
             try clear p1
             try clear q1
             try clear hx1
             try clear qi1
             try clear c2
             try clear p2
             try clear c3
             try clear c4
             try clear c5
             try clear c6
             try clear c8
             try clear c13
             try clear c14
             try clear c15
             try clear p15
             try clear q15
             try clear hx15
             try clear qi15
             try clear c16
             try clear c17
             try clear c18
             try clear c20
             try clear c34
             try clear c35
             try clear c36
             try clear c37
             try clear c38
             try clear c38b0
             try clear c39
             try clear c39b0
             try clear c40
             try clear c40b0
             try clear c40b1
             try clear c41
             try clear c41b0
             try clear c41b1
             try clear c45
             try clear c47
             try clear c48
             try clear c49
             try clear c51
             try clear c52
             try clear c54
             try clear c55
             try clear c56
             try clear c59
             try clear c60
             try clear c61
             try clear c62
             try clear c63
             try clear hcz16_0
             try clear hcz16_1
             try clear hcz16_2
             try clear hcz16_3
             try clear hcz19_0
             try clear hcz19_1
             try clear hcz19_2
             try clear hcz19_3
             try clear hcz21_0
             try clear hcz21_1
             try clear hcz21_2
             try clear hcz21_3
             try clear hcz37_0
             try clear hcz37_1
             try clear hcz37_2
             try clear hcz37_3
             try clear hcz50_0
             try clear hcz50_1
             try clear hcz50_2
             try clear hcz50_3
             try clear hcz53_0
             try clear hcz53_1
             try clear hcz53_2
             try clear hcz53_3
             try clear hcz57_0
             try clear hcz57_1
             try clear hcz57_2
             try clear hcz57_3
             try clear hcz64_0
             try clear hcz64_1
             try clear hcz64_2
             try clear hcz64_3
             try clear hcz67_0
             try clear hcz67_1
             try clear hcz67_2
             try clear hcz67_3
             try clear hfz16_0
             try clear hfz16_1
             try clear hfz16_2
             try clear hfz16_3
             try clear hfz19_0
             try clear hfz19_1
             try clear hfz19_2
             try clear hfz19_3
             try clear hfz21_0
             try clear hfz21_1
             try clear hfz21_2
             try clear hfz21_3
             try clear hfz37_0
             try clear hfz37_1
             try clear hfz37_2
             try clear hfz37_3
             try clear hfz50_0
             try clear hfz50_1
             try clear hfz50_2
             try clear hfz50_3
             try clear hfz53_0
             try clear hfz53_1
             try clear hfz53_2
             try clear hfz53_3
             try clear hfz57_0
             try clear hfz57_1
             try clear hfz57_2
             try clear hfz57_3
             try clear hfz64_0
             try clear hfz64_1
             try clear hfz64_2
             try clear hfz64_3
             try clear hfz67_0
             try clear hfz67_1
             try clear hfz67_2
             try clear hfz67_3
             try clear hx150_0
             try clear hx151_0
             try clear hx152_0
             try clear hx153_0
             try clear p1
             try clear p15
             try clear p150
             try clear p151
             try clear p152
             try clear p153
             try clear p2
             try clear q1
             try clear q15
             try clear q150
             try clear q151
             try clear q152
             try clear q153
             obtain ⟨kq, x150002_57, u150002, HA, HJ57, HO_6, HO_150002, HO_150003, BK132, BK133, BK134, BK149, HB⟩ := hcut
             cases kq with
             | zero => exact absurd HA.out (by simp [spec_MeetGrammars.j3])
             | succ kj57 =>
              have H := HA.out
              clear HA
              simp only [spec_MeetGrammars.j3] at H
              have H' := Aside0.mk H
              clear H
              go_wp2
              go_loopg [6, 11] kj57 (fun kq v6 v11 w' => ∃ (x6_5 : List (List Int)) (x11_5 : Int) (x134000_5 : Int) (x134001_5 : Int) (x150003_5 : List (S68)) (u150003 : Value), v11 = .int .i64 x11_5 ∧ Aside0 (spec_MeetGrammars.l1 kq x6_5 x8_2 (rd (rd_L3 x6_2 x8_2) 0) (rd (rd_L3 x6_2 x8_2) 1) x11_5 x133000_2 x133001_2 l0_2 l0_3 x134000_5 x134001_5 l1_2 l1_3 0 0 x150002_57 x150003_5 = some (r1, r2, r3, r4, r5)) ∧ Aside0 (kq ≤ kj57) ∧ Aside0 (Kd.N (Kd.slice 2 (Kd.int .i64)) 22 w' w.heap.size (fun k_ => some k_ ≠ (u150002 : Value).ownBlock ∧ some k_ ≠ (u150003 : Value).ownBlock ∧ k_ ≠ gb132 ∧ k_ ≠ gb133 ∧ k_ ≠ gb134 ∧ k_ ≠ gb149) v6 x6_5) ∧ Aside0 (Kd.R (Kd.int .i64) 2 w' w.heap.size (fun _ => True) u150002 x150002_57) ∧ Aside0 (Kd.R k68 68 w' w.heap.size (fun _ => True) u150003 x150003_5) ∧ Aside0 (w'.heap[gb132]? = some (.cells #[.int .i64 x133000_2, .int .i64 x133001_2, (.slice A0_2 l0_2.length c0_2), (.slice A0_3 l0_3.length c0_3)] 39 (0, 0))) ∧ Aside0 (w'.heap[gb133]? = some (.cells #[.int .i64 x134000_5, .int .i64 x134001_5, (.slice A1_2 l1_2.length c1_2), (.slice A1_3 l1_3.length c1_3)] 39 (0, 0))) ∧ Aside0 (w'.heap[gb134]? = some (.cells #[.int .i64 x135000_2, .int .i64 x135001_2, (.slice none 0 0), (.slice none 0 0)] 39 (0, 0))) ∧ Aside0 (w'.heap[gb149]? = some (.cells #[.int .i64 0, .int .i64 0, u150002, u150003] 39 (0, 0))) ∧ Aside0 (Below w.heap.size w w'))
              case atStart => exact ⟨(x6_2), (0), (x134000_2), (x134001_2), (x150003_2), (u150003), (by first | rfl | (simp; done) | (simp [*]; done)), H', ⟨Nat.le_refl _⟩, ⟨by (with_reducible repeat (first | apply Kd.N_alloc | apply Kd.N_drewN | apply Kd.N_drew)); exact HO_6.out⟩, ⟨by (with_reducible repeat (first | apply rA | apply rN | apply rD)); exact HO_150002.out⟩, ⟨by (with_reducible repeat (first | apply rA | apply rN | apply rD)); exact HO_150003.out⟩, ⟨by (with_reducible repeat (first | refine kN ?_ _ | refine kD ?_ | refine kA ?_ _)); exact BK132.out⟩, ⟨by (with_reducible repeat (first | refine kN ?_ _ | refine kD ?_ | refine kA ?_ _)); exact BK133.out⟩, ⟨by (with_reducible repeat (first | refine kN ?_ _ | refine kD ?_ | refine kA ?_ _)); exact BK134.out⟩, ⟨by (with_reducible repeat (first | refine kN ?_ _ | refine kD ?_ | refine kA ?_ _)); exact BK149.out⟩, ⟨by repeat (first | (with_reducible first | exact HB.out | apply bA | apply bN | apply bD | refine bS ?_ GE132.out | refine bS ?_ GE133.out | refine bS ?_ GE134.out | refine bS ?_ GE149.out) | exact HB.out)⟩⟩
              case round =>
               clear H'
               try clear c1
               try clear p1
               try clear q1
               try clear hx1
               try clear qi1
               try clear c2
               try clear p2
               try clear c3
               try clear c4
               try clear c5
               try clear c6
               try clear c8
               try clear c13
               try clear c14
               try clear c15
               try clear p15
               try clear q15
               try clear hx15
               try clear qi15
               try clear c16
               try clear c17
               try clear c18
               try clear c20
               try clear c34
               try clear c35
               try clear c36
               try clear c37
               try clear c38
               try clear c38b0
               try clear c39
               try clear c39b0
               try clear c40
               try clear c40b0
               try clear c40b1
               try clear c41
               try clear c41b0
               try clear c41b1
               try clear c45
               try clear c47
               try clear c48
               try clear c49
               try clear c51
               try clear c52
               try clear c54
               try clear c55
               try clear c56
               try clear c59
               try clear c60
               try clear c61
               try clear c62
               try clear c63
               try clear hcz16_0
               try clear hcz16_1
               try clear hcz16_2
               try clear hcz16_3
               try clear hcz19_0
               try clear hcz19_1
               try clear hcz19_2
               try clear hcz19_3
               try clear hcz21_0
               try clear hcz21_1
               try clear hcz21_2
               try clear hcz21_3
               try clear hcz37_0
               try clear hcz37_1
               try clear hcz37_2
               try clear hcz37_3
               try clear hcz50_0
               try clear hcz50_1
               try clear hcz50_2
               try clear hcz50_3
               try clear hcz53_0
               try clear hcz53_1
               try clear hcz53_2
               try clear hcz53_3
               try clear hcz57_0
               try clear hcz57_1
               try clear hcz57_2
               try clear hcz57_3
               try clear hcz64_0
               try clear hcz64_1
               try clear hcz64_2
               try clear hcz64_3
               try clear hcz67_0
               try clear hcz67_1
               try clear hcz67_2
               try clear hcz67_3
               try clear hfz16_0
               try clear hfz16_1
               try clear hfz16_2
               try clear hfz16_3
               try clear hfz19_0
               try clear hfz19_1
               try clear hfz19_2
               try clear hfz19_3
               try clear hfz21_0
               try clear hfz21_1
               try clear hfz21_2
               try clear hfz21_3
               try clear hfz37_0
               try clear hfz37_1
               try clear hfz37_2
               try clear hfz37_3
               try clear hfz50_0
               try clear hfz50_1
               try clear hfz50_2
               try clear hfz50_3
               try clear hfz53_0
               try clear hfz53_1
               try clear hfz53_2
               try clear hfz53_3
               try clear hfz57_0
               try clear hfz57_1
               try clear hfz57_2
               try clear hfz57_3
               try clear hfz64_0
               try clear hfz64_1
               try clear hfz64_2
               try clear hfz64_3
               try clear hfz67_0
               try clear hfz67_1
               try clear hfz67_2
               try clear hfz67_3
               try clear hx150_0
               try clear hx151_0
               try clear hx152_0
               try clear hx153_0
               try clear p1
               try clear p15
               try clear p150
               try clear p151
               try clear p152
               try clear p153
               try clear p2
               try clear q1
               try clear q15
               try clear q150
               try clear q151
               try clear q152
               try clear q153
               obtain ⟨x6_5, x11_5, x134000_5, x134001_5, x150003_5, u150003, rfl, HA, HK5, HO_6, HO_150002, HO_150003, BK132, BK133, BK134, BK149, HB⟩ := hrel
               cases gk with
               | zero => exact absurd HA.out (by simp [spec_MeetGrammars.l1])
               | succ k5 =>
                have H := HA.out
                clear HA
                simp only [spec_MeetGrammars.l1] at H
                by_cases c68 : x11_5 < (l0_3.length : Int)
                ·rw [if_pos c68] at H
                 have c68b0 : decide (x11_5 < (l0_3.length : Int)) = true := decide_eq_true c68
                 clear c68
                 by_cases c69 : 0 ≤ x11_5
                 ·rw [if_pos c69] at H
                  have c69b0 : decide (0 ≤ x11_5) = true := decide_eq_true c69
                  clear c69
                  by_cases c70 : ((rd_T68 l0_3 x11_5).f0) = (rd (rd_L3 x6_2 x8_2) 0)
                  ·rw [if_pos c70] at H
                   have c70b0 : (((rd_T68 l0_3 x11_5).f0) == (rd (rd_L3 x6_2 x8_2) 0)) = true := beq_iff_eq.mpr c70
                   have c70b1 : (((rd_T68 l0_3 x11_5).f0) != (rd (rd_L3 x6_2 x8_2) 0)) = false := bne_eq_false_iff_eq.mpr c70
                   clear c70
                   replace H := Option.bind_eq_some_iff.mp H
                   obtain ⟨t161, A710, H⟩ := H
                   replace H : (if t161 < 0 then (spec_MeetGrammars.l1 k5 x6_5 x8_2 (rd (rd_L3 x6_2 x8_2) 0) (rd (rd_L3 x6_2 x8_2) 1) (wrap64 (x11_5 + 1)) x133000_2 x133001_2 l0_2 l0_3 x134000_5 x134001_5 l1_2 l1_3 0 0 x150002_57 x150003_5) else ((spec_l07Pair.f k5 x6_5 ((rd_T68 l0_3 x11_5).f2) t161).bind fun t163 => (if t163 < 0 then (if x6_5.length < 5864062014805 then (if x150003_5.length < 5864062014805 then (spec_MeetGrammars.l1 k5 (x6_5 ++ [(([(rd_T68 l0_3 x11_5).f2, t161] : List Int))]) x8_2 (rd (rd_L3 x6_2 x8_2) 0) (rd (rd_L3 x6_2 x8_2) 1) (wrap64 (x11_5 + 1)) x133000_2 x133001_2 l0_2 l0_3 x134000_5 x134001_5 l1_2 l1_3 0 0 x150002_57 (x150003_5 ++ [(⟨x8_2, (rd_T68 l0_3 x11_5).f1, (x6_5.length : Int)⟩ : S68)])) else (none)) else (none)) else (if x150003_5.length < 5864062014805 then (spec_MeetGrammars.l1 k5 x6_5 x8_2 (rd (rd_L3 x6_2 x8_2) 0) (rd (rd_L3 x6_2 x8_2) 1) (wrap64 (x11_5 + 1)) x133000_2 x133001_2 l0_2 l0_3 x134000_5 x134001_5 l1_2 l1_3 0 0 x150002_57 (x150003_5 ++ [(⟨x8_2, (rd_T68 l0_3 x11_5).f1, t163⟩ : S68)])) else (none))))) = some (r1, r2, r3, r4, r5) := H
                   have A71 := Aside0.mk A710
                   clear A710
                   by_cases c72 : t161 < 0
                   ·rw [if_pos c72] at H
                    have c72b0 : decide (t161 < 0) = true := decide_eq_true c72
                    clear c72
                    have H' := Aside0.mk H
                    clear H
                    have hnb73 := NB132_133.out
                    have hnc73 := NB133_132.out
                    have hnb74 := NB132_134.out
                    have hnc74 := NB134_132.out
                    have hnb75 := NB132_149.out
                    have hnc75 := NB149_132.out
                    have hcz76_0 : wr.cell? ⟨gb132, 0, none⟩ = some (.int .i64 x133000_2) := (kC BK132.out 0).trans rfl
                    have hcz76_1 : wr.cell? ⟨gb132, 1, none⟩ = some (.int .i64 x133001_2) := (kC BK132.out 1).trans rfl
                    have hcz76_2 : wr.cell? ⟨gb132, 2, none⟩ = some (.slice A0_2 l0_2.length c0_2) := (kC BK132.out 2).trans rfl
                    have hcz76_3 : wr.cell? ⟨gb132, 3, none⟩ = some (.slice A0_3 l0_3.length c0_3) := (kC BK132.out 3).trans rfl
                    have hfz76_0 := blk_frozen BK132.out 0
                    have hfz76_1 := blk_frozen BK132.out 1
                    have hfz76_2 := blk_frozen BK132.out 2
                    have hfz76_3 := blk_frozen BK132.out 3
                    have p159 : 0 ≤ (x11_5 : Int) := of_decide_eq_true (by first | (with_reducible assumption) | assumption)
                    have q159 : x11_5 < (l0_3.length : Int) := of_decide_eq_true (by first | (with_reducible assumption) | assumption)
                    obtain ⟨ad159, e159, hx159_0, hx159_1, hx159_2⟩ := at_T68 HR0_3.out x11_5 p159 q159
                    cases e159
                    replace hx159_0 := (HB.out.cell (World.block_lt_of_cell? w _ hx159_0)).trans hx159_0
                    replace hx159_1 := (HB.out.cell (World.block_lt_of_cell? w _ hx159_1)).trans hx159_1
                    replace hx159_2 := (HB.out.cell (World.block_lt_of_cell? w _ hx159_2)).trans hx159_2
                    replace p159 := eq_true p159
                    replace q159 := eq_true q159
                    have p160 : 0 ≤ (x11_5 : Int) := of_decide_eq_true (by first | (with_reducible assumption) | assumption)
                    have q160 : x11_5 < (l0_3.length : Int) := of_decide_eq_true (by first | (with_reducible assumption) | assumption)
                    obtain ⟨ad160, e160, hx160_0, hx160_1, hx160_2⟩ := at_T68 HR0_3.out x11_5 p160 q160
                    obtain rfl : ad159 = ad160 := (by injection e160)
                    replace hx160_0 := (HB.out.cell (World.block_lt_of_cell? w _ hx160_0)).trans hx160_0
                    replace hx160_1 := (HB.out.cell (World.block_lt_of_cell? w _ hx160_1)).trans hx160_1
                    replace hx160_2 := (HB.out.cell (World.block_lt_of_cell? w _ hx160_2)).trans hx160_2
                    replace p160 := eq_true p160
                    replace q160 := eq_true q160
                    go_wp2_with (first | ((with_reducible refine gC (f := 38) rfl ?_); refine goesL_ (some 86) rfl rfl Try.func38 (by kernel_rfl) rfl #[.pointer (some ⟨gb133, 0, none⟩), .int .i64 (rd (rd_L3 x6_2 x8_2) 1), .int .i64 ((rd_T68 l0_3 x11_5).f1)] rfl (by (try simp only [List.map_toArray, List.map_cons, List.map_nil]); first | done | rfl | (simp only [List.length_drop, List.length_take]; rfl)) ?_; (with_reducible refine (spec_l07Step.calls k5 ⟨gb133, 0, none⟩ x134000_5 x134001_5 l1_2 l1_3 (rd (rd_L3 x6_2 x8_2) 1) ((rd_T68 l0_3 x11_5).f1) t161 _ ?side1 A71.out).mono ?_); (case side1 => exact C_box (t := 39) (show _ from by (with_reducible repeat (first | refine kN ?_ _ | refine kD ?_ | refine kA ?_ _)); exact BK133.out) (k39_mk _ (⟨x134000_5, x134001_5, l1_2, l1_3⟩ : S39) (by exact HC1_2.out) (by repeat (first | exact (cB HR1_2.out HB.out) | (with_reducible refine cA ?_ _) | (with_reducible refine cN ?_ _) | (with_reducible refine cD ?_))) (by exact HC1_3.out) (by repeat (first | exact (cB HR1_3.out HB.out) | (with_reducible refine cA ?_ _) | (with_reducible refine cN ?_ _) | (with_reducible refine cD ?_))))); rintro e w' ⟨rfl, ⟨nd, rfl⟩⟩; refine ⟨_, rfl, ?_⟩))
                    go_roundg k5
                    case measure => have := HJ2.out; have := HK2.out; have := HJ41.out; have := HJ57.out; have := HK5.out; omega
                    case rel => exact ⟨(x6_5), (wrap64 (x11_5 + 1)), (x134000_5), (x134001_5), (x150003_5), (u150003), (by first | rfl | (simp; done) | (simp [*]; done)), H', ⟨by have := HJ2.out; have := HK2.out; have := HJ41.out; have := HJ57.out; have := HK5.out; omega⟩, ⟨by (with_reducible repeat (first | apply Kd.N_alloc | apply Kd.N_drewN | apply Kd.N_drew)); exact HO_6.out⟩, ⟨by (with_reducible repeat (first | apply rA | apply rN | apply rD)); exact HO_150002.out⟩, ⟨by (with_reducible repeat (first | apply rA | apply rN | apply rD)); exact HO_150003.out⟩, ⟨by (with_reducible repeat (first | refine kN ?_ _ | refine kD ?_ | refine kA ?_ _)); exact BK132.out⟩, ⟨by (with_reducible repeat (first | refine kN ?_ _ | refine kD ?_ | refine kA ?_ _)); exact BK133.out⟩, ⟨by (with_reducible repeat (first | refine kN ?_ _ | refine kD ?_ | refine kA ?_ _)); exact BK134.out⟩, ⟨by (with_reducible repeat (first | refine kN ?_ _ | refine kD ?_ | refine kA ?_ _)); exact BK149.out⟩, ⟨by repeat (first | (with_reducible first | exact HB.out | apply bA | apply bN | apply bD | refine bS ?_ GE132.out | refine bS ?_ GE133.out | refine bS ?_ GE134.out | refine bS ?_ GE149.out) | exact HB.out)⟩⟩
                   ·rw [if_neg c72] at H
                    have c72b0 : decide (t161 < 0) = false := decide_eq_false c72
                    clear c72
                    replace H := Option.bind_eq_some_iff.mp H
                    obtain ⟨t163, A770, H⟩ := H
                    replace H : (if t163 < 0 then (if x6_5.length < 5864062014805 then (if x150003_5.length < 5864062014805 then (spec_MeetGrammars.l1 k5 (x6_5 ++ [(([(rd_T68 l0_3 x11_5).f2, t161] : List Int))]) x8_2 (rd (rd_L3 x6_2 x8_2) 0) (rd (rd_L3 x6_2 x8_2) 1) (wrap64 (x11_5 + 1)) x133000_2 x133001_2 l0_2 l0_3 x134000_5 x134001_5 l1_2 l1_3 0 0 x150002_57 (x150003_5 ++ [(⟨x8_2, (rd_T68 l0_3 x11_5).f1, (x6_5.length : Int)⟩ : S68)])) else (none)) else (none)) else (if x150003_5.length < 5864062014805 then (spec_MeetGrammars.l1 k5 x6_5 x8_2 (rd (rd_L3 x6_2 x8_2) 0) (rd (rd_L3 x6_2 x8_2) 1) (wrap64 (x11_5 + 1)) x133000_2 x133001_2 l0_2 l0_3 x134000_5 x134001_5 l1_2 l1_3 0 0 x150002_57 (x150003_5 ++ [(⟨x8_2, (rd_T68 l0_3 x11_5).f1, t163⟩ : S68)])) else (none))) = some (r1, r2, r3, r4, r5) := H
                    have A77 := Aside0.mk A770
                    clear A770
                    by_cases c78 : t163 < 0
                    ·rw [if_pos c78] at H
                     have c78b0 : decide (t163 < 0) = true := decide_eq_true c78
                     clear c78
                     obtain ⟨y165, hy165⟩ : ∃ y_ : List Int, y_ = (([(rd_T68 l0_3 x11_5).f2, t161] : List Int)) := ⟨_, rfl⟩
                     replace H : (if x6_5.length < 5864062014805 then (if x150003_5.length < 5864062014805 then (spec_MeetGrammars.l1 k5 (x6_5 ++ [y165]) x8_2 (rd (rd_L3 x6_2 x8_2) 0) (rd (rd_L3 x6_2 x8_2) 1) (wrap64 (x11_5 + 1)) x133000_2 x133001_2 l0_2 l0_3 x134000_5 x134001_5 l1_2 l1_3 0 0 x150002_57 (x150003_5 ++ [(⟨x8_2, (rd_T68 l0_3 x11_5).f1, (x6_5.length : Int)⟩ : S68)])) else (none)) else (none)) = some (r1, r2, r3, r4, r5) := by first | (rw [hy165]; with_reducible exact H) | (have H2_ := (Option.bind_some _ _).symm.trans H; rw [hy165]; with_reducible exact H2_) | (have H2_ := (Option.bind_some _ _).symm.trans H; with_reducible exact H2_) | with_reducible exact H | (rw [hy165]; exact H) | exact H
                     have Ny165 := Aside0.mk hy165
                     clear hy165
                     by_cases c79 : x6_5.length < 5864062014805
                     ·rw [if_pos c79] at H
                      have LMc79 := Aside0.mk c79
                      clear c79
                      obtain ⟨y168, hy168⟩ : ∃ y_ : List (List Int), y_ = (x6_5 ++ [y165]) := ⟨_, rfl⟩
                      replace H : (if x150003_5.length < 5864062014805 then (spec_MeetGrammars.l1 k5 y168 x8_2 (rd (rd_L3 x6_2 x8_2) 0) (rd (rd_L3 x6_2 x8_2) 1) (wrap64 (x11_5 + 1)) x133000_2 x133001_2 l0_2 l0_3 x134000_5 x134001_5 l1_2 l1_3 0 0 x150002_57 (x150003_5 ++ [(⟨x8_2, (rd_T68 l0_3 x11_5).f1, (x6_5.length : Int)⟩ : S68)])) else (none)) = some (r1, r2, r3, r4, r5) := by first | (rw [hy168]; with_reducible exact H) | (have H2_ := (Option.bind_some _ _).symm.trans H; rw [hy168]; with_reducible exact H2_) | (have H2_ := (Option.bind_some _ _).symm.trans H; with_reducible exact H2_) | with_reducible exact H | (rw [hy168]; exact H) | exact H
                      have Ny168 := Aside0.mk hy168
                      clear hy168
                      by_cases c80 : x150003_5.length < 5864062014805
                      ·rw [if_pos c80] at H
                       have LMc80 := Aside0.mk c80
                       clear c80
                       obtain ⟨y172, hy172⟩ : ∃ y_ : List (S68), y_ = (x150003_5 ++ [(⟨x8_2, (rd_T68 l0_3 x11_5).f1, (x6_5.length : Int)⟩ : S68)]) := ⟨_, rfl⟩
                       replace H : (spec_MeetGrammars.l1 k5 y168 x8_2 (rd (rd_L3 x6_2 x8_2) 0) (rd (rd_L3 x6_2 x8_2) 1) (wrap64 (x11_5 + 1)) x133000_2 x133001_2 l0_2 l0_3 x134000_5 x134001_5 l1_2 l1_3 0 0 x150002_57 y172) = some (r1, r2, r3, r4, r5) := by first | (rw [hy172]; with_reducible exact H) | (have H2_ := (Option.bind_some _ _).symm.trans H; rw [hy172]; with_reducible exact H2_) | (have H2_ := (Option.bind_some _ _).symm.trans H; with_reducible exact H2_) | with_reducible exact H | (rw [hy172]; exact H) | exact H
                       have Ny172 := Aside0.mk hy172
                       clear hy172
                       have H' := Aside0.mk H
                       clear H
                       have hnb81 := NB132_133.out
                       have hnc81 := NB133_132.out
                       have hnb82 := NB132_134.out
                       have hnc82 := NB134_132.out
                       have hnb83 := NB132_149.out
                       have hnc83 := NB149_132.out
                       have hcz84_0 : wr.cell? ⟨gb132, 0, none⟩ = some (.int .i64 x133000_2) := (kC BK132.out 0).trans rfl
                       have hcz84_1 : wr.cell? ⟨gb132, 1, none⟩ = some (.int .i64 x133001_2) := (kC BK132.out 1).trans rfl
                       have hcz84_2 : wr.cell? ⟨gb132, 2, none⟩ = some (.slice A0_2 l0_2.length c0_2) := (kC BK132.out 2).trans rfl
                       have hcz84_3 : wr.cell? ⟨gb132, 3, none⟩ = some (.slice A0_3 l0_3.length c0_3) := (kC BK132.out 3).trans rfl
                       have hfz84_0 := blk_frozen BK132.out 0
                       have hfz84_1 := blk_frozen BK132.out 1
                       have hfz84_2 := blk_frozen BK132.out 2
                       have hfz84_3 := blk_frozen BK132.out 3
                       have p159 : 0 ≤ (x11_5 : Int) := of_decide_eq_true (by first | (with_reducible assumption) | assumption)
                       have q159 : x11_5 < (l0_3.length : Int) := of_decide_eq_true (by first | (with_reducible assumption) | assumption)
                       obtain ⟨ad159, e159, hx159_0, hx159_1, hx159_2⟩ := at_T68 HR0_3.out x11_5 p159 q159
                       cases e159
                       replace hx159_0 := (HB.out.cell (World.block_lt_of_cell? w _ hx159_0)).trans hx159_0
                       replace hx159_1 := (HB.out.cell (World.block_lt_of_cell? w _ hx159_1)).trans hx159_1
                       replace hx159_2 := (HB.out.cell (World.block_lt_of_cell? w _ hx159_2)).trans hx159_2
                       replace p159 := eq_true p159
                       replace q159 := eq_true q159
                       have p160 : 0 ≤ (x11_5 : Int) := of_decide_eq_true (by first | (with_reducible assumption) | assumption)
                       have q160 : x11_5 < (l0_3.length : Int) := of_decide_eq_true (by first | (with_reducible assumption) | assumption)
                       obtain ⟨ad160, e160, hx160_0, hx160_1, hx160_2⟩ := at_T68 HR0_3.out x11_5 p160 q160
                       obtain rfl : ad159 = ad160 := (by injection e160)
                       replace hx160_0 := (HB.out.cell (World.block_lt_of_cell? w _ hx160_0)).trans hx160_0
                       replace hx160_1 := (HB.out.cell (World.block_lt_of_cell? w _ hx160_1)).trans hx160_1
                       replace hx160_2 := (HB.out.cell (World.block_lt_of_cell? w _ hx160_2)).trans hx160_2
                       replace p160 := eq_true p160
                       replace q160 := eq_true q160
                       try go_wp2_with (first | ((with_reducible refine gC (f := 38) rfl ?_); refine goesL_ (some 86) rfl rfl Try.func38 (by kernel_rfl) rfl #[.pointer (some ⟨gb133, 0, none⟩), .int .i64 (rd (rd_L3 x6_2 x8_2) 1), .int .i64 ((rd_T68 l0_3 x11_5).f1)] rfl (by (try simp only [List.map_toArray, List.map_cons, List.map_nil]); first | done | rfl | (simp only [List.length_drop, List.length_take]; rfl)) ?_; (with_reducible refine (spec_l07Step.calls k5 ⟨gb133, 0, none⟩ x134000_5 x134001_5 l1_2 l1_3 (rd (rd_L3 x6_2 x8_2) 1) ((rd_T68 l0_3 x11_5).f1) t161 _ ?side1 A71.out).mono ?_); (case side1 => exact C_box (t := 39) (show _ from by (with_reducible repeat (first | refine kN ?_ _ | refine kD ?_ | refine kA ?_ _)); exact BK133.out) (k39_mk _ (⟨x134000_5, x134001_5, l1_2, l1_3⟩ : S39) (by exact HC1_2.out) (by repeat (first | exact (cB HR1_2.out HB.out) | (with_reducible refine cA ?_ _) | (with_reducible refine cN ?_ _) | (with_reducible refine cD ?_))) (by exact HC1_3.out) (by repeat (first | exact (cB HR1_3.out HB.out) | (with_reducible refine cA ?_ _) | (with_reducible refine cN ?_ _) | (with_reducible refine cD ?_))))); rintro e w' ⟨rfl, ⟨nd, rfl⟩⟩; refine ⟨_, rfl, ?_⟩; (try (rw [drewN_self wr]; generalize hq_ : World.drewN wr _ = wr; have n0_ : Aside0 (Kd.R (Kd.int .i64) 2 wr w.heap.size (fun _ => True) u150002 x150002_57) := ⟨by rw [← hq_]; exact (by (with_reducible repeat (first | apply rA | apply rN | apply rD)); exact HO_150002.out)⟩; have n1_ : Aside0 (Kd.R k68 68 wr w.heap.size (fun _ => True) u150003 x150003_5) := ⟨by rw [← hq_]; exact (by (with_reducible repeat (first | apply rA | apply rN | apply rD)); exact HO_150003.out)⟩; have n2_ : Aside0 (Kd.N (Kd.slice 2 (Kd.int .i64)) 22 wr w.heap.size (fun k_ => some k_ ≠ (u150002 : Value).ownBlock ∧ some k_ ≠ (u150003 : Value).ownBlock ∧ k_ ≠ gb132 ∧ k_ ≠ gb133 ∧ k_ ≠ gb134 ∧ k_ ≠ gb149) u6 x6_5) := ⟨by rw [← hq_]; exact (by (with_reducible repeat (first | apply Kd.N_alloc | apply Kd.N_drewN | apply Kd.N_drew)); exact HO_6.out)⟩; have n3_ : Aside0 (wr.heap[gb132]? = some (.cells #[.int .i64 x133000_2, .int .i64 x133001_2, .slice A0_2 l0_2.length c0_2, .slice (some ad159) l0_3.length c0_3] 39 (0, 0))) := ⟨by rw [← hq_]; exact (by (with_reducible repeat (first | refine kN ?_ _ | refine kD ?_ | refine kA ?_ _)); exact BK132.out)⟩; have n4_ : Aside0 (wr.heap[gb133]? = some (.cells #[.int .i64 x134000_5, .int .i64 x134001_5, .slice A1_2 l1_2.length c1_2, .slice A1_3 l1_3.length c1_3] 39 (0, 0))) := ⟨by rw [← hq_]; exact (by (with_reducible repeat (first | refine kN ?_ _ | refine kD ?_ | refine kA ?_ _)); exact BK133.out)⟩; have n5_ : Aside0 (wr.heap[gb134]? = some (.cells #[.int .i64 x135000_2, .int .i64 x135001_2, .slice none 0 0, .slice none 0 0] 39 (0, 0))) := ⟨by rw [← hq_]; exact (by (with_reducible repeat (first | refine kN ?_ _ | refine kD ?_ | refine kA ?_ _)); exact BK134.out)⟩; have n6_ : Aside0 (wr.heap[gb149]? = some (.cells #[.int .i64 0, .int .i64 0, u150002, u150003] 39 (0, 0))) := ⟨by rw [← hq_]; exact (by (with_reducible repeat (first | refine kN ?_ _ | refine kD ?_ | refine kA ?_ _)); exact BK149.out)⟩; have n7_ : Aside0 (Below w.heap.size w wr) := ⟨by rw [← hq_]; exact (by repeat (first | (with_reducible first | exact HB.out | apply bA | apply bN | apply bD | refine bS ?_ GE132.out | refine bS ?_ GE133.out | refine bS ?_ GE134.out | refine bS ?_ GE149.out) | exact HB.out))⟩; clear HO_150002 HO_150003 HO_6 BK132 BK133 BK134 BK149 HB hq_; have HO_150002 := n0_; have HO_150003 := n1_; have HO_6 := n2_; have BK132 := n3_; have BK133 := n4_; have BK134 := n5_; have BK149 := n6_; have HB := n7_; clear n0_ n1_ n2_ n3_ n4_ n5_ n6_ n7_)); have hcz84_0 : wr.cell? ⟨gb132, 0, none⟩ = some (.int .i64 x133000_2) := (kC BK132.out 0).trans rfl; have hfz84_0 := blk_frozen BK132.out 0; have hcz84_1 : wr.cell? ⟨gb132, 1, none⟩ = some (.int .i64 x133001_2) := (kC BK132.out 1).trans rfl; have hfz84_1 := blk_frozen BK132.out 1; have hcz84_2 : wr.cell? ⟨gb132, 2, none⟩ = some (.slice A0_2 l0_2.length c0_2) := (kC BK132.out 2).trans rfl; have hfz84_2 := blk_frozen BK132.out 2; have hcz84_3 : wr.cell? ⟨gb132, 3, none⟩ = some (.slice (some ad159) l0_3.length c0_3) := (kC BK132.out 3).trans rfl; have hfz84_3 := blk_frozen BK132.out 3; have p162 : 0 ≤ (x11_5 : Int) := of_decide_eq_true (by first | (with_reducible assumption) | assumption); have q162 : x11_5 < (l0_3.length : Int) := of_decide_eq_true (by first | (with_reducible assumption) | assumption); obtain ⟨ad162, e162, hx162_0, hx162_1, hx162_2⟩ := at_T68 HR0_3.out x11_5 p162 q162; obtain rfl : ad159 = ad162 := (by injection e162); replace hx162_0 := (HB.out.cell (World.block_lt_of_cell? w _ hx162_0)).trans hx162_0; replace hx162_1 := (HB.out.cell (World.block_lt_of_cell? w _ hx162_1)).trans hx162_1; replace hx162_2 := (HB.out.cell (World.block_lt_of_cell? w _ hx162_2)).trans hx162_2; replace p162 := eq_true p162; replace q162 := eq_true q162; obtain ⟨Ao85, co85, eo85⟩ := Kd.N_slice HO_6.out; subst eo85) | ((with_reducible refine gC (f := 39) rfl ?_); refine goesL_ (some 97) rfl rfl Try.func39 (by kernel_rfl) rfl #[.slice Ao85 x6_5.length co85, .int .i64 ((rd_T68 l0_3 x11_5).f2), .int .i64 t161] rfl (by (try simp only [List.map_toArray, List.map_cons, List.map_nil]); first | done | rfl | (simp only [List.length_drop, List.length_take]; rfl)) ?_; (with_reducible refine (spec_l07Pair.calls k5 _ _ x6_5 ((rd_T68 l0_3 x11_5).f2) t161 t163 _ ?side1 ?side2 A77.out).mono ?_); (case side1 => repeat (first | exact (Kd.N_reads' HO_6.out).2.2 | (with_reducible refine cA ?_ _) | (with_reducible refine cN ?_ _) | (with_reducible refine cD ?_))); (case side2 => exact (Kd.N_reads' HO_6.out).2.1); rintro e w' ⟨rfl, ⟨nd, rfl⟩⟩; refine ⟨_, rfl, ?_⟩; (try (rw [drewN_self wr]; generalize hq_ : World.drewN wr _ = wr; have n0_ : Aside0 (Kd.R (Kd.int .i64) 2 wr w.heap.size (fun _ => True) u150002 x150002_57) := ⟨by rw [← hq_]; exact (by (with_reducible repeat (first | apply rA | apply rN | apply rD)); exact HO_150002.out)⟩; have n1_ : Aside0 (Kd.R k68 68 wr w.heap.size (fun _ => True) u150003 x150003_5) := ⟨by rw [← hq_]; exact (by (with_reducible repeat (first | apply rA | apply rN | apply rD)); exact HO_150003.out)⟩; have n2_ : Aside0 (Kd.N (Kd.slice 2 (Kd.int .i64)) 22 wr w.heap.size (fun k_ => some k_ ≠ (u150002 : Value).ownBlock ∧ some k_ ≠ (u150003 : Value).ownBlock ∧ k_ ≠ gb132 ∧ k_ ≠ gb133 ∧ k_ ≠ gb134 ∧ k_ ≠ gb149) (.slice Ao85 x6_5.length co85) x6_5) := ⟨by rw [← hq_]; exact (by (with_reducible repeat (first | apply Kd.N_alloc | apply Kd.N_drewN | apply Kd.N_drew)); exact HO_6.out)⟩; have n3_ : Aside0 (wr.heap[gb132]? = some (.cells #[.int .i64 x133000_2, .int .i64 x133001_2, .slice A0_2 l0_2.length c0_2, .slice (some ad159) l0_3.length c0_3] 39 (0, 0))) := ⟨by rw [← hq_]; exact (by (with_reducible repeat (first | refine kN ?_ _ | refine kD ?_ | refine kA ?_ _)); exact BK132.out)⟩; have n4_ : Aside0 (wr.heap[gb133]? = some (.cells #[.int .i64 x134000_5, .int .i64 x134001_5, .slice A1_2 l1_2.length c1_2, .slice A1_3 l1_3.length c1_3] 39 (0, 0))) := ⟨by rw [← hq_]; exact (by (with_reducible repeat (first | refine kN ?_ _ | refine kD ?_ | refine kA ?_ _)); exact BK133.out)⟩; have n5_ : Aside0 (wr.heap[gb134]? = some (.cells #[.int .i64 x135000_2, .int .i64 x135001_2, .slice none 0 0, .slice none 0 0] 39 (0, 0))) := ⟨by rw [← hq_]; exact (by (with_reducible repeat (first | refine kN ?_ _ | refine kD ?_ | refine kA ?_ _)); exact BK134.out)⟩; have n6_ : Aside0 (wr.heap[gb149]? = some (.cells #[.int .i64 0, .int .i64 0, u150002, u150003] 39 (0, 0))) := ⟨by rw [← hq_]; exact (by (with_reducible repeat (first | refine kN ?_ _ | refine kD ?_ | refine kA ?_ _)); exact BK149.out)⟩; have n7_ : Aside0 (Below w.heap.size w wr) := ⟨by rw [← hq_]; exact (by repeat (first | (with_reducible first | exact HB.out | apply bA | apply bN | apply bD | refine bS ?_ GE132.out | refine bS ?_ GE133.out | refine bS ?_ GE134.out | refine bS ?_ GE149.out) | exact HB.out))⟩; clear HO_150002 HO_150003 HO_6 BK132 BK133 BK134 BK149 HB hq_; have HO_150002 := n0_; have HO_150003 := n1_; have HO_6 := n2_; have BK132 := n3_; have BK133 := n4_; have BK134 := n5_; have BK149 := n6_; have HB := n7_; clear n0_ n1_ n2_ n3_ n4_ n5_ n6_ n7_)); have hcz84_0 : wr.cell? ⟨gb132, 0, none⟩ = some (.int .i64 x133000_2) := (kC BK132.out 0).trans rfl; have hfz84_0 := blk_frozen BK132.out 0; have hcz84_1 : wr.cell? ⟨gb132, 1, none⟩ = some (.int .i64 x133001_2) := (kC BK132.out 1).trans rfl; have hfz84_1 := blk_frozen BK132.out 1; have hcz84_2 : wr.cell? ⟨gb132, 2, none⟩ = some (.slice A0_2 l0_2.length c0_2) := (kC BK132.out 2).trans rfl; have hfz84_2 := blk_frozen BK132.out 2; have hcz84_3 : wr.cell? ⟨gb132, 3, none⟩ = some (.slice (some ad159) l0_3.length c0_3) := (kC BK132.out 3).trans rfl; have hfz84_3 := blk_frozen BK132.out 3; have p164 : 0 ≤ (x11_5 : Int) := of_decide_eq_true (by first | (with_reducible assumption) | assumption); have q164 : x11_5 < (l0_3.length : Int) := of_decide_eq_true (by first | (with_reducible assumption) | assumption); obtain ⟨ad164, e164, hx164_0, hx164_1, hx164_2⟩ := at_T68 HR0_3.out x11_5 p164 q164; obtain rfl : ad159 = ad164 := (by injection e164); replace hx164_0 := (HB.out.cell (World.block_lt_of_cell? w _ hx164_0)).trans hx164_0; replace hx164_1 := (HB.out.cell (World.block_lt_of_cell? w _ hx164_1)).trans hx164_1; replace hx164_2 := (HB.out.cell (World.block_lt_of_cell? w _ hx164_2)).trans hx164_2; replace p164 := eq_true p164; replace q164 := eq_true q164) | ((with_reducible refine gate_dst (N := 110) rfl ?_); (try (refine gate_guard (by rfl) ?_; dsimp only)); refine Kd.R_lit (Kd.int .i64) _ 2 ?hg (N := 110) ?hd (xs := ([(rd_T68 l0_3 x11_5).f2, t161] : List Int)) (inner := [.int .i64 ((rd_T68 l0_3 x11_5).f2), .int .i64 t161]) (ok := fun _ => True) (okp := fun _ => True) ?hr ?hp (fun _ hk => hk) trivial (Below.refl _ _) (Nat.le_refl _) (by simp) ?_; (case hd => rfl); (case hg => rfl); (case hr => first | (go_simp; done) | (go_simp; rfl)); (case hp => exact (Reps.one (show Kd.M (Kd.int .i64) _ _ _ ((rd_T68 l0_3 x11_5).f2) [.int .i64 ((rd_T68 l0_3 x11_5).f2)] from rfl) (Reps.one (show Kd.M (Kd.int .i64) _ _ _ t161 [.int .i64 t161] from rfl) (Reps.none _ _)))); intro v166 w86 ho87 hb hg_ hnew_; clear hg_ hnew_; (first | rw [← Ny165.out] at ho87 | (simp only [Int.reduceToNat] at ho87; rw [← Ny165.out] at ho87)); have n0_ := Aside0.mk (Kd.N_elder' (by (with_reducible repeat (first | apply Kd.N_alloc | apply Kd.N_drewN | apply Kd.N_drew)); exact HO_6.out) (Kd.R_base ho87) hb); have n1_ := Aside0.mk (rE (by (with_reducible repeat (first | apply rA | apply rN | apply rD)); exact HO_150002.out) (Kd.R_base ho87) hb); have n2_ := Aside0.mk (rB (by (with_reducible repeat (first | apply rA | apply rN | apply rD)); exact HO_150003.out) hb); have n3_ := Aside0.mk (rL (rW ho87 (rT (by (with_reducible repeat (first | apply rA | apply rN | apply rD)); exact HO_150002.out))) (bZ (by repeat (first | (with_reducible first | exact HB.out | apply bA | apply bN | apply bD | refine bS ?_ GE132.out | refine bS ?_ GE133.out | refine bS ?_ GE134.out | refine bS ?_ GE149.out) | exact HB.out)))); have n4_ := Aside0.mk (kB (g := gb132) (o := .cells #[.int .i64 x133000_2, .int .i64 x133001_2, .slice A0_2 l0_2.length c0_2, .slice (some ad159) l0_3.length c0_3] 39 (0, 0)) (by (with_reducible repeat (first | refine kN ?_ _ | refine kD ?_ | refine kA ?_ _)); exact BK132.out) hb); have n5_ := Aside0.mk (kB (g := gb133) (o := .cells #[.int .i64 x134000_5, .int .i64 x134001_5, .slice A1_2 l1_2.length c1_2, .slice A1_3 l1_3.length c1_3] 39 (0, 0)) (by (with_reducible repeat (first | refine kN ?_ _ | refine kD ?_ | refine kA ?_ _)); exact BK133.out) hb); have n6_ := Aside0.mk (kB (g := gb134) (o := .cells #[.int .i64 x135000_2, .int .i64 x135001_2, .slice none 0 0, .slice none 0 0] 39 (0, 0)) (by (with_reducible repeat (first | refine kN ?_ _ | refine kD ?_ | refine kA ?_ _)); exact BK134.out) hb); have n7_ := Aside0.mk (kB (g := gb149) (o := .cells #[.int .i64 0, .int .i64 0, u150002, u150003] 39 (0, 0)) (by (with_reducible repeat (first | refine kN ?_ _ | refine kD ?_ | refine kA ?_ _)); exact BK149.out) hb); have n8_ := Aside0.mk (bP (by repeat (first | (with_reducible first | exact HB.out | apply bA | apply bN | apply bD | refine bS ?_ GE132.out | refine bS ?_ GE133.out | refine bS ?_ GE134.out | refine bS ?_ GE149.out) | exact HB.out)) hb); clear HO_6; clear HO_150002; clear HO_150003; clear BK132; clear BK133; clear BK134; clear BK149; clear HB; have HO_6 := n0_; have HO_150002 := n1_; have HO_150003 := n2_; have HO167 := n3_; have BK132 := n4_; have BK133 := n5_; have BK134 := n6_; have BK149 := n7_; have HB := n8_; clear n0_ n1_ n2_ n3_ n4_ n5_ n6_ n7_ n8_; clear hb ho87; obtain ⟨Ao89, co89, eo89⟩ := Kd.R_slice HO167.out; subst eo89) | ((with_reducible refine gate_builtin (b := .append) (xs := #[.tmp 102, .tmp 111]) rfl ?_); (try (refine gate_guard (by rfl) ?_; dsimp only)); at_builtin; refine Kd.N_append (Kd.slice 2 (Kd.int .i64)) (w0 := w) w.heap.size rfl (.tmp 102) (.tmp 111) 23 22 (.slice none 0 0) 24 rfl Try.underlying23 info22 rfl (by decide) (by omega) (.slice Ao85 x6_5.length co85) x6_5 y165 [.slice Ao89 y165.length co89] (fun k_ => some k_ ≠ (u150002 : Value).ownBlock ∧ some k_ ≠ (u150003 : Value).ownBlock ∧ k_ ≠ gb132 ∧ k_ ≠ gb133 ∧ k_ ≠ gb134 ∧ k_ ≠ gb149) (fun k_ => ((fun k_ => some k_ ≠ (u150002 : Value).ownBlock ∧ some k_ ≠ (u150003 : Value).ownBlock ∧ k_ ≠ gb132 ∧ k_ ≠ gb133 ∧ k_ ≠ gb134 ∧ k_ ≠ gb149)) k_ ∧ some k_ ≠ (.slice Ao85 x6_5.length co85 : Value).ownBlock) rfl rfl ?aP (fun _ hk => hk) ?aF ?aO ?aB ?aS ?aL ?_; (case aP => exact (Kd.FK_slice_mk (Kd.R_reads' (rM (ok' := (fun k_ => ((fun k_ => some k_ ≠ (u150002 : Value).ownBlock ∧ some k_ ≠ (u150003 : Value).ownBlock ∧ k_ ≠ gb132 ∧ k_ ≠ gb133 ∧ k_ ≠ gb134 ∧ k_ ≠ gb149)) k_ ∧ some k_ ≠ (.slice Ao85 x6_5.length co85 : Value).ownBlock)) (Kd.R_types (Kd.R_types (Kd.R_types (Kd.R_types (Kd.R_apart' (Kd.R_apart' (HO167.out) (Kd.R_typed HO_150003.out) (by decide)) (Kd.N_typed HO_6.out) (by decide)) BK132.out (by decide)) BK133.out (by decide)) BK134.out (by decide)) BK149.out (by decide)) (fun k_ hk => ⟨⟨hk.1.1.1.1.1.1.2, ⟨hk.1.1.1.1.1.2, ⟨hk.1.1.1.2, ⟨hk.1.1.2, ⟨hk.1.2, hk.2⟩⟩⟩⟩⟩, hk.1.1.1.1.2⟩))).2.1 (Kd.R_F (rM (ok' := (fun k_ => ((fun k_ => some k_ ≠ (u150002 : Value).ownBlock ∧ some k_ ≠ (u150003 : Value).ownBlock ∧ k_ ≠ gb132 ∧ k_ ≠ gb133 ∧ k_ ≠ gb134 ∧ k_ ≠ gb149)) k_ ∧ some k_ ≠ (.slice Ao85 x6_5.length co85 : Value).ownBlock)) (Kd.R_types (Kd.R_types (Kd.R_types (Kd.R_types (Kd.R_apart' (Kd.R_apart' (HO167.out) (Kd.R_typed HO_150003.out) (by decide)) (Kd.N_typed HO_6.out) (by decide)) BK132.out (by decide)) BK133.out (by decide)) BK134.out (by decide)) BK149.out (by decide)) (fun k_ hk => ⟨⟨hk.1.1.1.1.1.1.2, ⟨hk.1.1.1.1.1.2, ⟨hk.1.1.1.2, ⟨hk.1.1.2, ⟨hk.1.2, hk.2⟩⟩⟩⟩⟩, hk.1.1.1.1.2⟩))))); (case aB => exact (by repeat (first | (with_reducible first | exact HB.out | apply bA | apply bN | apply bD | refine bS ?_ GE132.out | refine bS ?_ GE133.out | refine bS ?_ GE134.out | refine bS ?_ GE149.out) | exact HB.out))); (case aF => exact (fun k_ hk => ⟨Kd.fresh' (rT (by (with_reducible repeat (first | apply rA | apply rN | apply rD)); exact HO_150002.out)) k_ hk, Kd.fresh' (rT (by (with_reducible repeat (first | apply rA | apply rN | apply rD)); exact HO_150003.out)) k_ hk, Kd.freshB (g := gb132) (o := .cells #[.int .i64 x133000_2, .int .i64 x133001_2, .slice A0_2 l0_2.length c0_2, .slice (some ad159) l0_3.length c0_3] 39 (0, 0)) (by (with_reducible repeat (first | refine kN ?_ _ | refine kD ?_ | refine kA ?_ _)); exact BK132.out) k_ hk, Kd.freshB (g := gb133) (o := .cells #[.int .i64 x134000_5, .int .i64 x134001_5, .slice A1_2 l1_2.length c1_2, .slice A1_3 l1_3.length c1_3] 39 (0, 0)) (by (with_reducible repeat (first | refine kN ?_ _ | refine kD ?_ | refine kA ?_ _)); exact BK133.out) k_ hk, Kd.freshB (g := gb134) (o := .cells #[.int .i64 x135000_2, .int .i64 x135001_2, .slice none 0 0, .slice none 0 0] 39 (0, 0)) (by (with_reducible repeat (first | refine kN ?_ _ | refine kD ?_ | refine kA ?_ _)); exact BK134.out) k_ hk, Kd.freshB (g := gb149) (o := .cells #[.int .i64 0, .int .i64 0, u150002, u150003] 39 (0, 0)) (by (with_reducible repeat (first | refine kN ?_ _ | refine kD ?_ | refine kA ?_ _)); exact BK149.out) k_ hk⟩)); (case aO => exact (by (with_reducible repeat (first | apply Kd.N_alloc | apply Kd.N_drewN | apply Kd.N_drew)); exact Kd.N_mono HO_6.out (fun _ hk => ⟨hk.1.1, ⟨hk.1.2.1, ⟨hk.1.2.2.1, ⟨hk.1.2.2.2.1, ⟨hk.1.2.2.2.2.1, hk.1.2.2.2.2.2⟩⟩⟩⟩⟩))); (case aS => exact (bZ (by repeat (first | (with_reducible first | exact HB.out | apply bA | apply bN | apply bD | refine bS ?_ GE132.out | refine bS ?_ GE133.out | refine bS ?_ GE134.out | refine bS ?_ GE149.out) | exact HB.out)))); (case aL => have := LMc79.out; omega); intro v169 w88 ho hb hg hat; rw [← Ny168.out] at ho; have n0_ := Aside0.mk (Kd.R_over' (by (with_reducible repeat (first | apply rA | apply rN | apply rD)); exact HO_150002.out) (Kd.N_typed (by (with_reducible repeat (first | apply Kd.N_alloc | apply Kd.N_drewN | apply Kd.N_drew)); exact HO_6.out)) (by decide) hg); have n1_ := Aside0.mk (Kd.R_over' (by (with_reducible repeat (first | apply rA | apply rN | apply rD)); exact HO_150003.out) (Kd.N_typed (by (with_reducible repeat (first | apply Kd.N_alloc | apply Kd.N_drewN | apply Kd.N_drew)); exact HO_6.out)) (by decide) hg); have n2_ := Aside0.mk (blk_grown (g := gb132) (o := .cells #[.int .i64 x133000_2, .int .i64 x133001_2, .slice A0_2 l0_2.length c0_2, .slice (some ad159) l0_3.length c0_3] 39 (0, 0)) (by (with_reducible repeat (first | refine kN ?_ _ | refine kD ?_ | refine kA ?_ _)); exact BK132.out) hg (Kd.N_ne HO_6.out BK132.out (by decide))); have n3_ := Aside0.mk (blk_grown (g := gb133) (o := .cells #[.int .i64 x134000_5, .int .i64 x134001_5, .slice A1_2 l1_2.length c1_2, .slice A1_3 l1_3.length c1_3] 39 (0, 0)) (by (with_reducible repeat (first | refine kN ?_ _ | refine kD ?_ | refine kA ?_ _)); exact BK133.out) hg (Kd.N_ne HO_6.out BK133.out (by decide))); have n4_ := Aside0.mk (blk_grown (g := gb134) (o := .cells #[.int .i64 x135000_2, .int .i64 x135001_2, .slice none 0 0, .slice none 0 0] 39 (0, 0)) (by (with_reducible repeat (first | refine kN ?_ _ | refine kD ?_ | refine kA ?_ _)); exact BK134.out) hg (Kd.N_ne HO_6.out BK134.out (by decide))); have n5_ := Aside0.mk (blk_grown (g := gb149) (o := .cells #[.int .i64 0, .int .i64 0, u150002, u150003] 39 (0, 0)) (by (with_reducible repeat (first | refine kN ?_ _ | refine kD ?_ | refine kA ?_ _)); exact BK149.out) hg (Kd.N_ne HO_6.out BK149.out (by decide))); have n6_ := Aside0.mk (hb); have n7_ := Aside0.mk (ho); clear HO_150002; clear HO_150003; clear BK132; clear BK133; clear BK134; clear BK149; clear HB; clear HO_6; clear HO167; have HO_150002 := n0_; have HO_150003 := n1_; have BK132 := n2_; have BK133 := n3_; have BK134 := n4_; have BK149 := n5_; have HB := n6_; have HO170 := n7_; clear n0_ n1_ n2_ n3_ n4_ n5_ n6_ n7_; clear ho hb hg hat))
                       have n0_ := Aside0.mk (rD HO_150002.out)
                       have n1_ := Aside0.mk (rD HO_150003.out)
                       have n2_ := Aside0.mk (Kd.N_drew HO170.out)
                       have n3_ := Aside0.mk (kD BK132.out)
                       have n4_ := Aside0.mk (kD BK133.out)
                       have n5_ := Aside0.mk (kD BK134.out)
                       have n6_ := Aside0.mk (kD BK149.out)
                       have n7_ := Aside0.mk (bD HB.out)
                       clear HO_150002
                       clear HO_150003
                       clear HO170
                       clear BK132
                       clear BK133
                       clear BK134
                       clear BK149
                       clear HB
                       have HO_150002 := n0_
                       have HO_150003 := n1_
                       have HO170 := n2_
                       have BK132 := n3_
                       have BK133 := n4_
                       have BK134 := n5_
                       have BK149 := n6_
                       have HB := n7_
                       clear n0_ n1_ n2_ n3_ n4_ n5_ n6_ n7_
                       have p171 : 0 ≤ (x11_5 : Int) := of_decide_eq_true (by first | (with_reducible assumption) | assumption)
                       have q171 : x11_5 < (l0_3.length : Int) := of_decide_eq_true (by first | (with_reducible assumption) | assumption)
                       obtain ⟨ad171, e171, hx171_0, hx171_1, hx171_2⟩ := at_T68 HR0_3.out x11_5 p171 q171
                       have hw171_2 := hx171_2
                       have hw171_1 := hx171_1
                       have hw171_0 := hx171_0
                       obtain rfl : ad159 = ad171 := (by injection e171)
                       replace hx171_0 := (HB.out.cell (World.block_lt_of_cell? w _ hx171_0)).trans hx171_0
                       replace hx171_1 := (HB.out.cell (World.block_lt_of_cell? w _ hx171_1)).trans hx171_1
                       replace hx171_2 := (HB.out.cell (World.block_lt_of_cell? w _ hx171_2)).trans hx171_2
                       replace p171 := eq_true p171
                       replace q171 := eq_true q171
                       refine start_ (n := 15) (S := fun w' => w'.cell? ⟨gb149, 0, none⟩ = some (.int .i64 0) ∧ w'.cell? ⟨gb149, 1, none⟩ = some (.int .i64 0) ∧ w'.cell? ⟨gb149, 2, none⟩ = some (u150002) ∧ w'.cell? ⟨gb149, 3, none⟩ = some (u150003) ∧ w'.cell? ⟨gb132, 0, none⟩ = some (.int .i64 x133000_2) ∧ w'.cell? ⟨gb132, 1, none⟩ = some (.int .i64 x133001_2) ∧ w'.cell? ⟨gb132, 2, none⟩ = some (.slice A0_2 l0_2.length c0_2) ∧ w'.cell? ⟨gb132, 3, none⟩ = some (.slice (some ad159) l0_3.length c0_3) ∧ w'.cell? (ad159.add ((x11_5).toNat * 3)) = some (.int .i64 ((rd_T68 l0_3 x11_5).f0)) ∧ w'.cell? ⟨(ad159.add ((x11_5).toNat * 3)).block, (ad159.add ((x11_5).toNat * 3)).off + 1, none⟩ = some (.int .i64 ((rd_T68 l0_3 x11_5).f1)) ∧ w'.cell? ⟨(ad159.add ((x11_5).toNat * 3)).block, (ad159.add ((x11_5).toNat * 3)).off + 2, none⟩ = some (.int .i64 ((rd_T68 l0_3 x11_5).f2))) (ds := [14]) #[F,F,F,F,F,F,F,F,F,F,F,F,F,F,F] (by kernel_rfl) rfl rfl ⟨(kC BK149.out 0).trans rfl, (kC BK149.out 1).trans rfl, (kC BK149.out 2).trans rfl, (kC BK149.out 3).trans rfl, (kC BK132.out 0).trans rfl, (kC BK132.out 1).trans rfl, (kC BK132.out 2).trans rfl, (kC BK132.out 3).trans rfl, ((HB.out.cell (World.block_lt_of_cell? w _ hw171_0)).trans hw171_0), ((HB.out.cell (World.block_lt_of_cell? w _ hw171_1)).trans hw171_1), ((HB.out.cell (World.block_lt_of_cell? w _ hw171_2)).trans hw171_2)⟩ (fun hHeld => ?_); refine with_tabW spec_MeetGrammars.tab22 spec_MeetGrammars.bits22 (fun HT_ HW_ => ?_)
                       generalize w88.drew = w90 at HO_150002 HO_150003 HO170 BK132 BK133 BK134 BK149 HB hx171_0 hx171_1 hx171_2 hHeld ⊢
                       refine pure_ (i := 0) (N := some 113) (v := ?_) (a' := ?_) #[T,F,F,F,F,F,F,F,F,F,F,F,F,F,F] rfl rfl (any_of HT_.out (by kernel_rfl)) (fun _ _ _ h => h) (Or.inl ⟨by rfl, ?_⟩) ?_ ?_; rotate_left; (·intro w'; go_simp; with_reducible rfl); rotate_left; (·simp only [Act.put, sI, sZ, sS, iW, jW]; rfl)
                       refine pure_ (i := 2) (N := some 115) (v := ?_) (a' := ?_) #[T,F,T,F,F,F,F,F,F,F,F,F,F,F,F] rfl rfl (any_of HT_.out (by kernel_rfl)) (fun _ _ _ h => h) (Or.inl ⟨by rfl, ?_⟩) ?_ ?_; rotate_left; (·intro w'; go_simp; with_reducible rfl); rotate_left; (·simp only [Act.put, sI, sZ, sS, iW, jW]; rfl)
                       refine pure_ (i := 3) (N := some 116) (v := ?_) (a' := ?_) #[T,F,T,T,F,F,F,F,F,F,F,F,F,F,F] rfl rfl (any_of HT_.out (by kernel_rfl)) (fun _ _ _ h => h) (Or.inl ⟨by rfl, ?_⟩) ?_ ?_; rotate_left; (·intro w'; go_simp; with_reducible rfl); rotate_left; (·simp only [Act.put, sI, sZ, sS, iW, jW]; rfl)
                       refine pure_ (i := 5) (N := some 118) (v := ?_) (a' := ?_) #[T,F,T,T,F,T,F,F,F,F,F,F,F,F,F] rfl rfl (any_of HT_.out (by kernel_rfl)) (fun _ _ _ h => h) (Or.inl ⟨by rfl, ?_⟩) ?_ ?_; rotate_left; (·intro w'; go_simp; with_reducible rfl); rotate_left; (·simp only [Act.put, sI, sZ, sS, iW, jW]; rfl)
                       refine pure_ (i := 9) (N := some 122) (v := ?_) (a' := ?_) #[T,F,T,T,F,T,F,F,F,T,F,F,F,F,F] rfl rfl (any_of HT_.out (by kernel_rfl)) (fun _ _ _ h => h) (Or.inl ⟨by rfl, ?_⟩) ?_ ?_; rotate_left; (·intro w'; go_simp; with_reducible rfl); rotate_left; (·simp only [Act.put, sI, sZ, sS, iW, jW]; rfl)
                       refine take_ (i := 1) (N := some 114) (v := ?_) (a' := ?_) #[T,T,T,T,F,T,F,F,F,T,F,F,F,F,F] rfl rfl (tW HT_.out HW_.out (by kernel_rfl)) (fun _ _ _ h => h) (Or.inl ⟨by rfl, ?_⟩) hHeld ?_ ?_; rotate_left; (·rintro w' ⟨s0, s1, s2, s3, s4, s5, s6, s7, s8, s9, s10⟩; go_simp; with_reducible rfl); rotate_left; (·simp only [Act.put, sI, sZ, sS, iW, jW]; rfl)
                       refine take_ (i := 4) (N := some 117) (v := ?_) (a' := ?_) #[T,T,T,T,T,T,F,F,F,T,F,F,F,F,F] rfl rfl (tW HT_.out HW_.out (by kernel_rfl)) (fun _ _ _ h => h) (Or.inl ⟨by rfl, ?_⟩) hHeld ?_ ?_; rotate_left; (·rintro w' ⟨s0, s1, s2, s3, s4, s5, s6, s7, s8, s9, s10⟩; go_simp; with_reducible rfl); rotate_left; (·simp only [Act.put, sI, sZ, sS, iW, jW]; rfl)
                       refine pure_ (i := 6) (N := some 119) (v := ?_) (a' := ?_) #[T,T,T,T,T,T,T,F,F,T,F,F,F,F,F] rfl rfl (any_of HT_.out (by kernel_rfl)) (fun _ _ _ h => h) (Or.inl ⟨by rfl, ?_⟩) ?_ ?_; rotate_left; (·intro w'; go_simp; with_reducible rfl); rotate_left; (·simp only [Act.put, sI, sZ, sS, iW, jW]; rfl)
                       refine pure_ (i := 7) (N := some 120) (v := ?_) (a' := ?_) #[T,T,T,T,T,T,T,T,F,T,F,F,F,F,F] rfl rfl (any_of HT_.out (by kernel_rfl)) (fun _ _ _ h => h) (Or.inl ⟨by rfl, ?_⟩) ?_ ?_; rotate_left; (·intro w'; go_simp; with_reducible rfl); rotate_left; (·simp only [Act.put, sI, sZ, sS, iW, jW]; rfl)
                       refine take_ (i := 8) (N := some 121) (v := ?_) (a' := ?_) #[T,T,T,T,T,T,T,T,T,T,F,F,F,F,F] rfl rfl (tW HT_.out HW_.out (by kernel_rfl)) (fun _ _ _ h => h) (Or.inl ⟨by rfl, ?_⟩) hHeld ?_ ?_; rotate_left; (·rintro w' ⟨s0, s1, s2, s3, s4, s5, s6, s7, s8, s9, s10⟩; go_simp; with_reducible rfl); rotate_left; (·simp only [Act.put, sI, sZ, sS, iW, jW]; rfl)
                       refine pure_ (i := 10) (N := some 123) (v := ?_) (a' := ?_) #[T,T,T,T,T,T,T,T,T,T,T,F,F,F,F] rfl rfl (any_of HT_.out (by kernel_rfl)) (fun _ _ _ h => h) (Or.inl ⟨by rfl, ?_⟩) ?_ ?_; rotate_left; (·intro w'; go_simp; with_reducible rfl); rotate_left; (·simp only [Act.put, sI, sZ, sS, iW, jW]; rfl)
                       refine one_ (i := 11) (N := some 124) #[T,T,T,T,T,T,T,T,T,T,T,T,F,F,F] rfl rfl (oO HT_.out (by kernel_rfl)) (by decide) (fun K hK => ?_)
                       refine value_ (w1 := ?_) (v := ?_) (by rfl) rfl ?_ ?_
                       rotate_left 2
                       ·go_simp
                        constructor
                        ·rfl
                        ·rfl
                       refine hK.out _ _ ⟨(kC (kA BK149.out _) 0).trans rfl, (kC (kA BK149.out _) 1).trans rfl, (kC (kA BK149.out _) 2).trans rfl, (kC (kA BK149.out _) 3).trans rfl, (kC (kA BK132.out _) 0).trans rfl, (kC (kA BK132.out _) 1).trans rfl, (kC (kA BK132.out _) 2).trans rfl, (kC (kA BK132.out _) 3).trans rfl, (World.cell?_alloc_lt _ _ _ (World.block_lt_of_cell? _ _ (((HB.out.cell (World.block_lt_of_cell? w _ hw171_0)).trans hw171_0)))).trans (((HB.out.cell (World.block_lt_of_cell? w _ hw171_0)).trans hw171_0)), (World.cell?_alloc_lt _ _ _ (World.block_lt_of_cell? _ _ (((HB.out.cell (World.block_lt_of_cell? w _ hw171_1)).trans hw171_1)))).trans (((HB.out.cell (World.block_lt_of_cell? w _ hw171_1)).trans hw171_1)), (World.cell?_alloc_lt _ _ _ (World.block_lt_of_cell? _ _ (((HB.out.cell (World.block_lt_of_cell? w _ hw171_2)).trans hw171_2)))).trans (((HB.out.cell (World.block_lt_of_cell? w _ hw171_2)).trans hw171_2))⟩ (fun hHeld => ?_)
                       clear hK K
                       refine norm_ (a' := ?_) ?_ ?_
                       rotate_left
                       ·show Act.put _ (some 124) _ = _
                        simp only [Act.put, sI, sZ, sS, iW, jW]
                        rfl
                       refine one_ (i := 12) (N := some 125) #[T,T,T,T,T,T,T,T,T,T,T,T,T,F,F] rfl rfl (oO HT_.out (by kernel_rfl)) (by decide) (fun K hK => ?_)
                       refine Kd.R_append_step k68 (w0 := w) w.heap.size (by rfl) (.tmp 114) (.tmp 124) 37 68 (.agg #[(.int .i64 0), (.int .i64 0), (.int .i64 0)]) 24 rfl Try.underlying37 info68 rfl (by decide) (by omega) u150003 x150003_5 (⟨x8_2, (rd_T68 l0_3 x11_5).f1, (x6_5.length : Int)⟩ : S68) [.int .i64 x8_2, .int .i64 ((rd_T68 l0_3 x11_5).f1), .int .i64 (x6_5.length : Int)] (fun _ => True) (fun _ => False) rfl rfl ?aP (fun _ hk => hk.elim) ?aF ?aO ?aB ?aS ?aL ?_
                       (case aP => exact k68_mkM _ _ _ (⟨x8_2, (rd_T68 l0_3 x11_5).f1, (x6_5.length : Int)⟩ : S68))
                       (case aB => exact (by repeat (first | (with_reducible first | exact HB.out | apply bA | apply bN | apply bD | refine bS ?_ GE132.out | refine bS ?_ GE133.out | refine bS ?_ GE134.out | refine bS ?_ GE149.out) | exact HB.out)))
                       (case aF => exact (fun _ _ => trivial))
                       (case aO => exact (by (with_reducible repeat (first | apply rA | apply rN | apply rD)); exact HO_150003.out))
                       (case aS => exact (bZ (by repeat (first | (with_reducible first | exact HB.out | apply bA | apply bN | apply bD | refine bS ?_ GE132.out | refine bS ?_ GE133.out | refine bS ?_ GE134.out | refine bS ?_ GE149.out) | exact HB.out))))
                       (case aL => have := LMc80.out; omega)
                       intro v173 w91 ho hb hg hat
                       rw [← Ny172.out] at ho
                       have n0_ := Aside0.mk (Kd.R_over' (by (with_reducible repeat (first | apply rA | apply rN | apply rD)); exact HO_150002.out) (Kd.R_typed (by (with_reducible repeat (first | apply rA | apply rN | apply rD)); exact HO_150003.out)) (by decide) hg)
                       have n1_ := Aside0.mk (blk_grown (g := gb132) (o := .cells #[.int .i64 x133000_2, .int .i64 x133001_2, .slice A0_2 l0_2.length c0_2, .slice (some ad159) l0_3.length c0_3] 39 (0, 0)) (by (with_reducible repeat (first | refine kN ?_ _ | refine kD ?_ | refine kA ?_ _)); exact BK132.out) hg (Kd.R_ne HO_150003.out BK132.out (by decide)))
                       have n2_ := Aside0.mk (blk_grown (g := gb133) (o := .cells #[.int .i64 x134000_5, .int .i64 x134001_5, .slice A1_2 l1_2.length c1_2, .slice A1_3 l1_3.length c1_3] 39 (0, 0)) (by (with_reducible repeat (first | refine kN ?_ _ | refine kD ?_ | refine kA ?_ _)); exact BK133.out) hg (Kd.R_ne HO_150003.out BK133.out (by decide)))
                       have n3_ := Aside0.mk (blk_grown (g := gb134) (o := .cells #[.int .i64 x135000_2, .int .i64 x135001_2, .slice none 0 0, .slice none 0 0] 39 (0, 0)) (by (with_reducible repeat (first | refine kN ?_ _ | refine kD ?_ | refine kA ?_ _)); exact BK134.out) hg (Kd.R_ne HO_150003.out BK134.out (by decide)))
                       have n4_ := Aside0.mk (blk_grown (g := gb149) (o := .cells #[.int .i64 0, .int .i64 0, u150002, u150003] 39 (0, 0)) (by (with_reducible repeat (first | refine kN ?_ _ | refine kD ?_ | refine kA ?_ _)); exact BK149.out) hg (Kd.R_ne HO_150003.out BK149.out (by decide)))
                       have n5_ := Aside0.mk (Kd.N_afterv (ok := (fun k_ => some k_ ≠ (u150002 : Value).ownBlock ∧ k_ ≠ gb132 ∧ k_ ≠ gb133 ∧ k_ ≠ gb134 ∧ k_ ≠ gb149)) (by (with_reducible repeat (first | apply Kd.N_alloc | apply Kd.N_drewN | apply Kd.N_drew)); exact Kd.N_mono HO170.out (fun _ hk => ⟨⟨hk.1, ⟨hk.2.2.1, ⟨hk.2.2.2.1, ⟨hk.2.2.2.2.1, hk.2.2.2.2.2⟩⟩⟩⟩, hk.2.1⟩)) hg hat)
                       have n6_ := Aside0.mk (hb)
                       have n7_ := Aside0.mk (ho)
                       clear HO_150002
                       clear BK132
                       clear BK133
                       clear BK134
                       clear BK149
                       clear HO170
                       clear HB
                       clear HO_150003
                       have HO_150002 := n0_
                       have BK132 := n1_
                       have BK133 := n2_
                       have BK134 := n3_
                       have BK149 := n4_
                       have HO170 := n5_
                       have HB := n6_
                       have HO174 := n7_
                       clear n0_ n1_ n2_ n3_ n4_ n5_ n6_ n7_
                       clear ho hb hg hat
                       obtain ⟨Ao92, co92, eo92⟩ := Kd.R_slice HO174.out
                       (first | subst eo92 | (injection eo92 with f1_ f2_ f3_; have f4_ := f1_.symm; have f5_ := f3_.symm; clear f1_ f2_ f3_; subst f4_; subst f5_))
                       refine hK.out _ _ ⟨(kC BK149.out 0).trans rfl, (kC BK149.out 1).trans rfl, (kC BK149.out 2).trans rfl, (kC BK149.out 3).trans rfl, (kC BK132.out 0).trans rfl, (kC BK132.out 1).trans rfl, (kC BK132.out 2).trans rfl, (kC BK132.out 3).trans rfl, ((HB.out.cell (World.block_lt_of_cell? w _ hw171_0)).trans hw171_0), ((HB.out.cell (World.block_lt_of_cell? w _ hw171_1)).trans hw171_1), ((HB.out.cell (World.block_lt_of_cell? w _ hw171_2)).trans hw171_2)⟩ (fun hHeld => ?_)
                       clear hK K
                       refine norm_ (a' := ?_) ?_ ?_
                       rotate_left
                       ·show Act.put _ (some 125) _ = _
                        simp only [Act.put, sI, sZ, sS, iW, jW]
                        rfl
                       refine pure_ (i := 13) (N := some 126) (v := ?_) (a' := ?_) #[T,T,T,T,T,T,T,T,T,T,T,T,T,T,F] rfl rfl (any_of HT_.out (by kernel_rfl)) (fun _ _ _ h => h) (Or.inl ⟨by rfl, ?_⟩) ?_ ?_; rotate_left; (·intro w'; go_simp; with_reducible rfl); rotate_left; (·simp only [Act.put, sI, sZ, sS, iW, jW]; rfl)
                       refine last_ (i := 14) (N := none) #[T,T,T,T,T,T,T,T,T,T,T,T,T,T,T] rfl rfl (oO HT_.out (by kernel_rfl)) (by decide) (fun K hK => ?_)
                       have hs93 : w91.cell? ⟨gb149, 3, none⟩ = some (u150003) := (kC BK149.out 3).trans rfl
                       have hfs93 := blk_frozen BK149.out 3
                       have hns93_0 := NB132_149.out
                       have hns93_1 := NB133_149.out
                       have hns93_2 := NB134_149.out
                       have hms93_0 := NB149_132.out
                       have hms93_1 := NB149_133.out
                       have hms93_2 := NB149_134.out
                       refine skip_ (w1 := ?_) (by rfl) rfl ?_ ?_
                       rotate_left
                       ·go_simp
                        rfl
                       refine hK.out _ _ ?_
                       clear hK K
                       refine done_ (done_of HT_.out (by kernel_rfl)) ?_
                       try go_wp2
                       go_roundg k5
                       case measure => have := HJ2.out; have := HK2.out; have := HJ41.out; have := HJ57.out; have := HK5.out; omega
                       case rel => exact ⟨(y168), (wrap64 (x11_5 + 1)), (x134000_5), (x134001_5), (y172), (.slice Ao92 y172.length co92), (by first | rfl | (simp; done) | (simp [*]; done)), H', ⟨by have := HJ2.out; have := HK2.out; have := HJ41.out; have := HJ57.out; have := HK5.out; omega⟩, ⟨by (with_reducible repeat (first | apply Kd.N_alloc | apply Kd.N_drewN | apply Kd.N_drew)); exact Kd.N_mono (Kd.N_far (p := ⟨gb149, 3, none⟩) (Kd.N_mono HO170.out (fun k_ hk => (⟨hk, hk.1.2.2.2.2⟩ : _ ∧ k_ ≠ gb149))) (fun _ hk => hk.2) (.slice Ao92 y172.length co92)) (fun _ hk => ⟨hk.1.1.1, ⟨hk.1.2, ⟨hk.1.1.2.1, ⟨hk.1.1.2.2.1, ⟨hk.1.1.2.2.2.1, hk.1.1.2.2.2.2⟩⟩⟩⟩⟩)⟩, ⟨by (with_reducible repeat (first | apply rA | apply rN | apply rD)); exact rM (Kd.R_far (p := ⟨gb149, 3, none⟩) (Kd.R_types HO_150002.out BK149.out (by decide)) (fun _ hk => hk.2) (.slice Ao92 y172.length co92)) (fun _ hk => trivial)⟩, ⟨by (with_reducible repeat (first | apply rA | apply rN | apply rD)); exact rM (Kd.R_far (p := ⟨gb149, 3, none⟩) (Kd.R_types HO174.out BK149.out (by decide)) (fun _ hk => hk.2) (.slice Ao92 y172.length co92)) (fun _ hk => trivial)⟩, ⟨by (with_reducible repeat (first | refine kN ?_ _ | refine kD ?_ | refine kA ?_ _)); refine kF ?_ NB132_149.out _; (with_reducible repeat (first | refine kN ?_ _ | refine kD ?_ | refine kA ?_ _)); exact BK132.out⟩, ⟨by (with_reducible repeat (first | refine kN ?_ _ | refine kD ?_ | refine kA ?_ _)); refine kF ?_ NB133_149.out _; (with_reducible repeat (first | refine kN ?_ _ | refine kD ?_ | refine kA ?_ _)); exact BK133.out⟩, ⟨by (with_reducible repeat (first | refine kN ?_ _ | refine kD ?_ | refine kA ?_ _)); refine kF ?_ NB134_149.out _; (with_reducible repeat (first | refine kN ?_ _ | refine kD ?_ | refine kA ?_ _)); exact BK134.out⟩, ⟨by (with_reducible repeat (first | refine kN ?_ _ | refine kD ?_ | refine kA ?_ _)); refine blk_put (cs := #[.int .i64 0, .int .i64 0, u150002, u150003]) ?_ 3 _ rfl; (with_reducible repeat (first | refine kN ?_ _ | refine kD ?_ | refine kA ?_ _)); exact BK149.out⟩, ⟨by repeat (first | (with_reducible first | exact HB.out | apply bA | apply bN | apply bD | refine bS ?_ GE132.out | refine bS ?_ GE133.out | refine bS ?_ GE134.out | refine bS ?_ GE149.out) | exact HB.out)⟩⟩
                      ·rw [if_neg c80] at H
                       exact absurd H (by simp)
                     ·rw [if_neg c79] at H
                      exact absurd H (by simp)
                    ·rw [if_neg c78] at H
                     have c78b0 : decide (t163 < 0) = false := decide_eq_false c78
                     clear c78
                     by_cases c94 : x150003_5.length < 5864062014805
                     ·rw [if_pos c94] at H
                      have LMc94 := Aside0.mk c94
                      clear c94
                      obtain ⟨y176, hy176⟩ : ∃ y_ : List (S68), y_ = (x150003_5 ++ [(⟨x8_2, (rd_T68 l0_3 x11_5).f1, t163⟩ : S68)]) := ⟨_, rfl⟩
                      replace H : (spec_MeetGrammars.l1 k5 x6_5 x8_2 (rd (rd_L3 x6_2 x8_2) 0) (rd (rd_L3 x6_2 x8_2) 1) (wrap64 (x11_5 + 1)) x133000_2 x133001_2 l0_2 l0_3 x134000_5 x134001_5 l1_2 l1_3 0 0 x150002_57 y176) = some (r1, r2, r3, r4, r5) := by first | (rw [hy176]; with_reducible exact H) | (have H2_ := (Option.bind_some _ _).symm.trans H; rw [hy176]; with_reducible exact H2_) | (have H2_ := (Option.bind_some _ _).symm.trans H; with_reducible exact H2_) | with_reducible exact H | (rw [hy176]; exact H) | exact H
                      have Ny176 := Aside0.mk hy176
                      clear hy176
                      have H' := Aside0.mk H
                      clear H
                      have hnb95 := NB132_133.out
                      have hnc95 := NB133_132.out
                      have hnb96 := NB132_134.out
                      have hnc96 := NB134_132.out
                      have hnb97 := NB132_149.out
                      have hnc97 := NB149_132.out
                      have hcz98_0 : wr.cell? ⟨gb132, 0, none⟩ = some (.int .i64 x133000_2) := (kC BK132.out 0).trans rfl
                      have hcz98_1 : wr.cell? ⟨gb132, 1, none⟩ = some (.int .i64 x133001_2) := (kC BK132.out 1).trans rfl
                      have hcz98_2 : wr.cell? ⟨gb132, 2, none⟩ = some (.slice A0_2 l0_2.length c0_2) := (kC BK132.out 2).trans rfl
                      have hcz98_3 : wr.cell? ⟨gb132, 3, none⟩ = some (.slice A0_3 l0_3.length c0_3) := (kC BK132.out 3).trans rfl
                      have hfz98_0 := blk_frozen BK132.out 0
                      have hfz98_1 := blk_frozen BK132.out 1
                      have hfz98_2 := blk_frozen BK132.out 2
                      have hfz98_3 := blk_frozen BK132.out 3
                      have p159 : 0 ≤ (x11_5 : Int) := of_decide_eq_true (by first | (with_reducible assumption) | assumption)
                      have q159 : x11_5 < (l0_3.length : Int) := of_decide_eq_true (by first | (with_reducible assumption) | assumption)
                      obtain ⟨ad159, e159, hx159_0, hx159_1, hx159_2⟩ := at_T68 HR0_3.out x11_5 p159 q159
                      cases e159
                      replace hx159_0 := (HB.out.cell (World.block_lt_of_cell? w _ hx159_0)).trans hx159_0
                      replace hx159_1 := (HB.out.cell (World.block_lt_of_cell? w _ hx159_1)).trans hx159_1
                      replace hx159_2 := (HB.out.cell (World.block_lt_of_cell? w _ hx159_2)).trans hx159_2
                      replace p159 := eq_true p159
                      replace q159 := eq_true q159
                      have p160 : 0 ≤ (x11_5 : Int) := of_decide_eq_true (by first | (with_reducible assumption) | assumption)
                      have q160 : x11_5 < (l0_3.length : Int) := of_decide_eq_true (by first | (with_reducible assumption) | assumption)
                      obtain ⟨ad160, e160, hx160_0, hx160_1, hx160_2⟩ := at_T68 HR0_3.out x11_5 p160 q160
                      obtain rfl : ad159 = ad160 := (by injection e160)
                      replace hx160_0 := (HB.out.cell (World.block_lt_of_cell? w _ hx160_0)).trans hx160_0
                      replace hx160_1 := (HB.out.cell (World.block_lt_of_cell? w _ hx160_1)).trans hx160_1
                      replace hx160_2 := (HB.out.cell (World.block_lt_of_cell? w _ hx160_2)).trans hx160_2
                      replace p160 := eq_true p160
                      replace q160 := eq_true q160
                      try go_wp2_with (first | ((with_reducible refine gC (f := 38) rfl ?_); refine goesL_ (some 86) rfl rfl Try.func38 (by kernel_rfl) rfl #[.pointer (some ⟨gb133, 0, none⟩), .int .i64 (rd (rd_L3 x6_2 x8_2) 1), .int .i64 ((rd_T68 l0_3 x11_5).f1)] rfl (by (try simp only [List.map_toArray, List.map_cons, List.map_nil]); first | done | rfl | (simp only [List.length_drop, List.length_take]; rfl)) ?_; (with_reducible refine (spec_l07Step.calls k5 ⟨gb133, 0, none⟩ x134000_5 x134001_5 l1_2 l1_3 (rd (rd_L3 x6_2 x8_2) 1) ((rd_T68 l0_3 x11_5).f1) t161 _ ?side1 A71.out).mono ?_); (case side1 => exact C_box (t := 39) (show _ from by (with_reducible repeat (first | refine kN ?_ _ | refine kD ?_ | refine kA ?_ _)); exact BK133.out) (k39_mk _ (⟨x134000_5, x134001_5, l1_2, l1_3⟩ : S39) (by exact HC1_2.out) (by repeat (first | exact (cB HR1_2.out HB.out) | (with_reducible refine cA ?_ _) | (with_reducible refine cN ?_ _) | (with_reducible refine cD ?_))) (by exact HC1_3.out) (by repeat (first | exact (cB HR1_3.out HB.out) | (with_reducible refine cA ?_ _) | (with_reducible refine cN ?_ _) | (with_reducible refine cD ?_))))); rintro e w' ⟨rfl, ⟨nd, rfl⟩⟩; refine ⟨_, rfl, ?_⟩; (try (rw [drewN_self wr]; generalize hq_ : World.drewN wr _ = wr; have n0_ : Aside0 (Kd.R (Kd.int .i64) 2 wr w.heap.size (fun _ => True) u150002 x150002_57) := ⟨by rw [← hq_]; exact (by (with_reducible repeat (first | apply rA | apply rN | apply rD)); exact HO_150002.out)⟩; have n1_ : Aside0 (Kd.R k68 68 wr w.heap.size (fun _ => True) u150003 x150003_5) := ⟨by rw [← hq_]; exact (by (with_reducible repeat (first | apply rA | apply rN | apply rD)); exact HO_150003.out)⟩; have n2_ : Aside0 (Kd.N (Kd.slice 2 (Kd.int .i64)) 22 wr w.heap.size (fun k_ => some k_ ≠ (u150002 : Value).ownBlock ∧ some k_ ≠ (u150003 : Value).ownBlock ∧ k_ ≠ gb132 ∧ k_ ≠ gb133 ∧ k_ ≠ gb134 ∧ k_ ≠ gb149) u6 x6_5) := ⟨by rw [← hq_]; exact (by (with_reducible repeat (first | apply Kd.N_alloc | apply Kd.N_drewN | apply Kd.N_drew)); exact HO_6.out)⟩; have n3_ : Aside0 (wr.heap[gb132]? = some (.cells #[.int .i64 x133000_2, .int .i64 x133001_2, .slice A0_2 l0_2.length c0_2, .slice (some ad159) l0_3.length c0_3] 39 (0, 0))) := ⟨by rw [← hq_]; exact (by (with_reducible repeat (first | refine kN ?_ _ | refine kD ?_ | refine kA ?_ _)); exact BK132.out)⟩; have n4_ : Aside0 (wr.heap[gb133]? = some (.cells #[.int .i64 x134000_5, .int .i64 x134001_5, .slice A1_2 l1_2.length c1_2, .slice A1_3 l1_3.length c1_3] 39 (0, 0))) := ⟨by rw [← hq_]; exact (by (with_reducible repeat (first | refine kN ?_ _ | refine kD ?_ | refine kA ?_ _)); exact BK133.out)⟩; have n5_ : Aside0 (wr.heap[gb134]? = some (.cells #[.int .i64 x135000_2, .int .i64 x135001_2, .slice none 0 0, .slice none 0 0] 39 (0, 0))) := ⟨by rw [← hq_]; exact (by (with_reducible repeat (first | refine kN ?_ _ | refine kD ?_ | refine kA ?_ _)); exact BK134.out)⟩; have n6_ : Aside0 (wr.heap[gb149]? = some (.cells #[.int .i64 0, .int .i64 0, u150002, u150003] 39 (0, 0))) := ⟨by rw [← hq_]; exact (by (with_reducible repeat (first | refine kN ?_ _ | refine kD ?_ | refine kA ?_ _)); exact BK149.out)⟩; have n7_ : Aside0 (Below w.heap.size w wr) := ⟨by rw [← hq_]; exact (by repeat (first | (with_reducible first | exact HB.out | apply bA | apply bN | apply bD | refine bS ?_ GE132.out | refine bS ?_ GE133.out | refine bS ?_ GE134.out | refine bS ?_ GE149.out) | exact HB.out))⟩; clear HO_150002 HO_150003 HO_6 BK132 BK133 BK134 BK149 HB hq_; have HO_150002 := n0_; have HO_150003 := n1_; have HO_6 := n2_; have BK132 := n3_; have BK133 := n4_; have BK134 := n5_; have BK149 := n6_; have HB := n7_; clear n0_ n1_ n2_ n3_ n4_ n5_ n6_ n7_)); have hcz98_0 : wr.cell? ⟨gb132, 0, none⟩ = some (.int .i64 x133000_2) := (kC BK132.out 0).trans rfl; have hfz98_0 := blk_frozen BK132.out 0; have hcz98_1 : wr.cell? ⟨gb132, 1, none⟩ = some (.int .i64 x133001_2) := (kC BK132.out 1).trans rfl; have hfz98_1 := blk_frozen BK132.out 1; have hcz98_2 : wr.cell? ⟨gb132, 2, none⟩ = some (.slice A0_2 l0_2.length c0_2) := (kC BK132.out 2).trans rfl; have hfz98_2 := blk_frozen BK132.out 2; have hcz98_3 : wr.cell? ⟨gb132, 3, none⟩ = some (.slice (some ad159) l0_3.length c0_3) := (kC BK132.out 3).trans rfl; have hfz98_3 := blk_frozen BK132.out 3; have p162 : 0 ≤ (x11_5 : Int) := of_decide_eq_true (by first | (with_reducible assumption) | assumption); have q162 : x11_5 < (l0_3.length : Int) := of_decide_eq_true (by first | (with_reducible assumption) | assumption); obtain ⟨ad162, e162, hx162_0, hx162_1, hx162_2⟩ := at_T68 HR0_3.out x11_5 p162 q162; obtain rfl : ad159 = ad162 := (by injection e162); replace hx162_0 := (HB.out.cell (World.block_lt_of_cell? w _ hx162_0)).trans hx162_0; replace hx162_1 := (HB.out.cell (World.block_lt_of_cell? w _ hx162_1)).trans hx162_1; replace hx162_2 := (HB.out.cell (World.block_lt_of_cell? w _ hx162_2)).trans hx162_2; replace p162 := eq_true p162; replace q162 := eq_true q162; obtain ⟨Ao99, co99, eo99⟩ := Kd.N_slice HO_6.out; subst eo99) | ((with_reducible refine gC (f := 39) rfl ?_); refine goesL_ (some 97) rfl rfl Try.func39 (by kernel_rfl) rfl #[.slice Ao99 x6_5.length co99, .int .i64 ((rd_T68 l0_3 x11_5).f2), .int .i64 t161] rfl (by (try simp only [List.map_toArray, List.map_cons, List.map_nil]); first | done | rfl | (simp only [List.length_drop, List.length_take]; rfl)) ?_; (with_reducible refine (spec_l07Pair.calls k5 _ _ x6_5 ((rd_T68 l0_3 x11_5).f2) t161 t163 _ ?side1 ?side2 A77.out).mono ?_); (case side1 => repeat (first | exact (Kd.N_reads' HO_6.out).2.2 | (with_reducible refine cA ?_ _) | (with_reducible refine cN ?_ _) | (with_reducible refine cD ?_))); (case side2 => exact (Kd.N_reads' HO_6.out).2.1); rintro e w' ⟨rfl, ⟨nd, rfl⟩⟩; refine ⟨_, rfl, ?_⟩; (try (rw [drewN_self wr]; generalize hq_ : World.drewN wr _ = wr; have n0_ : Aside0 (Kd.R (Kd.int .i64) 2 wr w.heap.size (fun _ => True) u150002 x150002_57) := ⟨by rw [← hq_]; exact (by (with_reducible repeat (first | apply rA | apply rN | apply rD)); exact HO_150002.out)⟩; have n1_ : Aside0 (Kd.R k68 68 wr w.heap.size (fun _ => True) u150003 x150003_5) := ⟨by rw [← hq_]; exact (by (with_reducible repeat (first | apply rA | apply rN | apply rD)); exact HO_150003.out)⟩; have n2_ : Aside0 (Kd.N (Kd.slice 2 (Kd.int .i64)) 22 wr w.heap.size (fun k_ => some k_ ≠ (u150002 : Value).ownBlock ∧ some k_ ≠ (u150003 : Value).ownBlock ∧ k_ ≠ gb132 ∧ k_ ≠ gb133 ∧ k_ ≠ gb134 ∧ k_ ≠ gb149) (.slice Ao99 x6_5.length co99) x6_5) := ⟨by rw [← hq_]; exact (by (with_reducible repeat (first | apply Kd.N_alloc | apply Kd.N_drewN | apply Kd.N_drew)); exact HO_6.out)⟩; have n3_ : Aside0 (wr.heap[gb132]? = some (.cells #[.int .i64 x133000_2, .int .i64 x133001_2, .slice A0_2 l0_2.length c0_2, .slice (some ad159) l0_3.length c0_3] 39 (0, 0))) := ⟨by rw [← hq_]; exact (by (with_reducible repeat (first | refine kN ?_ _ | refine kD ?_ | refine kA ?_ _)); exact BK132.out)⟩; have n4_ : Aside0 (wr.heap[gb133]? = some (.cells #[.int .i64 x134000_5, .int .i64 x134001_5, .slice A1_2 l1_2.length c1_2, .slice A1_3 l1_3.length c1_3] 39 (0, 0))) := ⟨by rw [← hq_]; exact (by (with_reducible repeat (first | refine kN ?_ _ | refine kD ?_ | refine kA ?_ _)); exact BK133.out)⟩; have n5_ : Aside0 (wr.heap[gb134]? = some (.cells #[.int .i64 x135000_2, .int .i64 x135001_2, .slice none 0 0, .slice none 0 0] 39 (0, 0))) := ⟨by rw [← hq_]; exact (by (with_reducible repeat (first | refine kN ?_ _ | refine kD ?_ | refine kA ?_ _)); exact BK134.out)⟩; have n6_ : Aside0 (wr.heap[gb149]? = some (.cells #[.int .i64 0, .int .i64 0, u150002, u150003] 39 (0, 0))) := ⟨by rw [← hq_]; exact (by (with_reducible repeat (first | refine kN ?_ _ | refine kD ?_ | refine kA ?_ _)); exact BK149.out)⟩; have n7_ : Aside0 (Below w.heap.size w wr) := ⟨by rw [← hq_]; exact (by repeat (first | (with_reducible first | exact HB.out | apply bA | apply bN | apply bD | refine bS ?_ GE132.out | refine bS ?_ GE133.out | refine bS ?_ GE134.out | refine bS ?_ GE149.out) | exact HB.out))⟩; clear HO_150002 HO_150003 HO_6 BK132 BK133 BK134 BK149 HB hq_; have HO_150002 := n0_; have HO_150003 := n1_; have HO_6 := n2_; have BK132 := n3_; have BK133 := n4_; have BK134 := n5_; have BK149 := n6_; have HB := n7_; clear n0_ n1_ n2_ n3_ n4_ n5_ n6_ n7_)); have hcz98_0 : wr.cell? ⟨gb132, 0, none⟩ = some (.int .i64 x133000_2) := (kC BK132.out 0).trans rfl; have hfz98_0 := blk_frozen BK132.out 0; have hcz98_1 : wr.cell? ⟨gb132, 1, none⟩ = some (.int .i64 x133001_2) := (kC BK132.out 1).trans rfl; have hfz98_1 := blk_frozen BK132.out 1; have hcz98_2 : wr.cell? ⟨gb132, 2, none⟩ = some (.slice A0_2 l0_2.length c0_2) := (kC BK132.out 2).trans rfl; have hfz98_2 := blk_frozen BK132.out 2; have hcz98_3 : wr.cell? ⟨gb132, 3, none⟩ = some (.slice (some ad159) l0_3.length c0_3) := (kC BK132.out 3).trans rfl; have hfz98_3 := blk_frozen BK132.out 3))
                      have n0_ := Aside0.mk (Kd.N_drew HO_6.out)
                      have n1_ := Aside0.mk (rD HO_150002.out)
                      have n2_ := Aside0.mk (rD HO_150003.out)
                      have n3_ := Aside0.mk (kD BK132.out)
                      have n4_ := Aside0.mk (kD BK133.out)
                      have n5_ := Aside0.mk (kD BK134.out)
                      have n6_ := Aside0.mk (kD BK149.out)
                      have n7_ := Aside0.mk (bD HB.out)
                      clear HO_6
                      clear HO_150002
                      clear HO_150003
                      clear BK132
                      clear BK133
                      clear BK134
                      clear BK149
                      clear HB
                      have HO_6 := n0_
                      have HO_150002 := n1_
                      have HO_150003 := n2_
                      have BK132 := n3_
                      have BK133 := n4_
                      have BK134 := n5_
                      have BK149 := n6_
                      have HB := n7_
                      clear n0_ n1_ n2_ n3_ n4_ n5_ n6_ n7_
                      have p175 : 0 ≤ (x11_5 : Int) := of_decide_eq_true (by first | (with_reducible assumption) | assumption)
                      have q175 : x11_5 < (l0_3.length : Int) := of_decide_eq_true (by first | (with_reducible assumption) | assumption)
                      obtain ⟨ad175, e175, hx175_0, hx175_1, hx175_2⟩ := at_T68 HR0_3.out x11_5 p175 q175
                      have hw175_2 := hx175_2
                      have hw175_1 := hx175_1
                      have hw175_0 := hx175_0
                      obtain rfl : ad159 = ad175 := (by injection e175)
                      replace hx175_0 := (HB.out.cell (World.block_lt_of_cell? w _ hx175_0)).trans hx175_0
                      replace hx175_1 := (HB.out.cell (World.block_lt_of_cell? w _ hx175_1)).trans hx175_1
                      replace hx175_2 := (HB.out.cell (World.block_lt_of_cell? w _ hx175_2)).trans hx175_2
                      replace p175 := eq_true p175
                      replace q175 := eq_true q175
                      refine start_ (n := 15) (S := fun w' => w'.cell? ⟨gb149, 0, none⟩ = some (.int .i64 0) ∧ w'.cell? ⟨gb149, 1, none⟩ = some (.int .i64 0) ∧ w'.cell? ⟨gb149, 2, none⟩ = some (u150002) ∧ w'.cell? ⟨gb149, 3, none⟩ = some (u150003) ∧ w'.cell? ⟨gb132, 0, none⟩ = some (.int .i64 x133000_2) ∧ w'.cell? ⟨gb132, 1, none⟩ = some (.int .i64 x133001_2) ∧ w'.cell? ⟨gb132, 2, none⟩ = some (.slice A0_2 l0_2.length c0_2) ∧ w'.cell? ⟨gb132, 3, none⟩ = some (.slice (some ad159) l0_3.length c0_3) ∧ w'.cell? (ad159.add ((x11_5).toNat * 3)) = some (.int .i64 ((rd_T68 l0_3 x11_5).f0)) ∧ w'.cell? ⟨(ad159.add ((x11_5).toNat * 3)).block, (ad159.add ((x11_5).toNat * 3)).off + 1, none⟩ = some (.int .i64 ((rd_T68 l0_3 x11_5).f1)) ∧ w'.cell? ⟨(ad159.add ((x11_5).toNat * 3)).block, (ad159.add ((x11_5).toNat * 3)).off + 2, none⟩ = some (.int .i64 ((rd_T68 l0_3 x11_5).f2))) (ds := [14]) #[F,F,F,F,F,F,F,F,F,F,F,F,F,F,F] (by kernel_rfl) rfl rfl ⟨(kC BK149.out 0).trans rfl, (kC BK149.out 1).trans rfl, (kC BK149.out 2).trans rfl, (kC BK149.out 3).trans rfl, (kC BK132.out 0).trans rfl, (kC BK132.out 1).trans rfl, (kC BK132.out 2).trans rfl, (kC BK132.out 3).trans rfl, ((HB.out.cell (World.block_lt_of_cell? w _ hw175_0)).trans hw175_0), ((HB.out.cell (World.block_lt_of_cell? w _ hw175_1)).trans hw175_1), ((HB.out.cell (World.block_lt_of_cell? w _ hw175_2)).trans hw175_2)⟩ (fun hHeld => ?_); refine with_tabW spec_MeetGrammars.tab22 spec_MeetGrammars.bits22 (fun HT_ HW_ => ?_)
                      generalize wr.drew = w100 at HO_6 HO_150002 HO_150003 BK132 BK133 BK134 BK149 HB hx175_0 hx175_1 hx175_2 hHeld ⊢
                      refine pure_ (i := 0) (N := some 113) (v := ?_) (a' := ?_) #[T,F,F,F,F,F,F,F,F,F,F,F,F,F,F] rfl rfl (any_of HT_.out (by kernel_rfl)) (fun _ _ _ h => h) (Or.inl ⟨by rfl, ?_⟩) ?_ ?_; rotate_left; (·intro w'; go_simp; with_reducible rfl); rotate_left; (·simp only [Act.put, sI, sZ, sS, iW, jW]; rfl)
                      refine pure_ (i := 2) (N := some 115) (v := ?_) (a' := ?_) #[T,F,T,F,F,F,F,F,F,F,F,F,F,F,F] rfl rfl (any_of HT_.out (by kernel_rfl)) (fun _ _ _ h => h) (Or.inl ⟨by rfl, ?_⟩) ?_ ?_; rotate_left; (·intro w'; go_simp; with_reducible rfl); rotate_left; (·simp only [Act.put, sI, sZ, sS, iW, jW]; rfl)
                      refine pure_ (i := 3) (N := some 116) (v := ?_) (a' := ?_) #[T,F,T,T,F,F,F,F,F,F,F,F,F,F,F] rfl rfl (any_of HT_.out (by kernel_rfl)) (fun _ _ _ h => h) (Or.inl ⟨by rfl, ?_⟩) ?_ ?_; rotate_left; (·intro w'; go_simp; with_reducible rfl); rotate_left; (·simp only [Act.put, sI, sZ, sS, iW, jW]; rfl)
                      refine pure_ (i := 5) (N := some 118) (v := ?_) (a' := ?_) #[T,F,T,T,F,T,F,F,F,F,F,F,F,F,F] rfl rfl (any_of HT_.out (by kernel_rfl)) (fun _ _ _ h => h) (Or.inl ⟨by rfl, ?_⟩) ?_ ?_; rotate_left; (·intro w'; go_simp; with_reducible rfl); rotate_left; (·simp only [Act.put, sI, sZ, sS, iW, jW]; rfl)
                      refine pure_ (i := 9) (N := some 122) (v := ?_) (a' := ?_) #[T,F,T,T,F,T,F,F,F,T,F,F,F,F,F] rfl rfl (any_of HT_.out (by kernel_rfl)) (fun _ _ _ h => h) (Or.inl ⟨by rfl, ?_⟩) ?_ ?_; rotate_left; (·intro w'; go_simp; with_reducible rfl); rotate_left; (·simp only [Act.put, sI, sZ, sS, iW, jW]; rfl)
                      refine take_ (i := 1) (N := some 114) (v := ?_) (a' := ?_) #[T,T,T,T,F,T,F,F,F,T,F,F,F,F,F] rfl rfl (tW HT_.out HW_.out (by kernel_rfl)) (fun _ _ _ h => h) (Or.inl ⟨by rfl, ?_⟩) hHeld ?_ ?_; rotate_left; (·rintro w' ⟨s0, s1, s2, s3, s4, s5, s6, s7, s8, s9, s10⟩; go_simp; with_reducible rfl); rotate_left; (·simp only [Act.put, sI, sZ, sS, iW, jW]; rfl)
                      refine take_ (i := 4) (N := some 117) (v := ?_) (a' := ?_) #[T,T,T,T,T,T,F,F,F,T,F,F,F,F,F] rfl rfl (tW HT_.out HW_.out (by kernel_rfl)) (fun _ _ _ h => h) (Or.inl ⟨by rfl, ?_⟩) hHeld ?_ ?_; rotate_left; (·rintro w' ⟨s0, s1, s2, s3, s4, s5, s6, s7, s8, s9, s10⟩; go_simp; with_reducible rfl); rotate_left; (·simp only [Act.put, sI, sZ, sS, iW, jW]; rfl)
                      refine pure_ (i := 6) (N := some 119) (v := ?_) (a' := ?_) #[T,T,T,T,T,T,T,F,F,T,F,F,F,F,F] rfl rfl (any_of HT_.out (by kernel_rfl)) (fun _ _ _ h => h) (Or.inl ⟨by rfl, ?_⟩) ?_ ?_; rotate_left; (·intro w'; go_simp; with_reducible rfl); rotate_left; (·simp only [Act.put, sI, sZ, sS, iW, jW]; rfl)
                      refine pure_ (i := 7) (N := some 120) (v := ?_) (a' := ?_) #[T,T,T,T,T,T,T,T,F,T,F,F,F,F,F] rfl rfl (any_of HT_.out (by kernel_rfl)) (fun _ _ _ h => h) (Or.inl ⟨by rfl, ?_⟩) ?_ ?_; rotate_left; (·intro w'; go_simp; with_reducible rfl); rotate_left; (·simp only [Act.put, sI, sZ, sS, iW, jW]; rfl)
                      refine take_ (i := 8) (N := some 121) (v := ?_) (a' := ?_) #[T,T,T,T,T,T,T,T,T,T,F,F,F,F,F] rfl rfl (tW HT_.out HW_.out (by kernel_rfl)) (fun _ _ _ h => h) (Or.inl ⟨by rfl, ?_⟩) hHeld ?_ ?_; rotate_left; (·rintro w' ⟨s0, s1, s2, s3, s4, s5, s6, s7, s8, s9, s10⟩; go_simp; with_reducible rfl); rotate_left; (·simp only [Act.put, sI, sZ, sS, iW, jW]; rfl)
                      refine pure_ (i := 10) (N := some 123) (v := ?_) (a' := ?_) #[T,T,T,T,T,T,T,T,T,T,T,F,F,F,F] rfl rfl (any_of HT_.out (by kernel_rfl)) (fun _ _ _ h => h) (Or.inl ⟨by rfl, ?_⟩) ?_ ?_; rotate_left; (·intro w'; go_simp; with_reducible rfl); rotate_left; (·simp only [Act.put, sI, sZ, sS, iW, jW]; rfl)
                      refine one_ (i := 11) (N := some 124) #[T,T,T,T,T,T,T,T,T,T,T,T,F,F,F] rfl rfl (oO HT_.out (by kernel_rfl)) (by decide) (fun K hK => ?_)
                      refine value_ (w1 := ?_) (v := ?_) (by rfl) rfl ?_ ?_
                      rotate_left 2
                      ·go_simp
                       constructor
                       ·rfl
                       ·rfl
                      refine hK.out _ _ ⟨(kC (kA BK149.out _) 0).trans rfl, (kC (kA BK149.out _) 1).trans rfl, (kC (kA BK149.out _) 2).trans rfl, (kC (kA BK149.out _) 3).trans rfl, (kC (kA BK132.out _) 0).trans rfl, (kC (kA BK132.out _) 1).trans rfl, (kC (kA BK132.out _) 2).trans rfl, (kC (kA BK132.out _) 3).trans rfl, (World.cell?_alloc_lt _ _ _ (World.block_lt_of_cell? _ _ (((HB.out.cell (World.block_lt_of_cell? w _ hw175_0)).trans hw175_0)))).trans (((HB.out.cell (World.block_lt_of_cell? w _ hw175_0)).trans hw175_0)), (World.cell?_alloc_lt _ _ _ (World.block_lt_of_cell? _ _ (((HB.out.cell (World.block_lt_of_cell? w _ hw175_1)).trans hw175_1)))).trans (((HB.out.cell (World.block_lt_of_cell? w _ hw175_1)).trans hw175_1)), (World.cell?_alloc_lt _ _ _ (World.block_lt_of_cell? _ _ (((HB.out.cell (World.block_lt_of_cell? w _ hw175_2)).trans hw175_2)))).trans (((HB.out.cell (World.block_lt_of_cell? w _ hw175_2)).trans hw175_2))⟩ (fun hHeld => ?_)
                      clear hK K
                      refine norm_ (a' := ?_) ?_ ?_
                      rotate_left
                      ·show Act.put _ (some 124) _ = _
                       simp only [Act.put, sI, sZ, sS, iW, jW]
                       rfl
                      refine one_ (i := 12) (N := some 125) #[T,T,T,T,T,T,T,T,T,T,T,T,T,F,F] rfl rfl (oO HT_.out (by kernel_rfl)) (by decide) (fun K hK => ?_)
                      refine Kd.R_append_step k68 (w0 := w) w.heap.size (by rfl) (.tmp 114) (.tmp 124) 37 68 (.agg #[(.int .i64 0), (.int .i64 0), (.int .i64 0)]) 24 rfl Try.underlying37 info68 rfl (by decide) (by omega) u150003 x150003_5 (⟨x8_2, (rd_T68 l0_3 x11_5).f1, t163⟩ : S68) [.int .i64 x8_2, .int .i64 ((rd_T68 l0_3 x11_5).f1), .int .i64 t163] (fun _ => True) (fun _ => False) rfl rfl ?aP (fun _ hk => hk.elim) ?aF ?aO ?aB ?aS ?aL ?_
                      (case aP => exact k68_mkM _ _ _ (⟨x8_2, (rd_T68 l0_3 x11_5).f1, t163⟩ : S68))
                      (case aB => exact (by repeat (first | (with_reducible first | exact HB.out | apply bA | apply bN | apply bD | refine bS ?_ GE132.out | refine bS ?_ GE133.out | refine bS ?_ GE134.out | refine bS ?_ GE149.out) | exact HB.out)))
                      (case aF => exact (fun _ _ => trivial))
                      (case aO => exact (by (with_reducible repeat (first | apply rA | apply rN | apply rD)); exact HO_150003.out))
                      (case aS => exact (bZ (by repeat (first | (with_reducible first | exact HB.out | apply bA | apply bN | apply bD | refine bS ?_ GE132.out | refine bS ?_ GE133.out | refine bS ?_ GE134.out | refine bS ?_ GE149.out) | exact HB.out))))
                      (case aL => have := LMc94.out; omega)
                      intro v177 w101 ho hb hg hat
                      rw [← Ny176.out] at ho
                      have n0_ := Aside0.mk (Kd.N_afterv (ok := (fun k_ => some k_ ≠ (u150002 : Value).ownBlock ∧ k_ ≠ gb132 ∧ k_ ≠ gb133 ∧ k_ ≠ gb134 ∧ k_ ≠ gb149)) (by (with_reducible repeat (first | apply Kd.N_alloc | apply Kd.N_drewN | apply Kd.N_drew)); exact Kd.N_mono HO_6.out (fun _ hk => ⟨⟨hk.1, ⟨hk.2.2.1, ⟨hk.2.2.2.1, ⟨hk.2.2.2.2.1, hk.2.2.2.2.2⟩⟩⟩⟩, hk.2.1⟩)) hg hat)
                      have n1_ := Aside0.mk (Kd.R_over' (by (with_reducible repeat (first | apply rA | apply rN | apply rD)); exact HO_150002.out) (Kd.R_typed (by (with_reducible repeat (first | apply rA | apply rN | apply rD)); exact HO_150003.out)) (by decide) hg)
                      have n2_ := Aside0.mk (blk_grown (g := gb132) (o := .cells #[.int .i64 x133000_2, .int .i64 x133001_2, .slice A0_2 l0_2.length c0_2, .slice (some ad159) l0_3.length c0_3] 39 (0, 0)) (by (with_reducible repeat (first | refine kN ?_ _ | refine kD ?_ | refine kA ?_ _)); exact BK132.out) hg (Kd.R_ne HO_150003.out BK132.out (by decide)))
                      have n3_ := Aside0.mk (blk_grown (g := gb133) (o := .cells #[.int .i64 x134000_5, .int .i64 x134001_5, .slice A1_2 l1_2.length c1_2, .slice A1_3 l1_3.length c1_3] 39 (0, 0)) (by (with_reducible repeat (first | refine kN ?_ _ | refine kD ?_ | refine kA ?_ _)); exact BK133.out) hg (Kd.R_ne HO_150003.out BK133.out (by decide)))
                      have n4_ := Aside0.mk (blk_grown (g := gb134) (o := .cells #[.int .i64 x135000_2, .int .i64 x135001_2, .slice none 0 0, .slice none 0 0] 39 (0, 0)) (by (with_reducible repeat (first | refine kN ?_ _ | refine kD ?_ | refine kA ?_ _)); exact BK134.out) hg (Kd.R_ne HO_150003.out BK134.out (by decide)))
                      have n5_ := Aside0.mk (blk_grown (g := gb149) (o := .cells #[.int .i64 0, .int .i64 0, u150002, u150003] 39 (0, 0)) (by (with_reducible repeat (first | refine kN ?_ _ | refine kD ?_ | refine kA ?_ _)); exact BK149.out) hg (Kd.R_ne HO_150003.out BK149.out (by decide)))
                      have n6_ := Aside0.mk (hb)
                      have n7_ := Aside0.mk (ho)
                      clear HO_6
                      clear HO_150002
                      clear BK132
                      clear BK133
                      clear BK134
                      clear BK149
                      clear HB
                      clear HO_150003
                      have HO_6 := n0_
                      have HO_150002 := n1_
                      have BK132 := n2_
                      have BK133 := n3_
                      have BK134 := n4_
                      have BK149 := n5_
                      have HB := n6_
                      have HO178 := n7_
                      clear n0_ n1_ n2_ n3_ n4_ n5_ n6_ n7_
                      clear ho hb hg hat
                      obtain ⟨Ao102, co102, eo102⟩ := Kd.R_slice HO178.out
                      (first | subst eo102 | (injection eo102 with f1_ f2_ f3_; have f4_ := f1_.symm; have f5_ := f3_.symm; clear f1_ f2_ f3_; subst f4_; subst f5_))
                      refine hK.out _ _ ⟨(kC BK149.out 0).trans rfl, (kC BK149.out 1).trans rfl, (kC BK149.out 2).trans rfl, (kC BK149.out 3).trans rfl, (kC BK132.out 0).trans rfl, (kC BK132.out 1).trans rfl, (kC BK132.out 2).trans rfl, (kC BK132.out 3).trans rfl, ((HB.out.cell (World.block_lt_of_cell? w _ hw175_0)).trans hw175_0), ((HB.out.cell (World.block_lt_of_cell? w _ hw175_1)).trans hw175_1), ((HB.out.cell (World.block_lt_of_cell? w _ hw175_2)).trans hw175_2)⟩ (fun hHeld => ?_)
                      clear hK K
                      refine norm_ (a' := ?_) ?_ ?_
                      rotate_left
                      ·show Act.put _ (some 125) _ = _
                       simp only [Act.put, sI, sZ, sS, iW, jW]
                       rfl
                      refine pure_ (i := 13) (N := some 126) (v := ?_) (a' := ?_) #[T,T,T,T,T,T,T,T,T,T,T,T,T,T,F] rfl rfl (any_of HT_.out (by kernel_rfl)) (fun _ _ _ h => h) (Or.inl ⟨by rfl, ?_⟩) ?_ ?_; rotate_left; (·intro w'; go_simp; with_reducible rfl); rotate_left; (·simp only [Act.put, sI, sZ, sS, iW, jW]; rfl)
                      refine last_ (i := 14) (N := none) #[T,T,T,T,T,T,T,T,T,T,T,T,T,T,T] rfl rfl (oO HT_.out (by kernel_rfl)) (by decide) (fun K hK => ?_)
                      have hs103 : w101.cell? ⟨gb149, 3, none⟩ = some (u150003) := (kC BK149.out 3).trans rfl
                      have hfs103 := blk_frozen BK149.out 3
                      have hns103_0 := NB132_149.out
                      have hns103_1 := NB133_149.out
                      have hns103_2 := NB134_149.out
                      have hms103_0 := NB149_132.out
                      have hms103_1 := NB149_133.out
                      have hms103_2 := NB149_134.out
                      refine skip_ (w1 := ?_) (by rfl) rfl ?_ ?_
                      rotate_left
                      ·go_simp
                       rfl
                      refine hK.out _ _ ?_
                      clear hK K
                      refine done_ (done_of HT_.out (by kernel_rfl)) ?_
                      try go_wp2
                      go_roundg k5
                      case measure => have := HJ2.out; have := HK2.out; have := HJ41.out; have := HJ57.out; have := HK5.out; omega
                      case rel => exact ⟨(x6_5), (wrap64 (x11_5 + 1)), (x134000_5), (x134001_5), (y176), (.slice Ao102 y176.length co102), (by first | rfl | (simp; done) | (simp [*]; done)), H', ⟨by have := HJ2.out; have := HK2.out; have := HJ41.out; have := HJ57.out; have := HK5.out; omega⟩, ⟨by (with_reducible repeat (first | apply Kd.N_alloc | apply Kd.N_drewN | apply Kd.N_drew)); exact Kd.N_mono (Kd.N_far (p := ⟨gb149, 3, none⟩) (Kd.N_mono HO_6.out (fun k_ hk => (⟨hk, hk.1.2.2.2.2⟩ : _ ∧ k_ ≠ gb149))) (fun _ hk => hk.2) (.slice Ao102 y176.length co102)) (fun _ hk => ⟨hk.1.1.1, ⟨hk.1.2, ⟨hk.1.1.2.1, ⟨hk.1.1.2.2.1, ⟨hk.1.1.2.2.2.1, hk.1.1.2.2.2.2⟩⟩⟩⟩⟩)⟩, ⟨by (with_reducible repeat (first | apply rA | apply rN | apply rD)); exact rM (Kd.R_far (p := ⟨gb149, 3, none⟩) (Kd.R_types HO_150002.out BK149.out (by decide)) (fun _ hk => hk.2) (.slice Ao102 y176.length co102)) (fun _ hk => trivial)⟩, ⟨by (with_reducible repeat (first | apply rA | apply rN | apply rD)); exact rM (Kd.R_far (p := ⟨gb149, 3, none⟩) (Kd.R_types HO178.out BK149.out (by decide)) (fun _ hk => hk.2) (.slice Ao102 y176.length co102)) (fun _ hk => trivial)⟩, ⟨by (with_reducible repeat (first | refine kN ?_ _ | refine kD ?_ | refine kA ?_ _)); refine kF ?_ NB132_149.out _; (with_reducible repeat (first | refine kN ?_ _ | refine kD ?_ | refine kA ?_ _)); exact BK132.out⟩, ⟨by (with_reducible repeat (first | refine kN ?_ _ | refine kD ?_ | refine kA ?_ _)); refine kF ?_ NB133_149.out _; (with_reducible repeat (first | refine kN ?_ _ | refine kD ?_ | refine kA ?_ _)); exact BK133.out⟩, ⟨by (with_reducible repeat (first | refine kN ?_ _ | refine kD ?_ | refine kA ?_ _)); refine kF ?_ NB134_149.out _; (with_reducible repeat (first | refine kN ?_ _ | refine kD ?_ | refine kA ?_ _)); exact BK134.out⟩, ⟨by (with_reducible repeat (first | refine kN ?_ _ | refine kD ?_ | refine kA ?_ _)); refine blk_put (cs := #[.int .i64 0, .int .i64 0, u150002, u150003]) ?_ 3 _ rfl; (with_reducible repeat (first | refine kN ?_ _ | refine kD ?_ | refine kA ?_ _)); exact BK149.out⟩, ⟨by repeat (first | (with_reducible first | exact HB.out | apply bA | apply bN | apply bD | refine bS ?_ GE132.out | refine bS ?_ GE133.out | refine bS ?_ GE134.out | refine bS ?_ GE149.out) | exact HB.out)⟩⟩
                     ·rw [if_neg c94] at H
                      exact absurd H (by simp)
                  ·rw [if_neg c70] at H
                   have c70b0 : (((rd_T68 l0_3 x11_5).f0) == (rd (rd_L3 x6_2 x8_2) 0)) = false := beq_eq_false_iff_ne.mpr c70
                   have c70b1 : (((rd_T68 l0_3 x11_5).f0) != (rd (rd_L3 x6_2 x8_2) 0)) = true := bne_iff_ne.mpr c70
                   have H' := Aside0.mk H
                   clear H
                   have hnb104 := NB132_133.out
                   have hnc104 := NB133_132.out
                   have hnb105 := NB132_134.out
                   have hnc105 := NB134_132.out
                   have hnb106 := NB132_149.out
                   have hnc106 := NB149_132.out
                   have hcz107_0 : wr.cell? ⟨gb132, 0, none⟩ = some (.int .i64 x133000_2) := (kC BK132.out 0).trans rfl
                   have hcz107_1 : wr.cell? ⟨gb132, 1, none⟩ = some (.int .i64 x133001_2) := (kC BK132.out 1).trans rfl
                   have hcz107_2 : wr.cell? ⟨gb132, 2, none⟩ = some (.slice A0_2 l0_2.length c0_2) := (kC BK132.out 2).trans rfl
                   have hcz107_3 : wr.cell? ⟨gb132, 3, none⟩ = some (.slice A0_3 l0_3.length c0_3) := (kC BK132.out 3).trans rfl
                   have hfz107_0 := blk_frozen BK132.out 0
                   have hfz107_1 := blk_frozen BK132.out 1
                   have hfz107_2 := blk_frozen BK132.out 2
                   have hfz107_3 := blk_frozen BK132.out 3
                   have p159 : 0 ≤ (x11_5 : Int) := of_decide_eq_true (by first | (with_reducible assumption) | assumption)
                   have q159 : x11_5 < (l0_3.length : Int) := of_decide_eq_true (by first | (with_reducible assumption) | assumption)
                   obtain ⟨ad159, e159, hx159_0, hx159_1, hx159_2⟩ := at_T68 HR0_3.out x11_5 p159 q159
                   cases e159
                   replace hx159_0 := (HB.out.cell (World.block_lt_of_cell? w _ hx159_0)).trans hx159_0
                   replace hx159_1 := (HB.out.cell (World.block_lt_of_cell? w _ hx159_1)).trans hx159_1
                   replace hx159_2 := (HB.out.cell (World.block_lt_of_cell? w _ hx159_2)).trans hx159_2
                   replace p159 := eq_true p159
                   replace q159 := eq_true q159
                   go_wp2
                   go_roundg k5
                   case measure => have := HJ2.out; have := HK2.out; have := HJ41.out; have := HJ57.out; have := HK5.out; omega
                   case rel => exact ⟨(x6_5), (wrap64 (x11_5 + 1)), (x134000_5), (x134001_5), (x150003_5), (u150003), (by first | rfl | (simp; done) | (simp [*]; done)), H', ⟨by have := HJ2.out; have := HK2.out; have := HJ41.out; have := HJ57.out; have := HK5.out; omega⟩, ⟨by (with_reducible repeat (first | apply Kd.N_alloc | apply Kd.N_drewN | apply Kd.N_drew)); exact HO_6.out⟩, ⟨by (with_reducible repeat (first | apply rA | apply rN | apply rD)); exact HO_150002.out⟩, ⟨by (with_reducible repeat (first | apply rA | apply rN | apply rD)); exact HO_150003.out⟩, ⟨by (with_reducible repeat (first | refine kN ?_ _ | refine kD ?_ | refine kA ?_ _)); exact BK132.out⟩, ⟨by (with_reducible repeat (first | refine kN ?_ _ | refine kD ?_ | refine kA ?_ _)); exact BK133.out⟩, ⟨by (with_reducible repeat (first | refine kN ?_ _ | refine kD ?_ | refine kA ?_ _)); exact BK134.out⟩, ⟨by (with_reducible repeat (first | refine kN ?_ _ | refine kD ?_ | refine kA ?_ _)); exact BK149.out⟩, ⟨by repeat (first | (with_reducible first | exact HB.out | apply bA | apply bN | apply bD | refine bS ?_ GE132.out | refine bS ?_ GE133.out | refine bS ?_ GE134.out | refine bS ?_ GE149.out) | exact HB.out)⟩⟩
                 ·rw [if_neg c69] at H
                  exact absurd H (by simp)
                ·rw [if_neg c68] at H
                 have c68b0 : decide (x11_5 < (l0_3.length : Int)) = false := decide_eq_false c68
                 clear c68
                 by_cases c108 : (x6_5.length : Int) > 32
                 ·rw [if_pos c108] at H
                  have c108b0 : decide (32 < (x6_5.length : Int)) = true := decide_eq_true c108
                  have c108b1 : decide (32 < x6_5.length) = true := decide_eq_true (by omega)
                  clear c108
                  simp only [Option.some.injEq, Prod.mk.injEq] at H
                  obtain ⟨rfl, rfl, rfl, rfl, rfl⟩ := H
                  have hnb109 := NB132_133.out
                  have hnc109 := NB133_132.out
                  have hnb110 := NB132_134.out
                  have hnc110 := NB134_132.out
                  have hnb111 := NB132_149.out
                  have hnc111 := NB149_132.out
                  have hcz112_0 : wr.cell? ⟨gb132, 0, none⟩ = some (.int .i64 x133000_2) := (kC BK132.out 0).trans rfl
                  have hcz112_1 : wr.cell? ⟨gb132, 1, none⟩ = some (.int .i64 x133001_2) := (kC BK132.out 1).trans rfl
                  have hcz112_2 : wr.cell? ⟨gb132, 2, none⟩ = some (.slice A0_2 l0_2.length c0_2) := (kC BK132.out 2).trans rfl
                  have hcz112_3 : wr.cell? ⟨gb132, 3, none⟩ = some (.slice A0_3 l0_3.length c0_3) := (kC BK132.out 3).trans rfl
                  have hfz112_0 := blk_frozen BK132.out 0
                  have hfz112_1 := blk_frozen BK132.out 1
                  have hfz112_2 := blk_frozen BK132.out 2
                  have hfz112_3 := blk_frozen BK132.out 3
                  obtain ⟨Ao113, co113, eo113⟩ := Kd.N_slice HO_6.out
                  subst eo113
                  have hnb114 := NB134_133.out
                  have hnc114 := NB133_134.out
                  have hnb115 := NB134_149.out
                  have hnc115 := NB149_134.out
                  have hcz116_0 : wr.cell? ⟨gb134, 0, none⟩ = some (.int .i64 x135000_2) := (kC BK134.out 0).trans rfl
                  have hcz116_1 : wr.cell? ⟨gb134, 1, none⟩ = some (.int .i64 x135001_2) := (kC BK134.out 1).trans rfl
                  have hcz116_2 : wr.cell? ⟨gb134, 2, none⟩ = some (.slice none 0 0) := (kC BK134.out 2).trans rfl
                  have hcz116_3 : wr.cell? ⟨gb134, 3, none⟩ = some (.slice none 0 0) := (kC BK134.out 3).trans rfl
                  have hfz116_0 := blk_frozen BK134.out 0
                  have hfz116_1 := blk_frozen BK134.out 1
                  have hfz116_2 := blk_frozen BK134.out 2
                  have hfz116_3 := blk_frozen BK134.out 3
                  go_wp2
                  refine bodyPost_ret (results_ct rfl _ _ gb134 39 #[.int .i64 0, .int .i64 0, .slice none 0 0, .slice none 0 0] (0, 0) _ rfl (by (with_reducible repeat (first | refine kN ?_ _ | refine kD ?_ | refine kA ?_ _)); refine blk_put (cs := #[.int .i64 0, .int .i64 0, .slice none 0 0, .slice none 0 0]) ?_ 3 _ rfl; (with_reducible repeat (first | refine kN ?_ _ | refine kD ?_ | refine kA ?_ _)); refine blk_put (cs := #[.int .i64 0, .int .i64 0, .slice none 0 0, .slice none 0 0]) ?_ 2 _ rfl; (with_reducible repeat (first | refine kN ?_ _ | refine kD ?_ | refine kA ?_ _)); refine blk_put (cs := #[.int .i64 0, .int .i64 x135001_2, .slice none 0 0, .slice none 0 0]) ?_ 1 _ rfl; (with_reducible repeat (first | refine kN ?_ _ | refine kD ?_ | refine kA ?_ _)); refine blk_put (cs := #[.int .i64 x135000_2, .int .i64 x135001_2, .slice none 0 0, .slice none 0 0]) ?_ 0 _ rfl; (with_reducible repeat (first | refine kN ?_ _ | refine kD ?_ | refine kA ?_ _)); exact BK134.out) Try.underlying39 rfl (by kernel_rfl)) rfl ?_
                  exact ⟨_, _, by first | rfl | (simp [errW_none, errW_some] <;> rfl) | (simp [*, errW_none, errW_some] <;> rfl), by first | exact Kd.R_nil _ _ _ _ _ | exact Kd.N_nil _ _ _ _ _ | exact Kd.V_nil _ _ _ _ _ | exact Kd.Q_nil _ _ _ _ _ | exact Kd.S_nil _ _ _ _ _, by first | exact Kd.R_nil _ _ _ _ _ | exact Kd.N_nil _ _ _ _ _ | exact Kd.V_nil _ _ _ _ _ | exact Kd.Q_nil _ _ _ _ _ | exact Kd.S_nil _ _ _ _ _, by repeat (first | (with_reducible first | exact HB.out | apply bA | apply bN | apply bD | refine bS ?_ GE132.out | refine bS ?_ GE133.out | refine bS ?_ GE134.out | refine bS ?_ GE149.out) | exact HB.out)⟩
                 ·rw [if_neg c108] at H
                  have c108b0 : decide (32 < (x6_5.length : Int)) = false := decide_eq_false c108
                  have c108b1 : decide (32 < x6_5.length) = false := decide_eq_false (by omega)
                  clear c108
                  by_cases c117 : (x150003_5.length : Int) > 256
                  ·rw [if_pos c117] at H
                   have c117b0 : decide (256 < (x150003_5.length : Int)) = true := decide_eq_true c117
                   have c117b1 : decide (256 < x150003_5.length) = true := decide_eq_true (by omega)
                   clear c117
                   simp only [Option.some.injEq, Prod.mk.injEq] at H
                   obtain ⟨rfl, rfl, rfl, rfl, rfl⟩ := H
                   have hnb118 := NB132_133.out
                   have hnc118 := NB133_132.out
                   have hnb119 := NB132_134.out
                   have hnc119 := NB134_132.out
                   have hnb120 := NB132_149.out
                   have hnc120 := NB149_132.out
                   have hcz121_0 : wr.cell? ⟨gb132, 0, none⟩ = some (.int .i64 x133000_2) := (kC BK132.out 0).trans rfl
                   have hcz121_1 : wr.cell? ⟨gb132, 1, none⟩ = some (.int .i64 x133001_2) := (kC BK132.out 1).trans rfl
                   have hcz121_2 : wr.cell? ⟨gb132, 2, none⟩ = some (.slice A0_2 l0_2.length c0_2) := (kC BK132.out 2).trans rfl
                   have hcz121_3 : wr.cell? ⟨gb132, 3, none⟩ = some (.slice A0_3 l0_3.length c0_3) := (kC BK132.out 3).trans rfl
                   have hfz121_0 := blk_frozen BK132.out 0
                   have hfz121_1 := blk_frozen BK132.out 1
                   have hfz121_2 := blk_frozen BK132.out 2
                   have hfz121_3 := blk_frozen BK132.out 3
                   obtain ⟨Ao122, co122, eo122⟩ := Kd.N_slice HO_6.out
                   subst eo122
                   have hnb123 := NB149_133.out
                   have hnc123 := NB133_149.out
                   have hnb124 := NB149_134.out
                   have hnc124 := NB134_149.out
                   have hcz125_0 : wr.cell? ⟨gb149, 0, none⟩ = some (.int .i64 0) := (kC BK149.out 0).trans rfl
                   have hcz125_1 : wr.cell? ⟨gb149, 1, none⟩ = some (.int .i64 0) := (kC BK149.out 1).trans rfl
                   have hcz125_2 : wr.cell? ⟨gb149, 2, none⟩ = some (u150002) := (kC BK149.out 2).trans rfl
                   have hcz125_3 : wr.cell? ⟨gb149, 3, none⟩ = some (u150003) := (kC BK149.out 3).trans rfl
                   have hfz125_0 := blk_frozen BK149.out 0
                   have hfz125_1 := blk_frozen BK149.out 1
                   have hfz125_2 := blk_frozen BK149.out 2
                   have hfz125_3 := blk_frozen BK149.out 3
                   obtain ⟨Ao126, co126, eo126⟩ := Kd.R_slice HO_150003.out
                   subst eo126
                   have hnb127 := NB134_133.out
                   have hnc127 := NB133_134.out
                   have hcz128_0 : wr.cell? ⟨gb134, 0, none⟩ = some (.int .i64 x135000_2) := (kC BK134.out 0).trans rfl
                   have hcz128_1 : wr.cell? ⟨gb134, 1, none⟩ = some (.int .i64 x135001_2) := (kC BK134.out 1).trans rfl
                   have hcz128_2 : wr.cell? ⟨gb134, 2, none⟩ = some (.slice none 0 0) := (kC BK134.out 2).trans rfl
                   have hcz128_3 : wr.cell? ⟨gb134, 3, none⟩ = some (.slice none 0 0) := (kC BK134.out 3).trans rfl
                   have hfz128_0 := blk_frozen BK134.out 0
                   have hfz128_1 := blk_frozen BK134.out 1
                   have hfz128_2 := blk_frozen BK134.out 2
                   have hfz128_3 := blk_frozen BK134.out 3
                   go_wp2
                   refine bodyPost_ret (results_ct rfl _ _ gb134 39 #[.int .i64 0, .int .i64 0, .slice none 0 0, .slice none 0 0] (0, 0) _ rfl (by (with_reducible repeat (first | refine kN ?_ _ | refine kD ?_ | refine kA ?_ _)); refine blk_put (cs := #[.int .i64 0, .int .i64 0, .slice none 0 0, .slice none 0 0]) ?_ 3 _ rfl; (with_reducible repeat (first | refine kN ?_ _ | refine kD ?_ | refine kA ?_ _)); refine blk_put (cs := #[.int .i64 0, .int .i64 0, .slice none 0 0, .slice none 0 0]) ?_ 2 _ rfl; (with_reducible repeat (first | refine kN ?_ _ | refine kD ?_ | refine kA ?_ _)); refine blk_put (cs := #[.int .i64 0, .int .i64 x135001_2, .slice none 0 0, .slice none 0 0]) ?_ 1 _ rfl; (with_reducible repeat (first | refine kN ?_ _ | refine kD ?_ | refine kA ?_ _)); refine blk_put (cs := #[.int .i64 x135000_2, .int .i64 x135001_2, .slice none 0 0, .slice none 0 0]) ?_ 0 _ rfl; (with_reducible repeat (first | refine kN ?_ _ | refine kD ?_ | refine kA ?_ _)); exact BK134.out) Try.underlying39 rfl (by kernel_rfl)) rfl ?_
                   exact ⟨_, _, by first | rfl | (simp [errW_none, errW_some] <;> rfl) | (simp [*, errW_none, errW_some] <;> rfl), by first | exact Kd.R_nil _ _ _ _ _ | exact Kd.N_nil _ _ _ _ _ | exact Kd.V_nil _ _ _ _ _ | exact Kd.Q_nil _ _ _ _ _ | exact Kd.S_nil _ _ _ _ _, by first | exact Kd.R_nil _ _ _ _ _ | exact Kd.N_nil _ _ _ _ _ | exact Kd.V_nil _ _ _ _ _ | exact Kd.Q_nil _ _ _ _ _ | exact Kd.S_nil _ _ _ _ _, by repeat (first | (with_reducible first | exact HB.out | apply bA | apply bN | apply bD | refine bS ?_ GE132.out | refine bS ?_ GE133.out | refine bS ?_ GE134.out | refine bS ?_ GE149.out) | exact HB.out)⟩
                  ·rw [if_neg c117] at H
                   have c117b0 : decide (256 < (x150003_5.length : Int)) = false := decide_eq_false c117
                   have c117b1 : decide (256 < x150003_5.length) = false := decide_eq_false (by omega)
                   clear c117
                   have H' := Aside0.mk H
                   clear H
                   have hnb129 := NB132_133.out
                   have hnc129 := NB133_132.out
                   have hnb130 := NB132_134.out
                   have hnc130 := NB134_132.out
                   have hnb131 := NB132_149.out
                   have hnc131 := NB149_132.out
                   have hcz132_0 : wr.cell? ⟨gb132, 0, none⟩ = some (.int .i64 x133000_2) := (kC BK132.out 0).trans rfl
                   have hcz132_1 : wr.cell? ⟨gb132, 1, none⟩ = some (.int .i64 x133001_2) := (kC BK132.out 1).trans rfl
                   have hcz132_2 : wr.cell? ⟨gb132, 2, none⟩ = some (.slice A0_2 l0_2.length c0_2) := (kC BK132.out 2).trans rfl
                   have hcz132_3 : wr.cell? ⟨gb132, 3, none⟩ = some (.slice A0_3 l0_3.length c0_3) := (kC BK132.out 3).trans rfl
                   have hfz132_0 := blk_frozen BK132.out 0
                   have hfz132_1 := blk_frozen BK132.out 1
                   have hfz132_2 := blk_frozen BK132.out 2
                   have hfz132_3 := blk_frozen BK132.out 3
                   obtain ⟨Ao133, co133, eo133⟩ := Kd.N_slice HO_6.out
                   subst eo133
                   have hnb134 := NB149_133.out
                   have hnc134 := NB133_149.out
                   have hnb135 := NB149_134.out
                   have hnc135 := NB134_149.out
                   have hcz136_0 : wr.cell? ⟨gb149, 0, none⟩ = some (.int .i64 0) := (kC BK149.out 0).trans rfl
                   have hcz136_1 : wr.cell? ⟨gb149, 1, none⟩ = some (.int .i64 0) := (kC BK149.out 1).trans rfl
                   have hcz136_2 : wr.cell? ⟨gb149, 2, none⟩ = some (u150002) := (kC BK149.out 2).trans rfl
                   have hcz136_3 : wr.cell? ⟨gb149, 3, none⟩ = some (u150003) := (kC BK149.out 3).trans rfl
                   have hfz136_0 := blk_frozen BK149.out 0
                   have hfz136_1 := blk_frozen BK149.out 1
                   have hfz136_2 := blk_frozen BK149.out 2
                   have hfz136_3 := blk_frozen BK149.out 3
                   obtain ⟨Ao137, co137, eo137⟩ := Kd.R_slice HO_150003.out
                   subst eo137
                   go_wp2
                   go_roundg k5
                   case measure => have := HJ2.out; have := HK2.out; have := HJ41.out; have := HJ57.out; have := HK5.out; omega
                   case rel => exact ⟨(x6_5), (wrap64 (x8_2 + 1)), (x134000_5), (x134001_5), (x135000_2), (x135001_2), (x150002_57), (x150003_5), (u150002), (.slice Ao137 x150003_5.length co137), (by first | rfl | (simp; done) | (simp [*]; done)), H', ⟨by have := HJ2.out; have := HK2.out; have := HJ41.out; have := HJ57.out; have := HK5.out; omega⟩, ⟨by (with_reducible repeat (first | apply Kd.N_alloc | apply Kd.N_drewN | apply Kd.N_drew)); exact HO_6.out⟩, ⟨by (with_reducible repeat (first | apply rA | apply rN | apply rD)); exact HO_150002.out⟩, ⟨by (with_reducible repeat (first | apply rA | apply rN | apply rD)); exact HO_150003.out⟩, ⟨by (with_reducible repeat (first | refine kN ?_ _ | refine kD ?_ | refine kA ?_ _)); exact BK132.out⟩, ⟨by (with_reducible repeat (first | refine kN ?_ _ | refine kD ?_ | refine kA ?_ _)); exact BK133.out⟩, ⟨by (with_reducible repeat (first | refine kN ?_ _ | refine kD ?_ | refine kA ?_ _)); exact BK134.out⟩, ⟨by (with_reducible repeat (first | refine kN ?_ _ | refine kD ?_ | refine kA ?_ _)); exact BK149.out⟩, ⟨by repeat (first | (with_reducible first | exact HB.out | apply bA | apply bN | apply bD | refine bS ?_ GE132.out | refine bS ?_ GE133.out | refine bS ?_ GE134.out | refine bS ?_ GE149.out) | exact HB.out)⟩⟩
         ·rw [if_neg c41] at H
          exact absurd H (by simp)
        ·rw [if_neg c40] at H
         exact absurd H (by simp)
       ·rw [if_neg c39] at H
        exact absurd H (by simp)
      ·rw [if_neg c38] at H
       have c38b0 : decide (x8_2 < (x6_2.length : Int)) = false := decide_eq_false c38
       clear c38
       simp only [Option.some.injEq, Prod.mk.injEq] at H
       obtain ⟨rfl, rfl, rfl, rfl, rfl⟩ := H
       obtain ⟨Ao138, co138, eo138⟩ := Kd.N_slice HO_6.out
       subst eo138
       have hnb139 := NB149_132.out
       have hnc139 := NB132_149.out
       have hnb140 := NB149_133.out
       have hnc140 := NB133_149.out
       have hnb141 := NB149_134.out
       have hnc141 := NB134_149.out
       have hcz142_0 : wr.cell? ⟨gb149, 0, none⟩ = some (.int .i64 0) := (kC BK149.out 0).trans rfl
       have hcz142_1 : wr.cell? ⟨gb149, 1, none⟩ = some (.int .i64 0) := (kC BK149.out 1).trans rfl
       have hcz142_2 : wr.cell? ⟨gb149, 2, none⟩ = some (u150002) := (kC BK149.out 2).trans rfl
       have hcz142_3 : wr.cell? ⟨gb149, 3, none⟩ = some (u150003) := (kC BK149.out 3).trans rfl
       have hfz142_0 := blk_frozen BK149.out 0
       have hfz142_1 := blk_frozen BK149.out 1
       have hfz142_2 := blk_frozen BK149.out 2
       have hfz142_3 := blk_frozen BK149.out 3
       have hnb143 := NB134_132.out
       have hnc143 := NB132_134.out
       have hnb144 := NB134_133.out
       have hnc144 := NB133_134.out
       have hcz145_0 : wr.cell? ⟨gb134, 0, none⟩ = some (.int .i64 x135000_2) := (kC BK134.out 0).trans rfl
       have hcz145_1 : wr.cell? ⟨gb134, 1, none⟩ = some (.int .i64 x135001_2) := (kC BK134.out 1).trans rfl
       have hcz145_2 : wr.cell? ⟨gb134, 2, none⟩ = some (.slice none 0 0) := (kC BK134.out 2).trans rfl
       have hcz145_3 : wr.cell? ⟨gb134, 3, none⟩ = some (.slice none 0 0) := (kC BK134.out 3).trans rfl
       have hfz145_0 := blk_frozen BK134.out 0
       have hfz145_1 := blk_frozen BK134.out 1
       have hfz145_2 := blk_frozen BK134.out 2
       have hfz145_3 := blk_frozen BK134.out 3
       obtain ⟨Ao146, co146, eo146⟩ := Kd.R_slice HO_150002.out
       subst eo146
       obtain ⟨Ao147, co147, eo147⟩ := Kd.R_slice HO_150003.out
       subst eo147
       go_wp2
       refine bodyPost_ret (results_ct rfl _ _ gb134 39 #[.int .i64 (x6_2.length : Int), .int .i64 0, .slice Ao146 x150002_2.length co146, .slice Ao147 x150003_2.length co147] (0, 0) _ rfl (by (with_reducible repeat (first | refine kN ?_ _ | refine kD ?_ | refine kA ?_ _)); refine blk_put (cs := #[.int .i64 (x6_2.length : Int), .int .i64 0, .slice Ao146 x150002_2.length co146, .slice none 0 0]) ?_ 3 _ rfl; (with_reducible repeat (first | refine kN ?_ _ | refine kD ?_ | refine kA ?_ _)); refine blk_put (cs := #[.int .i64 (x6_2.length : Int), .int .i64 0, .slice none 0 0, .slice none 0 0]) ?_ 2 _ rfl; (with_reducible repeat (first | refine kN ?_ _ | refine kD ?_ | refine kA ?_ _)); refine blk_put (cs := #[.int .i64 (x6_2.length : Int), .int .i64 x135001_2, .slice none 0 0, .slice none 0 0]) ?_ 1 _ rfl; (with_reducible repeat (first | refine kN ?_ _ | refine kD ?_ | refine kA ?_ _)); refine blk_put (cs := #[.int .i64 x135000_2, .int .i64 x135001_2, .slice none 0 0, .slice none 0 0]) ?_ 0 _ rfl; (with_reducible repeat (first | refine kN ?_ _ | refine kD ?_ | refine kA ?_ _)); refine kF ?_ NB134_149.out _; (with_reducible repeat (first | refine kN ?_ _ | refine kD ?_ | refine kA ?_ _)); exact BK134.out) Try.underlying39 rfl (by kernel_rfl)) rfl ?_
       exact ⟨_, _, by first | rfl | (simp [errW_none, errW_some] <;> rfl) | (simp [*, errW_none, errW_some] <;> rfl), by (with_reducible repeat (first | apply rA | apply rN | apply rD)); exact rM (Kd.R_far (p := ⟨gb134, 3, none⟩) (Kd.R_far (p := ⟨gb134, 2, none⟩) (Kd.R_far (p := ⟨gb134, 1, none⟩) (Kd.R_far (p := ⟨gb134, 0, none⟩) (Kd.R_far (p := ⟨gb149, 0, none⟩) (Kd.R_types (Kd.R_types HO_150002.out BK149.out (by decide)) BK134.out (by decide)) (fun _ hk => hk.1.2) (.int .i64 (x6_2.length : Int))) (fun _ hk => hk.2) (.int .i64 (x6_2.length : Int))) (fun _ hk => hk.2) (.int .i64 0)) (fun _ hk => hk.2) (.slice Ao146 x150002_2.length co146)) (fun _ hk => hk.2) (.slice Ao147 x150003_2.length co147)) (fun _ hk => trivial), by (with_reducible repeat (first | apply rA | apply rN | apply rD)); exact rM (Kd.R_far (p := ⟨gb134, 3, none⟩) (Kd.R_far (p := ⟨gb134, 2, none⟩) (Kd.R_far (p := ⟨gb134, 1, none⟩) (Kd.R_far (p := ⟨gb134, 0, none⟩) (Kd.R_far (p := ⟨gb149, 0, none⟩) (Kd.R_types (Kd.R_types HO_150003.out BK149.out (by decide)) BK134.out (by decide)) (fun _ hk => hk.1.2) (.int .i64 (x6_2.length : Int))) (fun _ hk => hk.2) (.int .i64 (x6_2.length : Int))) (fun _ hk => hk.2) (.int .i64 0)) (fun _ hk => hk.2) (.slice Ao146 x150002_2.length co146)) (fun _ hk => hk.2) (.slice Ao147 x150003_2.length co147)) (fun _ hk => trivial), by repeat (first | (with_reducible first | exact HB.out | apply bA | apply bN | apply bD | refine bS ?_ GE132.out | refine bS ?_ GE133.out | refine bS ?_ GE134.out | refine bS ?_ GE149.out) | exact HB.out)⟩

end Go.Proofs.Yteljnbhbpidjpaa.G
-- shrunk
-- tight
