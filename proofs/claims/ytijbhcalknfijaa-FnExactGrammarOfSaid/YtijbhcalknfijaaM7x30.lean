/- What functions of the given program compute, as plain Lean functions, and that the code comes to just that; by a program of this session over the kit's print. No condition. -/
import Derived.Test.YtijbhcalknfijaaTight
import Derived.Test.YtijbhcalknfijaaM7x0
import Derived.Test.YtijbhcalknfijaaM7x1
import Derived.Test.YtijbhcalknfijaaM7x7
import Derived.Test.YtijbhcalknfijaaM7x19
import Derived.Test.YtijbhcalknfijaaM7x28
namespace Go.Proofs.Ytijbhcalknfijaa.M7
open Go.RowKit Go.Proofs.YtijbhcalknfijaaW.PrintWords Go.Proofs.YtijbhcalknfijaaW.PrintLast Go.Proofs.YtijbhcalknfijaaW.PrintMore
open Go.Proofs.YtijbhcalknfijaaW.PrintWords renaming below_alloc → bA, pw_below_drewN → bN, below_drew1 → bD, below_set → bS, blk_drewN → kN, blk_drew → kD, blk_alloc → kA, blk_below → kB, below_size → bZ, below_step → bP, blk_far → kF, blk_lt → kL, gate_callee → gC, box_event → bE, blk_cell → kC
open Go.Proofs.YtijbhcalknfijaaW.PrintLast renaming i64_w → iW, i32_w → jW
open Go.Proofs.YtijbhcalknfijaaW.PrintWords.Kd renaming R_alloc → rA, R_drewN → rN, R_drew → rD, C_alloc → cA, C_drewN → cN, C_drew → cD, C_below → cB, R_lower → rL, R_below → rB, R_elder' → rE, R_new' → rW, R_lt → rT, R_mono → rM
open List renaming setIfInBounds_toArray → sI, set_cons_zero → sZ, set_cons_succ → sS
open Bool renaming true → T, false → F
attribute [local go_sem] max2_int min2_int max_two min_two max_three min_three max_four min_four   -- for this text's walks alone
set_option linter.unusedVariables false
set_option linter.unusedSimpArgs false

/-! ### laws_FnExactGrammarOf: function 14 -/
mutual
def laws_FnExactGrammarOf.j0 : Nat → Int → Int → Int → Int → Bool → ByteArray → List Int → List Int → Int → Int → List (List Int) → Int → Int → List Int → List (S67) → ByteArray → List Int → List Int → Int → Int → List (List Int) → Int → Int → List Int → List (S67) → Option (Bool)
 | 0, _, _, _, _, _, _, _, _, _, _, _, _, _, _, _, _, _, _, _, _, _, _, _, _, _ => none
 | k + 1, x1, x2, x9, x12, x48, x308000, x308001, x308002, x308003, x308004, x308005, x331000, x331001, x331002, x331003, x344000, x344001, x344002, x344003, x344004, x344005, x354000, x354001, x354002, x354003 => if x48 = true then (some false) else ((laws_toRaga.f k x308000 x308001 x308002 x308003 x308004 x308005).bind fun bt355 => ((laws_eqRaga.f k x344000 x344001 x344002 x344003 x344004 x344005 bt355.1 bt355.2.1 bt355.2.2.1 bt355.2.2.2.1 bt355.2.2.2.2.1 bt355.2.2.2.2.2).bind fun t367 => (if t367 = true then ((laws_markRaga.f x344000 x344001 x344002 x344003 x344004 x344005 1).bind fun t368 => (if t368 < 0 then (laws_FnExactGrammarOf.j1 k x1 x2 x9 true x308000 x308001 x308002 x308003 x308004 x308005 x331000 x331001 x331002 x331003 x354000 x354001 x354002 x354003) else ((laws_eqGrammar.f k x354000 x354001 x354002 x354003 x331000 x331001 x331002 x331003).bind fun t369 => (if t369 = true then (laws_FnExactGrammarOf.j1 k x1 x2 x9 (x12 != x9) x308000 x308001 x308002 x308003 x308004 x308005 x331000 x331001 x331002 x331003 x354000 x354001 x354002 x354003) else (laws_FnExactGrammarOf.j1 k x1 x2 x9 true x308000 x308001 x308002 x308003 x308004 x308005 x331000 x331001 x331002 x331003 x354000 x354001 x354002 x354003))))) else (some false))))
def laws_FnExactGrammarOf.j1 : Nat → Int → Int → Int → Bool → ByteArray → List Int → List Int → Int → Int → List (List Int) → Int → Int → List Int → List (S67) → Int → Int → List Int → List (S67) → Option (Bool)
 | 0, _, _, _, _, _, _, _, _, _, _, _, _, _, _, _, _, _, _ => none
 | k + 1, x1, x2, x9, x69, x308000, x308001, x308002, x308003, x308004, x308005, x331000, x331001, x331002, x331003, x354000, x354001, x354002, x354003 => if x69 = true then (some false) else ((laws_markGrammar.f k x354000 x354001 x354002 x354003 1).bind fun bt370 => ((laws_heldGrammar.f k x354000 x354001 bt370.2.1 bt370.2.2 1).bind fun t373 => (if t373 < 0 then (some false) else (if t373 = bt370.1 then ((laws_toRaga.f k x308000 x308001 x308002 x308003 x308004 x308005).bind fun bt374 => ((impl_GrammarOf.f k bt374.1 bt374.2.1 bt374.2.2.1 bt374.2.2.2.1 bt374.2.2.2.2.1 bt374.2.2.2.2.2 x1 x2).bind fun bt386 => ((laws_eqGrammar.f k bt386.1 bt386.2.1 bt386.2.2.1 bt386.2.2.2.1 x331000 x331001 x331002 x331003).bind fun t396 => (if t396 = true then (laws_FnExactGrammarOf.j2 k bt370.1 (bt386.2.2.2.2 != x9) x354000 x354001 bt370.2.1 bt370.2.2) else (laws_FnExactGrammarOf.j2 k bt370.1 true x354000 x354001 bt370.2.1 bt370.2.2))))) else (some false)))))
def laws_FnExactGrammarOf.j2 : Nat → Int → Bool → Int → Int → List Int → List (S67) → Option (Bool)
 | 0, _, _, _, _, _, _ => none
 | k + 1, x14, x97, x354000, x354001, x354002, x354003 => if x97 = true then (some false) else ((laws_heldGrammar.f k x354000 x354001 x354002 x354003 1).bind fun t397 => (if t397 < 0 then (some false) else (if t397 = x14 then (some true) else (some false))))
end
def laws_FnExactGrammarOf.f (k : Nat) (a0_0 : ByteArray) (l0_1 : List Int) (l0_2 : List Int) (a0_3 : Int) (a0_4 : Int) (l0_5 : List (List Int)) (a1 : Int) (a2 : Int) : Option (Bool) := (laws_szRaga.f k a0_0 l0_1 l0_2 a0_3 a0_4 l0_5 1048576).bind fun t308 => (if t308 < 0 then (some true) else ((laws_toRaga.f k a0_0 l0_1 l0_2 a0_3 a0_4 l0_5).bind fun bt309 => ((spec_GrammarOf.f k bt309.1 bt309.2.1 bt309.2.2.1 bt309.2.2.2.1 bt309.2.2.2.2.1 bt309.2.2.2.2.2 a1 a2).bind fun bt321 => ((laws_toRaga.f k a0_0 l0_1 l0_2 a0_3 a0_4 l0_5).bind fun bt331 => ((impl_GrammarOf.f k bt331.1 bt331.2.1 bt331.2.2.1 bt331.2.2.2.1 bt331.2.2.2.2.1 bt331.2.2.2.2.2 a1 a2).bind fun bt344 => ((laws_eqGrammar.f k bt344.1 bt344.2.1 bt344.2.2.1 bt344.2.2.2.1 bt321.1 bt321.2.1 bt321.2.2.1 bt321.2.2.2.1).bind fun t354 => (if t354 = true then (laws_FnExactGrammarOf.j0 k a1 a2 bt321.2.2.2.2 bt344.2.2.2.2 (bt344.2.2.2.2 != bt321.2.2.2.2) a0_0 l0_1 l0_2 a0_3 a0_4 l0_5 bt321.1 bt321.2.1 bt321.2.2.1 bt321.2.2.2.1 bt331.1 bt331.2.1 bt331.2.2.1 bt331.2.2.2.1 bt331.2.2.2.2.1 bt331.2.2.2.2.2 bt344.1 bt344.2.1 bt344.2.2.1 bt344.2.2.2.1) else (laws_FnExactGrammarOf.j0 k a1 a2 bt321.2.2.2.2 bt344.2.2.2.2 true a0_0 l0_1 l0_2 a0_3 a0_4 l0_5 bt321.1 bt321.2.1 bt321.2.2.1 bt321.2.2.2.1 bt331.1 bt331.2.1 bt331.2.2.1 bt331.2.2.2.1 bt331.2.2.2.2.1 bt331.2.2.2.2.2 bt344.1 bt344.2.1 bt344.2.2.1 bt344.2.2.2.1))))))))
theorem laws_FnExactGrammarOf.mono_l : ∀ k, (∀ y0 y1 y2 y3 y4 y5 y6 y7 y8 y9 y10 y11 y12 y13 y14 y15 y16 y17 y18 y19 y20 y21 y22 y23 y24, LeO (laws_FnExactGrammarOf.j0 k y0 y1 y2 y3 y4 y5 y6 y7 y8 y9 y10 y11 y12 y13 y14 y15 y16 y17 y18 y19 y20 y21 y22 y23 y24) (laws_FnExactGrammarOf.j0 (k + 1) y0 y1 y2 y3 y4 y5 y6 y7 y8 y9 y10 y11 y12 y13 y14 y15 y16 y17 y18 y19 y20 y21 y22 y23 y24)) ∧ (∀ y0 y1 y2 y3 y4 y5 y6 y7 y8 y9 y10 y11 y12 y13 y14 y15 y16 y17, LeO (laws_FnExactGrammarOf.j1 k y0 y1 y2 y3 y4 y5 y6 y7 y8 y9 y10 y11 y12 y13 y14 y15 y16 y17) (laws_FnExactGrammarOf.j1 (k + 1) y0 y1 y2 y3 y4 y5 y6 y7 y8 y9 y10 y11 y12 y13 y14 y15 y16 y17)) ∧ (∀ y0 y1 y2 y3 y4 y5, LeO (laws_FnExactGrammarOf.j2 k y0 y1 y2 y3 y4 y5) (laws_FnExactGrammarOf.j2 (k + 1) y0 y1 y2 y3 y4 y5))
 | 0 => ⟨fun _ _ _ _ _ _ _ _ _ _ _ _ _ _ _ _ _ _ _ _ _ _ _ _ _ r h => by simp [laws_FnExactGrammarOf.j0] at h, fun _ _ _ _ _ _ _ _ _ _ _ _ _ _ _ _ _ _ r h => by simp [laws_FnExactGrammarOf.j1] at h, fun _ _ _ _ _ _ r h => by simp [laws_FnExactGrammarOf.j2] at h⟩
 | k + 1 => by
  obtain ⟨ih0, ih1, ih2⟩ := laws_FnExactGrammarOf.mono_l k
  refine ⟨?_, ?_, ?_⟩
  ·intro y0 y1 y2 y3 y4 y5 y6 y7 y8 y9 y10 y11 y12 y13 y14 y15 y16 y17 y18 y19 y20 y21 y22 y23 y24
   unfold laws_FnExactGrammarOf.j0
   repeat' first
   | (with_reducible exact ih0 _ _ _ _ _ _ _ _ _ _ _ _ _ _ _ _ _ _ _ _ _ _ _ _ _)
   | (with_reducible exact ih1 _ _ _ _ _ _ _ _ _ _ _ _ _ _ _ _ _ _)
   | (with_reducible exact ih2 _ _ _ _ _ _)
   | (with_reducible exact impl_GrammarOf.mono _ _ _ _ _ _ _ _ _)
   | (with_reducible exact laws_eqGrammar.mono _ _ _ _ _ _ _ _ _)
   | (with_reducible exact laws_eqRaga.mono _ _ _ _ _ _ _ _ _ _ _ _ _)
   | (with_reducible exact laws_heldGrammar.mono _ _ _ _ _ _)
   | (with_reducible exact laws_markGrammar.mono _ _ _ _ _ _)
   | (with_reducible exact laws_szRaga.mono _ _ _ _ _ _ _ _)
   | (with_reducible exact laws_toRaga.mono _ _ _ _ _ _ _)
   | (with_reducible exact spec_GrammarOf.mono _ _ _ _ _ _ _ _ _)
   | (with_reducible exact LeO.refl _)
   | (with_reducible exact LeO.none _)
   | (with_reducible refine LeO.ite ?_ ?_)
   | (with_reducible refine LeO.bind ?_ (fun _ => ?_))
   | exact ih0 _ _ _ _ _ _ _ _ _ _ _ _ _ _ _ _ _ _ _ _ _ _ _ _ _
   | exact ih1 _ _ _ _ _ _ _ _ _ _ _ _ _ _ _ _ _ _
   | exact ih2 _ _ _ _ _ _
   | exact impl_GrammarOf.mono _ _ _ _ _ _ _ _ _
   | exact laws_eqGrammar.mono _ _ _ _ _ _ _ _ _
   | exact laws_eqRaga.mono _ _ _ _ _ _ _ _ _ _ _ _ _
   | exact laws_heldGrammar.mono _ _ _ _ _ _
   | exact laws_markGrammar.mono _ _ _ _ _ _
   | exact laws_szRaga.mono _ _ _ _ _ _ _ _
   | exact laws_toRaga.mono _ _ _ _ _ _ _
   | exact spec_GrammarOf.mono _ _ _ _ _ _ _ _ _
   | exact LeO.none _
   | refine LeO.ite ?_ ?_
   | refine LeO.bind ?_ (fun _ => ?_)
  ·intro y0 y1 y2 y3 y4 y5 y6 y7 y8 y9 y10 y11 y12 y13 y14 y15 y16 y17
   unfold laws_FnExactGrammarOf.j1
   repeat' first
   | (with_reducible exact ih0 _ _ _ _ _ _ _ _ _ _ _ _ _ _ _ _ _ _ _ _ _ _ _ _ _)
   | (with_reducible exact ih1 _ _ _ _ _ _ _ _ _ _ _ _ _ _ _ _ _ _)
   | (with_reducible exact ih2 _ _ _ _ _ _)
   | (with_reducible exact impl_GrammarOf.mono _ _ _ _ _ _ _ _ _)
   | (with_reducible exact laws_eqGrammar.mono _ _ _ _ _ _ _ _ _)
   | (with_reducible exact laws_eqRaga.mono _ _ _ _ _ _ _ _ _ _ _ _ _)
   | (with_reducible exact laws_heldGrammar.mono _ _ _ _ _ _)
   | (with_reducible exact laws_markGrammar.mono _ _ _ _ _ _)
   | (with_reducible exact laws_szRaga.mono _ _ _ _ _ _ _ _)
   | (with_reducible exact laws_toRaga.mono _ _ _ _ _ _ _)
   | (with_reducible exact spec_GrammarOf.mono _ _ _ _ _ _ _ _ _)
   | (with_reducible exact LeO.refl _)
   | (with_reducible exact LeO.none _)
   | (with_reducible refine LeO.ite ?_ ?_)
   | (with_reducible refine LeO.bind ?_ (fun _ => ?_))
   | exact ih0 _ _ _ _ _ _ _ _ _ _ _ _ _ _ _ _ _ _ _ _ _ _ _ _ _
   | exact ih1 _ _ _ _ _ _ _ _ _ _ _ _ _ _ _ _ _ _
   | exact ih2 _ _ _ _ _ _
   | exact impl_GrammarOf.mono _ _ _ _ _ _ _ _ _
   | exact laws_eqGrammar.mono _ _ _ _ _ _ _ _ _
   | exact laws_eqRaga.mono _ _ _ _ _ _ _ _ _ _ _ _ _
   | exact laws_heldGrammar.mono _ _ _ _ _ _
   | exact laws_markGrammar.mono _ _ _ _ _ _
   | exact laws_szRaga.mono _ _ _ _ _ _ _ _
   | exact laws_toRaga.mono _ _ _ _ _ _ _
   | exact spec_GrammarOf.mono _ _ _ _ _ _ _ _ _
   | exact LeO.none _
   | refine LeO.ite ?_ ?_
   | refine LeO.bind ?_ (fun _ => ?_)
  ·intro y0 y1 y2 y3 y4 y5
   unfold laws_FnExactGrammarOf.j2
   repeat' first
   | (with_reducible exact ih0 _ _ _ _ _ _ _ _ _ _ _ _ _ _ _ _ _ _ _ _ _ _ _ _ _)
   | (with_reducible exact ih1 _ _ _ _ _ _ _ _ _ _ _ _ _ _ _ _ _ _)
   | (with_reducible exact ih2 _ _ _ _ _ _)
   | (with_reducible exact impl_GrammarOf.mono _ _ _ _ _ _ _ _ _)
   | (with_reducible exact laws_eqGrammar.mono _ _ _ _ _ _ _ _ _)
   | (with_reducible exact laws_eqRaga.mono _ _ _ _ _ _ _ _ _ _ _ _ _)
   | (with_reducible exact laws_heldGrammar.mono _ _ _ _ _ _)
   | (with_reducible exact laws_markGrammar.mono _ _ _ _ _ _)
   | (with_reducible exact laws_szRaga.mono _ _ _ _ _ _ _ _)
   | (with_reducible exact laws_toRaga.mono _ _ _ _ _ _ _)
   | (with_reducible exact spec_GrammarOf.mono _ _ _ _ _ _ _ _ _)
   | (with_reducible exact LeO.refl _)
   | (with_reducible exact LeO.none _)
   | (with_reducible refine LeO.ite ?_ ?_)
   | (with_reducible refine LeO.bind ?_ (fun _ => ?_))
   | exact ih0 _ _ _ _ _ _ _ _ _ _ _ _ _ _ _ _ _ _ _ _ _ _ _ _ _
   | exact ih1 _ _ _ _ _ _ _ _ _ _ _ _ _ _ _ _ _ _
   | exact ih2 _ _ _ _ _ _
   | exact impl_GrammarOf.mono _ _ _ _ _ _ _ _ _
   | exact laws_eqGrammar.mono _ _ _ _ _ _ _ _ _
   | exact laws_eqRaga.mono _ _ _ _ _ _ _ _ _ _ _ _ _
   | exact laws_heldGrammar.mono _ _ _ _ _ _
   | exact laws_markGrammar.mono _ _ _ _ _ _
   | exact laws_szRaga.mono _ _ _ _ _ _ _ _
   | exact laws_toRaga.mono _ _ _ _ _ _ _
   | exact spec_GrammarOf.mono _ _ _ _ _ _ _ _ _
   | exact LeO.none _
   | refine LeO.ite ?_ ?_
   | refine LeO.bind ?_ (fun _ => ?_)
theorem laws_FnExactGrammarOf.mono : ∀ a0 a1 a2 a3 a4 a5 a6 a7 k, LeO (laws_FnExactGrammarOf.f k a0 a1 a2 a3 a4 a5 a6 a7) (laws_FnExactGrammarOf.f (k + 1) a0 a1 a2 a3 a4 a5 a6 a7) := by
 intro a0 a1 a2 a3 a4 a5 a6 a7 k
 obtain ⟨ih0, ih1, ih2⟩ := laws_FnExactGrammarOf.mono_l k
 unfold laws_FnExactGrammarOf.f
 repeat' first
   | (with_reducible exact ih0 _ _ _ _ _ _ _ _ _ _ _ _ _ _ _ _ _ _ _ _ _ _ _ _ _)
   | (with_reducible exact ih1 _ _ _ _ _ _ _ _ _ _ _ _ _ _ _ _ _ _)
   | (with_reducible exact ih2 _ _ _ _ _ _)
   | (with_reducible exact impl_GrammarOf.mono _ _ _ _ _ _ _ _ _)
   | (with_reducible exact laws_eqGrammar.mono _ _ _ _ _ _ _ _ _)
   | (with_reducible exact laws_eqRaga.mono _ _ _ _ _ _ _ _ _ _ _ _ _)
   | (with_reducible exact laws_heldGrammar.mono _ _ _ _ _ _)
   | (with_reducible exact laws_markGrammar.mono _ _ _ _ _ _)
   | (with_reducible exact laws_szRaga.mono _ _ _ _ _ _ _ _)
   | (with_reducible exact laws_toRaga.mono _ _ _ _ _ _ _)
   | (with_reducible exact spec_GrammarOf.mono _ _ _ _ _ _ _ _ _)
   | (with_reducible exact LeO.refl _)
   | (with_reducible exact LeO.none _)
   | (with_reducible refine LeO.ite ?_ ?_)
   | (with_reducible refine LeO.bind ?_ (fun _ => ?_))
   | exact ih0 _ _ _ _ _ _ _ _ _ _ _ _ _ _ _ _ _ _ _ _ _ _ _ _ _
   | exact ih1 _ _ _ _ _ _ _ _ _ _ _ _ _ _ _ _ _ _
   | exact ih2 _ _ _ _ _ _
   | exact impl_GrammarOf.mono _ _ _ _ _ _ _ _ _
   | exact laws_eqGrammar.mono _ _ _ _ _ _ _ _ _
   | exact laws_eqRaga.mono _ _ _ _ _ _ _ _ _ _ _ _ _
   | exact laws_heldGrammar.mono _ _ _ _ _ _
   | exact laws_markGrammar.mono _ _ _ _ _ _
   | exact laws_szRaga.mono _ _ _ _ _ _ _ _
   | exact laws_toRaga.mono _ _ _ _ _ _ _
   | exact spec_GrammarOf.mono _ _ _ _ _ _ _ _ _
   | exact LeO.none _
   | refine LeO.ite ?_ ?_
   | refine LeO.bind ?_ (fun _ => ?_)
set_option maxHeartbeats 8000000 in
set_option maxRecDepth 100000 in
theorem laws_FnExactGrammarOf.calls (k : Nat) (a0_0 : ByteArray) (A0_1 : Option Addr) (c0_1 : Nat) (l0_1 : List Int) (A0_2 : Option Addr) (c0_2 : Nat) (l0_2 : List Int) (a0_3 : Int) (a0_4 : Int) (A0_5 : Option Addr) (c0_5 : Nat) (l0_5 : List (List Int)) (a1 : Int) (a2 : Int) (r : Bool) (w : World) (hr0_1 : Kd.C (Kd.int .i64) w A0_1 l0_1.length l0_1) (hc0_1 : l0_1.length ≤ c0_1) (hr0_2 : Kd.C (Kd.int .i64) w A0_2 l0_2.length l0_2) (hc0_2 : l0_2.length ≤ c0_2) (hr0_5 : Kd.C (Kd.slice 2 (Kd.int .i64)) w A0_5 l0_5.length l0_5) (hc0_5 : l0_5.length ≤ c0_5) (h : laws_FnExactGrammarOf.f k a0_0 l0_1 l0_2 a0_3 a0_4 l0_5 a1 a2 = some r) :
  Calls Try.prog 14 #[.agg #[.string a0_0, .slice A0_1 l0_1.length c0_1, .slice A0_2 l0_2.length c0_2, .int .i64 a0_3, .int .i64 a0_4, .slice A0_5 l0_5.length c0_5], .int .i64 a1, .int .i64 a2] w fun e w' => e = .returned (.bool r) ∧ Below w.heap.size w w' := by
 have hu55 := Try.underlying55
 have hu30 := Try.underlying30
 have hu58 := Try.underlying58
 have HR0_1 := Aside0.mk hr0_1
 have HC0_1 := Aside0.mk hc0_1
 clear hr0_1 hc0_1
 have HR0_2 := Aside0.mk hr0_2
 have HC0_2 := Aside0.mk hc0_2
 clear hr0_2 hc0_2
 have HR0_5 := Aside0.mk hr0_5
 have HC0_5 := Aside0.mk hc0_5
 clear hr0_5 hc0_5
 have HB := Aside0.mk (Below.refl w.heap.size w)
 have H : ((laws_szRaga.f k a0_0 l0_1 l0_2 a0_3 a0_4 l0_5 1048576).bind fun t308 => (if t308 < 0 then (some true) else ((laws_toRaga.f k a0_0 l0_1 l0_2 a0_3 a0_4 l0_5).bind fun bt309 => ((spec_GrammarOf.f k bt309.1 bt309.2.1 bt309.2.2.1 bt309.2.2.2.1 bt309.2.2.2.2.1 bt309.2.2.2.2.2 a1 a2).bind fun bt321 => ((laws_toRaga.f k a0_0 l0_1 l0_2 a0_3 a0_4 l0_5).bind fun bt331 => ((impl_GrammarOf.f k bt331.1 bt331.2.1 bt331.2.2.1 bt331.2.2.2.1 bt331.2.2.2.2.1 bt331.2.2.2.2.2 a1 a2).bind fun bt344 => ((laws_eqGrammar.f k bt344.1 bt344.2.1 bt344.2.2.1 bt344.2.2.2.1 bt321.1 bt321.2.1 bt321.2.2.1 bt321.2.2.2.1).bind fun t354 => (if t354 = true then (laws_FnExactGrammarOf.j0 k a1 a2 bt321.2.2.2.2 bt344.2.2.2.2 (bt344.2.2.2.2 != bt321.2.2.2.2) a0_0 l0_1 l0_2 a0_3 a0_4 l0_5 bt321.1 bt321.2.1 bt321.2.2.1 bt321.2.2.2.1 bt331.1 bt331.2.1 bt331.2.2.1 bt331.2.2.2.1 bt331.2.2.2.2.1 bt331.2.2.2.2.2 bt344.1 bt344.2.1 bt344.2.2.1 bt344.2.2.2.1) else (laws_FnExactGrammarOf.j0 k a1 a2 bt321.2.2.2.2 bt344.2.2.2.2 true a0_0 l0_1 l0_2 a0_3 a0_4 l0_5 bt321.1 bt321.2.1 bt321.2.2.1 bt321.2.2.2.1 bt331.1 bt331.2.1 bt331.2.2.1 bt331.2.2.2.1 bt331.2.2.2.2.1 bt331.2.2.2.2.2 bt344.1 bt344.2.1 bt344.2.2.1 bt344.2.2.2.1))))))))) = some r := h
 clear h
 replace H := Option.bind_eq_some_iff.mp H
 obtain ⟨t308, A40, H⟩ := H
 replace H : (if t308 < 0 then (some true) else ((laws_toRaga.f k a0_0 l0_1 l0_2 a0_3 a0_4 l0_5).bind fun bt309 => ((spec_GrammarOf.f k bt309.1 bt309.2.1 bt309.2.2.1 bt309.2.2.2.1 bt309.2.2.2.2.1 bt309.2.2.2.2.2 a1 a2).bind fun bt321 => ((laws_toRaga.f k a0_0 l0_1 l0_2 a0_3 a0_4 l0_5).bind fun bt331 => ((impl_GrammarOf.f k bt331.1 bt331.2.1 bt331.2.2.1 bt331.2.2.2.1 bt331.2.2.2.2.1 bt331.2.2.2.2.2 a1 a2).bind fun bt344 => ((laws_eqGrammar.f k bt344.1 bt344.2.1 bt344.2.2.1 bt344.2.2.2.1 bt321.1 bt321.2.1 bt321.2.2.1 bt321.2.2.2.1).bind fun t354 => (if t354 = true then (laws_FnExactGrammarOf.j0 k a1 a2 bt321.2.2.2.2 bt344.2.2.2.2 (bt344.2.2.2.2 != bt321.2.2.2.2) a0_0 l0_1 l0_2 a0_3 a0_4 l0_5 bt321.1 bt321.2.1 bt321.2.2.1 bt321.2.2.2.1 bt331.1 bt331.2.1 bt331.2.2.1 bt331.2.2.2.1 bt331.2.2.2.2.1 bt331.2.2.2.2.2 bt344.1 bt344.2.1 bt344.2.2.1 bt344.2.2.2.1) else (laws_FnExactGrammarOf.j0 k a1 a2 bt321.2.2.2.2 bt344.2.2.2.2 true a0_0 l0_1 l0_2 a0_3 a0_4 l0_5 bt321.1 bt321.2.1 bt321.2.2.1 bt321.2.2.2.1 bt331.1 bt331.2.1 bt331.2.2.1 bt331.2.2.2.1 bt331.2.2.2.2.1 bt331.2.2.2.2.2 bt344.1 bt344.2.1 bt344.2.2.1 bt344.2.2.2.1)))))))) = some r := H
 have A4 := Aside0.mk A40
 clear A40
 by_cases c5 : t308 < 0
 ·rw [if_pos c5] at H
  have c5b0 : decide (t308 < 0) = true := decide_eq_true c5
  clear c5
  obtain rfl := Option.some.inj H
  go_enter Try.func14, Try.ntmps14
  go_wp2_with (first | ((with_reducible refine gate_dst (N := 3) rfl ?_); refine bE ?hg (N := 3) ?hd (cs := #[.string a0_0, .slice A0_1 l0_1.length c0_1, .slice A0_2 l0_2.length c0_2, .int .i64 a0_3, .int .i64 a0_4, .slice A0_5 l0_5.length c0_5]) (t := 55) ?hr ?_; (case hd => rfl); (case hg => rfl); (case hr => first | (go_simp; done) | (go_simp; rfl)); intro gb307 hg w6 hbox hb; have z_ := bX hb (hQ HB); have n0_ := Aside0.mk (bP z_ hb); have n1_ := Aside0.mk (hbox); have n2_ := Aside0.mk ((by rw [hg]; exact (bZ z_) : w.heap.size ≤ gb307)); have n3_ := Aside0.mk ((by rw [hg]; exact (bZ z_) : w.heap.size ≤ gb307)); clear HB; have HB := n0_; have BK307 := n1_; have GW307 := n2_; have GE307 := n3_; clear z_ n0_ n1_ n2_ n3_; clear hb hbox hg; obtain ⟨hcz7_0, hcz7_1, hcz7_2, hcz7_3, hcz7_4, hcz7_5⟩ := cZ6 BK307.out; obtain ⟨hfz7_0, hfz7_1, hfz7_2, hfz7_3, hfz7_4, hfz7_5⟩ := fZ6 BK307.out) | ((with_reducible refine gC (f := 44) rfl ?_); refine goesL_ (some 20) rfl rfl Try.func44 (by kernel_rfl) rfl #[.agg #[.string a0_0, .slice A0_1 l0_1.length c0_1, .slice A0_2 l0_2.length c0_2, .int .i64 a0_3, .int .i64 a0_4, .slice A0_5 l0_5.length c0_5], .int .i64 1048576] rfl lQ ?_; (with_reducible refine (laws_szRaga.calls k a0_0 _ _ l0_1 _ _ l0_2 a0_3 a0_4 _ _ l0_5 1048576 t308 _ ?side1 ?side2 ?side3 ?side4 ?side5 ?side6 A4.out).mono ?_); (case side1 => exact cP (cB HR0_1.out HB.out)); (case side2 => exact HC0_1.out); (case side3 => exact cP (cB HR0_2.out HB.out)); (case side4 => exact HC0_2.out); (case side5 => exact cP (cB HR0_5.out HB.out)); (case side6 => exact HC0_5.out); rintro e w8 ⟨rfl, hb⟩; refine ⟨_, rfl, ?_⟩; have n0_ := Aside0.mk (kB (kQ BK307) hb); have n1_ := Aside0.mk (bP (by repeat (first | (with_reducible first | exact HB.out | apply bA | apply bN | apply bD | refine bS ?_ GE307.out) | exact HB.out)) hb); clear BK307; clear HB; have BK307 := n0_; have HB := n1_; clear n0_ n1_; (try clear hb); (try clear hb2); (try clear hk); (try clear hi)))
  go_ret
  exact ⟨by first | rfl | (simp [errW_none, errW_some] <;> rfl) | (simp [*, errW_none, errW_some] <;> rfl), by repeat (first | (with_reducible first | exact HB.out | apply bA | apply bN | apply bD | refine bS ?_ GE307.out) | exact HB.out)⟩
 ·rw [if_neg c5] at H
  have c5b0 : decide (t308 < 0) = false := decide_eq_false c5
  clear c5
  replace H := Option.bind_eq_some_iff.mp H
  obtain ⟨⟨t309, t310, t313, t316, t317, t318⟩, A90, H⟩ := H
  replace H : ((spec_GrammarOf.f k t309 t310 t313 t316 t317 t318 a1 a2).bind fun bt321 => ((laws_toRaga.f k a0_0 l0_1 l0_2 a0_3 a0_4 l0_5).bind fun bt331 => ((impl_GrammarOf.f k bt331.1 bt331.2.1 bt331.2.2.1 bt331.2.2.2.1 bt331.2.2.2.2.1 bt331.2.2.2.2.2 a1 a2).bind fun bt344 => ((laws_eqGrammar.f k bt344.1 bt344.2.1 bt344.2.2.1 bt344.2.2.2.1 bt321.1 bt321.2.1 bt321.2.2.1 bt321.2.2.2.1).bind fun t354 => (if t354 = true then (laws_FnExactGrammarOf.j0 k a1 a2 bt321.2.2.2.2 bt344.2.2.2.2 (bt344.2.2.2.2 != bt321.2.2.2.2) a0_0 l0_1 l0_2 a0_3 a0_4 l0_5 bt321.1 bt321.2.1 bt321.2.2.1 bt321.2.2.2.1 bt331.1 bt331.2.1 bt331.2.2.1 bt331.2.2.2.1 bt331.2.2.2.2.1 bt331.2.2.2.2.2 bt344.1 bt344.2.1 bt344.2.2.1 bt344.2.2.2.1) else (laws_FnExactGrammarOf.j0 k a1 a2 bt321.2.2.2.2 bt344.2.2.2.2 true a0_0 l0_1 l0_2 a0_3 a0_4 l0_5 bt321.1 bt321.2.1 bt321.2.2.1 bt321.2.2.2.1 bt331.1 bt331.2.1 bt331.2.2.1 bt331.2.2.2.1 bt331.2.2.2.2.1 bt331.2.2.2.2.2 bt344.1 bt344.2.1 bt344.2.2.1 bt344.2.2.2.1)))))) = some r := H
  have A9 := Aside0.mk A90
  clear A90
  replace H := Option.bind_eq_some_iff.mp H
  obtain ⟨⟨t321, t322, t323, t326, t329⟩, A100, H⟩ := H
  replace H : ((laws_toRaga.f k a0_0 l0_1 l0_2 a0_3 a0_4 l0_5).bind fun bt331 => ((impl_GrammarOf.f k bt331.1 bt331.2.1 bt331.2.2.1 bt331.2.2.2.1 bt331.2.2.2.2.1 bt331.2.2.2.2.2 a1 a2).bind fun bt344 => ((laws_eqGrammar.f k bt344.1 bt344.2.1 bt344.2.2.1 bt344.2.2.2.1 t321 t322 t323 t326).bind fun t354 => (if t354 = true then (laws_FnExactGrammarOf.j0 k a1 a2 t329 bt344.2.2.2.2 (bt344.2.2.2.2 != t329) a0_0 l0_1 l0_2 a0_3 a0_4 l0_5 t321 t322 t323 t326 bt331.1 bt331.2.1 bt331.2.2.1 bt331.2.2.2.1 bt331.2.2.2.2.1 bt331.2.2.2.2.2 bt344.1 bt344.2.1 bt344.2.2.1 bt344.2.2.2.1) else (laws_FnExactGrammarOf.j0 k a1 a2 t329 bt344.2.2.2.2 true a0_0 l0_1 l0_2 a0_3 a0_4 l0_5 t321 t322 t323 t326 bt331.1 bt331.2.1 bt331.2.2.1 bt331.2.2.2.1 bt331.2.2.2.2.1 bt331.2.2.2.2.2 bt344.1 bt344.2.1 bt344.2.2.1 bt344.2.2.2.1))))) = some r := H
  have A10 := Aside0.mk A100
  clear A100
  replace H := Option.bind_eq_some_iff.mp H
  obtain ⟨⟨t331, t332, t335, t338, t339, t340⟩, A110, H⟩ := H
  replace H : ((impl_GrammarOf.f k t331 t332 t335 t338 t339 t340 a1 a2).bind fun bt344 => ((laws_eqGrammar.f k bt344.1 bt344.2.1 bt344.2.2.1 bt344.2.2.2.1 t321 t322 t323 t326).bind fun t354 => (if t354 = true then (laws_FnExactGrammarOf.j0 k a1 a2 t329 bt344.2.2.2.2 (bt344.2.2.2.2 != t329) a0_0 l0_1 l0_2 a0_3 a0_4 l0_5 t321 t322 t323 t326 t331 t332 t335 t338 t339 t340 bt344.1 bt344.2.1 bt344.2.2.1 bt344.2.2.2.1) else (laws_FnExactGrammarOf.j0 k a1 a2 t329 bt344.2.2.2.2 true a0_0 l0_1 l0_2 a0_3 a0_4 l0_5 t321 t322 t323 t326 t331 t332 t335 t338 t339 t340 bt344.1 bt344.2.1 bt344.2.2.1 bt344.2.2.2.1)))) = some r := H
  have A11 := Aside0.mk A110
  clear A110
  replace H := Option.bind_eq_some_iff.mp H
  obtain ⟨⟨t344, t345, t346, t349, t352⟩, A120, H⟩ := H
  replace H : ((laws_eqGrammar.f k t344 t345 t346 t349 t321 t322 t323 t326).bind fun t354 => (if t354 = true then (laws_FnExactGrammarOf.j0 k a1 a2 t329 t352 (t352 != t329) a0_0 l0_1 l0_2 a0_3 a0_4 l0_5 t321 t322 t323 t326 t331 t332 t335 t338 t339 t340 t344 t345 t346 t349) else (laws_FnExactGrammarOf.j0 k a1 a2 t329 t352 true a0_0 l0_1 l0_2 a0_3 a0_4 l0_5 t321 t322 t323 t326 t331 t332 t335 t338 t339 t340 t344 t345 t346 t349))) = some r := H
  have A12 := Aside0.mk A120
  clear A120
  have HC13 := Aside0.mk H
  clear H
  go_enter Try.func14, Try.ntmps14
  go_upto_region 8 with (first | ((with_reducible refine gate_dst (N := 3) rfl ?_); refine bE ?hg (N := 3) ?hd (cs := #[.string a0_0, .slice A0_1 l0_1.length c0_1, .slice A0_2 l0_2.length c0_2, .int .i64 a0_3, .int .i64 a0_4, .slice A0_5 l0_5.length c0_5]) (t := 55) ?hr ?_; (case hd => rfl); (case hg => rfl); (case hr => first | (go_simp; done) | (go_simp; rfl)); intro gb307 hg w14 hbox hb; have z_ := bX hb (hQ HB); have n0_ := Aside0.mk (bP z_ hb); have n1_ := Aside0.mk (hbox); have n2_ := Aside0.mk ((by rw [hg]; exact (bZ z_) : w.heap.size ≤ gb307)); have n3_ := Aside0.mk ((by rw [hg]; exact (bZ z_) : w.heap.size ≤ gb307)); clear HB; have HB := n0_; have BK307 := n1_; have GW307 := n2_; have GE307 := n3_; clear z_ n0_ n1_ n2_ n3_; clear hb hbox hg; obtain ⟨hcz15_0, hcz15_1, hcz15_2, hcz15_3, hcz15_4, hcz15_5⟩ := cZ6 BK307.out; obtain ⟨hfz15_0, hfz15_1, hfz15_2, hfz15_3, hfz15_4, hfz15_5⟩ := fZ6 BK307.out) | ((with_reducible refine gC (f := 44) rfl ?_); refine goesL_ (some 20) rfl rfl Try.func44 (by kernel_rfl) rfl #[.agg #[.string a0_0, .slice A0_1 l0_1.length c0_1, .slice A0_2 l0_2.length c0_2, .int .i64 a0_3, .int .i64 a0_4, .slice A0_5 l0_5.length c0_5], .int .i64 1048576] rfl lQ ?_; (with_reducible refine (laws_szRaga.calls k a0_0 _ _ l0_1 _ _ l0_2 a0_3 a0_4 _ _ l0_5 1048576 t308 _ ?side1 ?side2 ?side3 ?side4 ?side5 ?side6 A4.out).mono ?_); (case side1 => exact cP (cB HR0_1.out HB.out)); (case side2 => exact HC0_1.out); (case side3 => exact cP (cB HR0_2.out HB.out)); (case side4 => exact HC0_2.out); (case side5 => exact cP (cB HR0_5.out HB.out)); (case side6 => exact HC0_5.out); rintro e w16 ⟨rfl, hb⟩; refine ⟨_, rfl, ?_⟩; have n0_ := Aside0.mk (kB (kQ BK307) hb); have n1_ := Aside0.mk (bP (by repeat (first | (with_reducible first | exact HB.out | apply bA | apply bN | apply bD | refine bS ?_ GE307.out) | exact HB.out)) hb); clear BK307; clear HB; have BK307 := n0_; have HB := n1_; clear n0_ n1_; (try clear hb); (try clear hb2); (try clear hk); (try clear hi); obtain ⟨hcz17_0, hcz17_1, hcz17_2, hcz17_3, hcz17_4, hcz17_5⟩ := cZ6 BK307.out; obtain ⟨hfz17_0, hfz17_1, hfz17_2, hfz17_3, hfz17_4, hfz17_5⟩ := fZ6 BK307.out) | ((with_reducible refine gC (f := 46) rfl ?_); refine goesL_ (some 25) rfl rfl Try.func46 (by kernel_rfl) rfl #[.agg #[.string a0_0, .slice A0_1 l0_1.length c0_1, .slice A0_2 l0_2.length c0_2, .int .i64 a0_3, .int .i64 a0_4, .slice A0_5 l0_5.length c0_5]] rfl lQ ?_; (with_reducible refine (laws_toRaga.calls k a0_0 _ _ l0_1 _ _ l0_2 a0_3 a0_4 _ _ l0_5 t309 t310 t313 t316 t317 t318 _ ?side1 ?side2 ?side3 ?side4 ?side5 ?side6 A9.out).mono ?_); (case side1 => exact cP (cB HR0_1.out HB.out)); (case side2 => exact HC0_1.out); (case side3 => exact cP (cB HR0_2.out HB.out)); (case side4 => exact HC0_2.out); (case side5 => exact cP (cB HR0_5.out HB.out)); (case side6 => exact HC0_5.out); rintro e w18 ⟨v311, v314, v319, rfl, ho0, ho1, ho2, hb⟩; refine ⟨_, rfl, ?_⟩; have z_ := bX hb (by repeat (first | (with_reducible first | exact HB.out | apply bA | apply bN | apply bD | refine bS ?_ GE307.out) | exact HB.out)); have n0_ := Aside0.mk (rL ho0 (bZ z_)); have n1_ := Aside0.mk (rL ho1 (bZ z_)); have n2_ := Aside0.mk (Kd.S_lower ho2 (bZ z_)); have n3_ := Aside0.mk (kB (kQ BK307) hb); have n4_ := Aside0.mk (bP z_ hb); clear BK307; clear HB; have HO312 := n0_; have HO315 := n1_; have HO320 := n2_; have BK307 := n3_; have HB := n4_; clear z_ n0_ n1_ n2_ n3_ n4_; (try clear hb); (try clear hb2); (try clear hk); (try clear hi); (try clear ho0); (try clear ho1); (try clear ho2); obtain ⟨Ao19, co19, eo19⟩ := Kd.R_slice HO312.out; subst eo19; obtain ⟨Ao20, co20, eo20⟩ := Kd.R_slice HO315.out; subst eo20; obtain ⟨Ao21, co21, eo21⟩ := Kd.S_slice HO320.out; subst eo21) | ((with_reducible refine gC (f := 49) rfl ?_); refine goesL_ (some 28) rfl rfl Try.func49 (by kernel_rfl) rfl #[.agg #[.string t309, .slice Ao19 t310.length co19, .slice Ao20 t313.length co20, .int .i64 t316, .int .i64 t317, .slice Ao21 t318.length co21], .int .i64 a1, .int .i64 a2] rfl lQ ?_; (with_reducible refine (spec_GrammarOf.calls k t309 _ _ t310 _ _ t313 t316 t317 _ _ t318 a1 a2 t321 t322 t323 t326 t329 _ ?side1 ?side2 ?side3 ?side4 ?side5 ?side6 A10.out).mono ?_); (case side1 => exact cP (Kd.R_reads' HO312.out).2.2); (case side2 => exact (Kd.R_reads' HO312.out).2.1); (case side3 => exact cP (Kd.R_reads' HO315.out).2.2); (case side4 => exact (Kd.R_reads' HO315.out).2.1); (case side5 => exact cP (Kd.S_reads' HO320.out).2.2); (case side6 => exact (Kd.S_reads' HO320.out).2.1); rintro e w22 ⟨v324, v327, rfl, ho0, ho1, hb⟩; refine ⟨_, rfl, ?_⟩; have z_ := bX hb (by repeat (first | (with_reducible first | exact HB.out | apply bA | apply bN | apply bD | refine bS ?_ GE307.out) | exact HB.out)); have n0_ := Aside0.mk (rE (rQ HO312) (Kd.R_base ho0) hb); have n1_ := Aside0.mk (rE (rQ HO315) (Kd.R_base ho0) hb); have n2_ := Aside0.mk (Kd.S_elder' (by (with_reducible repeat (first | apply Kd.S_alloc | apply Kd.S_drewN | apply Kd.S_drew)); exact HO320.out) (Kd.R_base ho0) hb); have n3_ := Aside0.mk (rL (rW (rW ho0 (rT (rQ HO312))) (rT (rQ HO315))) (bZ z_)); have n4_ := Aside0.mk (rL ho1 (bZ z_)); have n5_ := Aside0.mk (kB (kQ BK307) hb); have n6_ := Aside0.mk (bP z_ hb); clear HO312; clear HO315; clear HO320; clear BK307; clear HB; have HO312 := n0_; have HO315 := n1_; have HO320 := n2_; have HO325 := n3_; have HO328 := n4_; have BK307 := n5_; have HB := n6_; clear z_ n0_ n1_ n2_ n3_ n4_ n5_ n6_; (try clear hb); (try clear hb2); (try clear hk); (try clear hi); (try clear ho0); (try clear ho1)) | ((with_reducible refine gate_dst (N := 8) rfl ?_); refine bE ?hg (N := 8) ?hd (cs := #[.int .i64 0, .int .i64 0, .slice none 0 0, .slice none 0 0]) (t := 30) ?hr ?_; (case hd => rfl); (case hg => rfl); (case hr => first | (go_simp; done) | (go_simp; rfl)); intro gb330 hg w23 hbox hb; have z_ := bX hb (by repeat (first | (with_reducible first | exact HB.out | apply bA | apply bN | apply bD | refine bS ?_ GE307.out) | exact HB.out)); have n0_ := Aside0.mk (rB (rQ HO312) hb); have n1_ := Aside0.mk (rB (rQ HO315) hb); have n2_ := Aside0.mk (Kd.S_below (by (with_reducible repeat (first | apply Kd.S_alloc | apply Kd.S_drewN | apply Kd.S_drew)); exact HO320.out) hb); have n3_ := Aside0.mk (rB (rQ HO325) hb); have n4_ := Aside0.mk (rB (rQ HO328) hb); have n5_ := Aside0.mk (kB (kQ BK307) hb); have n6_ := Aside0.mk (bP z_ hb); have n7_ := Aside0.mk (hbox); have n8_ := Aside0.mk ((by rw [hg]; exact (bZ z_) : w.heap.size ≤ gb330)); have n9_ := Aside0.mk ((by rw [hg]; exact (bZ z_) : w.heap.size ≤ gb330)); have n10_ := Aside0.mk ((by rw [hg]; exact Nat.ne_of_lt (kL (kQ BK307)) : gb307 ≠ gb330)); have n11_ := Aside0.mk ((by rw [hg]; exact Nat.ne_of_gt (kL (kQ BK307)) : gb330 ≠ gb307)); clear HO312; clear HO315; clear HO320; clear HO325; clear HO328; clear BK307; clear HB; have HO312 := n0_; have HO315 := n1_; have HO320 := n2_; have HO325 := n3_; have HO328 := n4_; have BK307 := n5_; have HB := n6_; have BK330 := n7_; have GW330 := n8_; have GE330 := n9_; have NB307_330 := n10_; have NB330_307 := n11_; clear z_ n0_ n1_ n2_ n3_ n4_ n5_ n6_ n7_ n8_ n9_ n10_ n11_; clear hb hbox hg; have hnb24 := NB330_307.out; have hnc24 := NB307_330.out; obtain ⟨hcz25_0, hcz25_1, hcz25_2, hcz25_3⟩ := cZ4 BK330.out; obtain ⟨hfz25_0, hfz25_1, hfz25_2, hfz25_3⟩ := fZ4 BK330.out; obtain ⟨Ao26, co26, eo26⟩ := Kd.R_slice HO325.out; subst eo26; obtain ⟨Ao27, co27, eo27⟩ := Kd.R_slice HO328.out; subst eo27; obtain ⟨hcz28_0, hcz28_1, hcz28_2, hcz28_3, hcz28_4, hcz28_5⟩ := cZ6 BK307.out; obtain ⟨hfz28_0, hfz28_1, hfz28_2, hfz28_3, hfz28_4, hfz28_5⟩ := fZ6 BK307.out) | ((with_reducible refine gC (f := 46) rfl ?_); refine goesL_ (some 32) rfl rfl Try.func46 (by kernel_rfl) rfl #[.agg #[.string a0_0, .slice A0_1 l0_1.length c0_1, .slice A0_2 l0_2.length c0_2, .int .i64 a0_3, .int .i64 a0_4, .slice A0_5 l0_5.length c0_5]] rfl lQ ?_; (with_reducible refine (laws_toRaga.calls k a0_0 _ _ l0_1 _ _ l0_2 a0_3 a0_4 _ _ l0_5 t331 t332 t335 t338 t339 t340 _ ?side1 ?side2 ?side3 ?side4 ?side5 ?side6 A11.out).mono ?_); (case side1 => exact cB HR0_1.out (by repeat (first | (with_reducible first | exact HB.out | apply bA | apply bN | apply bD | refine bS ?_ GE307.out | refine bS ?_ GE330.out) | exact HB.out))); (case side2 => exact HC0_1.out); (case side3 => exact cB HR0_2.out (by repeat (first | (with_reducible first | exact HB.out | apply bA | apply bN | apply bD | refine bS ?_ GE307.out | refine bS ?_ GE330.out) | exact HB.out))); (case side4 => exact HC0_2.out); (case side5 => exact cB HR0_5.out (by repeat (first | (with_reducible first | exact HB.out | apply bA | apply bN | apply bD | refine bS ?_ GE307.out | refine bS ?_ GE330.out) | exact HB.out))); (case side6 => exact HC0_5.out); rintro e w29 ⟨v333, v336, v341, rfl, ho0, ho1, ho2, hb⟩; refine ⟨_, rfl, ?_⟩; have z_ := bX hb (by repeat (first | (with_reducible first | exact HB.out | apply bA | apply bN | apply bD | refine bS ?_ GE307.out | refine bS ?_ GE330.out) | exact HB.out)); have n0_ := Aside0.mk (rM (Kd.R_told (Kd.R_told (Kd.R_old (by (with_reducible repeat (first | apply rA | apply rN | apply rD)); exact (rM (Kd.R_far (p := ⟨gb330, 3, none⟩) (Kd.R_far (p := ⟨gb330, 2, none⟩) (Kd.R_far (p := ⟨gb330, 1, none⟩) (Kd.R_far (p := ⟨gb330, 0, none⟩) (Kd.R_types HO312.out BK330.out (by decide)) (fun _ hk => hk.2) (.int .i64 t321)) (fun _ hk => hk.2) (.int .i64 t322)) (fun _ hk => hk.2) (.slice Ao26 t323.length co26)) (fun _ hk => hk.2) (.slice Ao27 t326.length co27)) (fun _ h_ => h_.1))) hb) (Kd.R_base ho0)) (Kd.R_base ho1)) (fun _ h_ => h_.1)); have n1_ := Aside0.mk (rM (Kd.R_told (Kd.R_told (Kd.R_old (by (with_reducible repeat (first | apply rA | apply rN | apply rD)); exact (rM (Kd.R_far (p := ⟨gb330, 3, none⟩) (Kd.R_far (p := ⟨gb330, 2, none⟩) (Kd.R_far (p := ⟨gb330, 1, none⟩) (Kd.R_far (p := ⟨gb330, 0, none⟩) (Kd.R_types HO315.out BK330.out (by decide)) (fun _ hk => hk.2) (.int .i64 t321)) (fun _ hk => hk.2) (.int .i64 t322)) (fun _ hk => hk.2) (.slice Ao26 t323.length co26)) (fun _ hk => hk.2) (.slice Ao27 t326.length co27)) (fun _ h_ => h_.1))) hb) (Kd.R_base ho0)) (Kd.R_base ho1)) (fun _ h_ => h_.1)); have n2_ := Aside0.mk (Kd.S_mono (Kd.S_told (Kd.S_told (Kd.S_told (Kd.S_old (by (with_reducible repeat (first | apply Kd.S_alloc | apply Kd.S_drewN | apply Kd.S_drew)); exact (Kd.S_mono (Kd.S_far (p := ⟨gb330, 3, none⟩) (Kd.S_far (p := ⟨gb330, 2, none⟩) (Kd.S_far (p := ⟨gb330, 1, none⟩) (Kd.S_far (p := ⟨gb330, 0, none⟩) (Kd.S_types HO320.out BK330.out (by decide)) (fun _ hk => hk.2) (.int .i64 t321)) (fun _ hk => hk.2) (.int .i64 t322)) (fun _ hk => hk.2) (.slice Ao26 t323.length co26)) (fun _ hk => hk.2) (.slice Ao27 t326.length co27)) (fun _ h_ => h_.1))) hb) (Kd.R_base ho0)) (Kd.R_base ho1)) (Kd.S_base ho2)) (fun _ h_ => h_.1)); have n3_ := Aside0.mk (rM (Kd.R_told (Kd.R_told (Kd.R_old (by (with_reducible repeat (first | apply rA | apply rN | apply rD)); exact (rM (Kd.R_far (p := ⟨gb330, 3, none⟩) (Kd.R_far (p := ⟨gb330, 2, none⟩) (Kd.R_far (p := ⟨gb330, 1, none⟩) (Kd.R_far (p := ⟨gb330, 0, none⟩) (Kd.R_types HO325.out BK330.out (by decide)) (fun _ hk => hk.2) (.int .i64 t321)) (fun _ hk => hk.2) (.int .i64 t322)) (fun _ hk => hk.2) (.slice Ao26 t323.length co26)) (fun _ hk => hk.2) (.slice Ao27 t326.length co27)) (fun _ h_ => h_.1))) hb) (Kd.R_base ho0)) (Kd.R_base ho1)) (fun _ h_ => h_.1)); have n4_ := Aside0.mk (rB (by (with_reducible repeat (first | apply rA | apply rN | apply rD)); exact (rM (Kd.R_far (p := ⟨gb330, 3, none⟩) (Kd.R_far (p := ⟨gb330, 2, none⟩) (Kd.R_far (p := ⟨gb330, 1, none⟩) (Kd.R_far (p := ⟨gb330, 0, none⟩) (Kd.R_types HO328.out BK330.out (by decide)) (fun _ hk => hk.2) (.int .i64 t321)) (fun _ hk => hk.2) (.int .i64 t322)) (fun _ hk => hk.2) (.slice Ao26 t323.length co26)) (fun _ hk => hk.2) (.slice Ao27 t326.length co27)) (fun _ h_ => h_.1))) hb); have n5_ := Aside0.mk (rL (rW (rW (rW ho0 (rT (by (with_reducible repeat (first | apply rA | apply rN | apply rD)); exact (rM (Kd.R_far (p := ⟨gb330, 3, none⟩) (Kd.R_far (p := ⟨gb330, 2, none⟩) (Kd.R_far (p := ⟨gb330, 1, none⟩) (Kd.R_far (p := ⟨gb330, 0, none⟩) (Kd.R_types HO312.out BK330.out (by decide)) (fun _ hk => hk.2) (.int .i64 t321)) (fun _ hk => hk.2) (.int .i64 t322)) (fun _ hk => hk.2) (.slice Ao26 t323.length co26)) (fun _ hk => hk.2) (.slice Ao27 t326.length co27)) (fun _ h_ => h_.1))))) (rT (by (with_reducible repeat (first | apply rA | apply rN | apply rD)); exact (rM (Kd.R_far (p := ⟨gb330, 3, none⟩) (Kd.R_far (p := ⟨gb330, 2, none⟩) (Kd.R_far (p := ⟨gb330, 1, none⟩) (Kd.R_far (p := ⟨gb330, 0, none⟩) (Kd.R_types HO315.out BK330.out (by decide)) (fun _ hk => hk.2) (.int .i64 t321)) (fun _ hk => hk.2) (.int .i64 t322)) (fun _ hk => hk.2) (.slice Ao26 t323.length co26)) (fun _ hk => hk.2) (.slice Ao27 t326.length co27)) (fun _ h_ => h_.1))))) (rT (by (with_reducible repeat (first | apply rA | apply rN | apply rD)); exact (rM (Kd.R_far (p := ⟨gb330, 3, none⟩) (Kd.R_far (p := ⟨gb330, 2, none⟩) (Kd.R_far (p := ⟨gb330, 1, none⟩) (Kd.R_far (p := ⟨gb330, 0, none⟩) (Kd.R_types HO325.out BK330.out (by decide)) (fun _ hk => hk.2) (.int .i64 t321)) (fun _ hk => hk.2) (.int .i64 t322)) (fun _ hk => hk.2) (.slice Ao26 t323.length co26)) (fun _ hk => hk.2) (.slice Ao27 t326.length co27)) (fun _ h_ => h_.1))))) (bZ z_)); have n6_ := Aside0.mk (rL (rW (rW (rW ho1 (rT (by (with_reducible repeat (first | apply rA | apply rN | apply rD)); exact (rM (Kd.R_far (p := ⟨gb330, 3, none⟩) (Kd.R_far (p := ⟨gb330, 2, none⟩) (Kd.R_far (p := ⟨gb330, 1, none⟩) (Kd.R_far (p := ⟨gb330, 0, none⟩) (Kd.R_types HO312.out BK330.out (by decide)) (fun _ hk => hk.2) (.int .i64 t321)) (fun _ hk => hk.2) (.int .i64 t322)) (fun _ hk => hk.2) (.slice Ao26 t323.length co26)) (fun _ hk => hk.2) (.slice Ao27 t326.length co27)) (fun _ h_ => h_.1))))) (rT (by (with_reducible repeat (first | apply rA | apply rN | apply rD)); exact (rM (Kd.R_far (p := ⟨gb330, 3, none⟩) (Kd.R_far (p := ⟨gb330, 2, none⟩) (Kd.R_far (p := ⟨gb330, 1, none⟩) (Kd.R_far (p := ⟨gb330, 0, none⟩) (Kd.R_types HO315.out BK330.out (by decide)) (fun _ hk => hk.2) (.int .i64 t321)) (fun _ hk => hk.2) (.int .i64 t322)) (fun _ hk => hk.2) (.slice Ao26 t323.length co26)) (fun _ hk => hk.2) (.slice Ao27 t326.length co27)) (fun _ h_ => h_.1))))) (rT (by (with_reducible repeat (first | apply rA | apply rN | apply rD)); exact (rM (Kd.R_far (p := ⟨gb330, 3, none⟩) (Kd.R_far (p := ⟨gb330, 2, none⟩) (Kd.R_far (p := ⟨gb330, 1, none⟩) (Kd.R_far (p := ⟨gb330, 0, none⟩) (Kd.R_types HO325.out BK330.out (by decide)) (fun _ hk => hk.2) (.int .i64 t321)) (fun _ hk => hk.2) (.int .i64 t322)) (fun _ hk => hk.2) (.slice Ao26 t323.length co26)) (fun _ hk => hk.2) (.slice Ao27 t326.length co27)) (fun _ h_ => h_.1))))) (bZ z_)); have n7_ := Aside0.mk (Kd.S_lower (Kd.S_new' (Kd.S_new' (Kd.S_new' (Kd.S_new' ho2 (rT (by (with_reducible repeat (first | apply rA | apply rN | apply rD)); exact (rM (Kd.R_far (p := ⟨gb330, 3, none⟩) (Kd.R_far (p := ⟨gb330, 2, none⟩) (Kd.R_far (p := ⟨gb330, 1, none⟩) (Kd.R_far (p := ⟨gb330, 0, none⟩) (Kd.R_types HO312.out BK330.out (by decide)) (fun _ hk => hk.2) (.int .i64 t321)) (fun _ hk => hk.2) (.int .i64 t322)) (fun _ hk => hk.2) (.slice Ao26 t323.length co26)) (fun _ hk => hk.2) (.slice Ao27 t326.length co27)) (fun _ h_ => h_.1))))) (rT (by (with_reducible repeat (first | apply rA | apply rN | apply rD)); exact (rM (Kd.R_far (p := ⟨gb330, 3, none⟩) (Kd.R_far (p := ⟨gb330, 2, none⟩) (Kd.R_far (p := ⟨gb330, 1, none⟩) (Kd.R_far (p := ⟨gb330, 0, none⟩) (Kd.R_types HO315.out BK330.out (by decide)) (fun _ hk => hk.2) (.int .i64 t321)) (fun _ hk => hk.2) (.int .i64 t322)) (fun _ hk => hk.2) (.slice Ao26 t323.length co26)) (fun _ hk => hk.2) (.slice Ao27 t326.length co27)) (fun _ h_ => h_.1))))) (Kd.S_lt (by (with_reducible repeat (first | apply Kd.S_alloc | apply Kd.S_drewN | apply Kd.S_drew)); exact (Kd.S_mono (Kd.S_far (p := ⟨gb330, 3, none⟩) (Kd.S_far (p := ⟨gb330, 2, none⟩) (Kd.S_far (p := ⟨gb330, 1, none⟩) (Kd.S_far (p := ⟨gb330, 0, none⟩) (Kd.S_types HO320.out BK330.out (by decide)) (fun _ hk => hk.2) (.int .i64 t321)) (fun _ hk => hk.2) (.int .i64 t322)) (fun _ hk => hk.2) (.slice Ao26 t323.length co26)) (fun _ hk => hk.2) (.slice Ao27 t326.length co27)) (fun _ h_ => h_.1))))) (rT (by (with_reducible repeat (first | apply rA | apply rN | apply rD)); exact (rM (Kd.R_far (p := ⟨gb330, 3, none⟩) (Kd.R_far (p := ⟨gb330, 2, none⟩) (Kd.R_far (p := ⟨gb330, 1, none⟩) (Kd.R_far (p := ⟨gb330, 0, none⟩) (Kd.R_types HO325.out BK330.out (by decide)) (fun _ hk => hk.2) (.int .i64 t321)) (fun _ hk => hk.2) (.int .i64 t322)) (fun _ hk => hk.2) (.slice Ao26 t323.length co26)) (fun _ hk => hk.2) (.slice Ao27 t326.length co27)) (fun _ h_ => h_.1))))) (bZ z_)); have n8_ := Aside0.mk (kB (g := gb307) (o := .cells #[.string a0_0, .slice A0_1 l0_1.length c0_1, .slice A0_2 l0_2.length c0_2, .int .i64 a0_3, .int .i64 a0_4, .slice A0_5 l0_5.length c0_5] 55 (0, 0)) (by (with_reducible repeat (first | refine kN ?_ _ | refine kD ?_ | refine kA ?_ _)); refine kF ?_ NB307_330.out _; (with_reducible repeat (first | refine kN ?_ _ | refine kD ?_ | refine kA ?_ _)); refine kF ?_ NB307_330.out _; (with_reducible repeat (first | refine kN ?_ _ | refine kD ?_ | refine kA ?_ _)); refine kF ?_ NB307_330.out _; (with_reducible repeat (first | refine kN ?_ _ | refine kD ?_ | refine kA ?_ _)); refine kF ?_ NB307_330.out _; (with_reducible repeat (first | refine kN ?_ _ | refine kD ?_ | refine kA ?_ _)); exact BK307.out) hb); have n9_ := Aside0.mk (kB (g := gb330) (o := .cells #[.int .i64 t321, .int .i64 t322, .slice Ao26 t323.length co26, .slice Ao27 t326.length co27] 30 (0, 0)) (by (with_reducible repeat (first | refine kN ?_ _ | refine kD ?_ | refine kA ?_ _)); refine blk_put (cs := #[.int .i64 t321, .int .i64 t322, .slice Ao26 t323.length co26, .slice none 0 0]) ?_ 3 _ rfl; (with_reducible repeat (first | refine kN ?_ _ | refine kD ?_ | refine kA ?_ _)); refine blk_put (cs := #[.int .i64 t321, .int .i64 t322, .slice none 0 0, .slice none 0 0]) ?_ 2 _ rfl; (with_reducible repeat (first | refine kN ?_ _ | refine kD ?_ | refine kA ?_ _)); refine blk_put (cs := #[.int .i64 t321, .int .i64 0, .slice none 0 0, .slice none 0 0]) ?_ 1 _ rfl; (with_reducible repeat (first | refine kN ?_ _ | refine kD ?_ | refine kA ?_ _)); refine blk_put (cs := #[.int .i64 0, .int .i64 0, .slice none 0 0, .slice none 0 0]) ?_ 0 _ rfl; (with_reducible repeat (first | refine kN ?_ _ | refine kD ?_ | refine kA ?_ _)); exact BK330.out) hb); have n10_ := Aside0.mk (bP z_ hb); clear HO312; clear HO315; clear HO320; clear HO325; clear HO328; clear BK307; clear BK330; clear HB; have HO312 := n0_; have HO315 := n1_; have HO320 := n2_; have HO325 := n3_; have HO328 := n4_; have HO334 := n5_; have HO337 := n6_; have HO342 := n7_; have BK307 := n8_; have BK330 := n9_; have HB := n10_; clear z_ n0_ n1_ n2_ n3_ n4_ n5_ n6_ n7_ n8_ n9_ n10_; (try clear hb); (try clear hb2); (try clear hk); (try clear hi); (try clear ho0); (try clear ho1); (try clear ho2)) | ((with_reducible refine gate_dst (N := 10) rfl ?_); refine bE ?hg (N := 10) ?hd (cs := #[.string (⟨#[]⟩ : ByteArray), .slice none 0 0, .slice none 0 0, .int .i64 0, .int .i64 0, .slice none 0 0]) (t := 58) ?hr ?_; (case hd => rfl); (case hg => rfl); (case hr => first | (go_simp; done) | (go_simp; rfl)); intro gb343 hg w30 hbox hb; have z_ := bX hb (by repeat (first | (with_reducible first | exact HB.out | apply bA | apply bN | apply bD | refine bS ?_ GE307.out | refine bS ?_ GE330.out) | exact HB.out)); have n0_ := Aside0.mk (rB (rQ HO312) hb); have n1_ := Aside0.mk (rB (rQ HO315) hb); have n2_ := Aside0.mk (Kd.S_below (by (with_reducible repeat (first | apply Kd.S_alloc | apply Kd.S_drewN | apply Kd.S_drew)); exact HO320.out) hb); have n3_ := Aside0.mk (rB (rQ HO325) hb); have n4_ := Aside0.mk (rB (rQ HO328) hb); have n5_ := Aside0.mk (rB (rQ HO334) hb); have n6_ := Aside0.mk (rB (rQ HO337) hb); have n7_ := Aside0.mk (Kd.S_below (by (with_reducible repeat (first | apply Kd.S_alloc | apply Kd.S_drewN | apply Kd.S_drew)); exact HO342.out) hb); have n8_ := Aside0.mk (kB (kQ BK307) hb); have n9_ := Aside0.mk (kB (kQ BK330) hb); have n10_ := Aside0.mk (bP z_ hb); have n11_ := Aside0.mk (hbox); have n12_ := Aside0.mk ((by rw [hg]; exact (bZ z_) : w.heap.size ≤ gb343)); have n13_ := Aside0.mk ((by rw [hg]; exact (bZ z_) : w.heap.size ≤ gb343)); have n14_ := Aside0.mk ((by rw [hg]; exact Nat.ne_of_lt (kL (kQ BK307)) : gb307 ≠ gb343)); have n15_ := Aside0.mk ((by rw [hg]; exact Nat.ne_of_gt (kL (kQ BK307)) : gb343 ≠ gb307)); have n16_ := Aside0.mk ((by rw [hg]; exact Nat.ne_of_lt (kL (kQ BK330)) : gb330 ≠ gb343)); have n17_ := Aside0.mk ((by rw [hg]; exact Nat.ne_of_gt (kL (kQ BK330)) : gb343 ≠ gb330)); clear HO312; clear HO315; clear HO320; clear HO325; clear HO328; clear HO334; clear HO337; clear HO342; clear BK307; clear BK330; clear HB; have HO312 := n0_; have HO315 := n1_; have HO320 := n2_; have HO325 := n3_; have HO328 := n4_; have HO334 := n5_; have HO337 := n6_; have HO342 := n7_; have BK307 := n8_; have BK330 := n9_; have HB := n10_; have BK343 := n11_; have GW343 := n12_; have GE343 := n13_; have NB307_343 := n14_; have NB343_307 := n15_; have NB330_343 := n16_; have NB343_330 := n17_; clear z_ n0_ n1_ n2_ n3_ n4_ n5_ n6_ n7_ n8_ n9_ n10_ n11_ n12_ n13_ n14_ n15_ n16_ n17_; clear hb hbox hg; have hnb31 := NB343_307.out; have hnc31 := NB307_343.out; have hnb32 := NB343_330.out; have hnc32 := NB330_343.out; obtain ⟨hcz33_0, hcz33_1, hcz33_2, hcz33_3, hcz33_4, hcz33_5⟩ := cZ6 BK343.out; obtain ⟨hfz33_0, hfz33_1, hfz33_2, hfz33_3, hfz33_4, hfz33_5⟩ := fZ6 BK343.out; obtain ⟨Ao34, co34, eo34⟩ := Kd.R_slice HO334.out; subst eo34; obtain ⟨Ao35, co35, eo35⟩ := Kd.R_slice HO337.out; subst eo35; obtain ⟨Ao36, co36, eo36⟩ := Kd.S_slice HO342.out; subst eo36) | ((with_reducible refine gC (f := 50) rfl ?_); refine goesL_ (some 37) rfl rfl Try.func50 (by kernel_rfl) rfl #[.agg #[.string t331, .slice Ao34 t332.length co34, .slice Ao35 t335.length co35, .int .i64 t338, .int .i64 t339, .slice Ao36 t340.length co36], .int .i64 a1, .int .i64 a2] rfl lQ ?_; (with_reducible refine (impl_GrammarOf.calls k t331 _ _ t332 _ _ t335 t338 t339 _ _ t340 a1 a2 t344 t345 t346 t349 t352 _ ?side1 ?side2 ?side3 ?side4 ?side5 ?side6 A12.out).mono ?_); (case side1 => refine (Kd.R_reads' (e := 2) (base := w.heap.size) (ok := fun k_ => (((some k_ ≠ (.slice Ao35 t335.length co35 : Value).ownBlock ∧ some k_ ≠ (.slice Ao19 t310.length co19 : Value).ownBlock) ∧ some k_ ≠ (.slice Ao20 t313.length co20 : Value).ownBlock) ∧ some k_ ≠ (.slice Ao26 t323.length co26 : Value).ownBlock)) (n := t332.length) (c := co34) ?_).2.2; exact (by (with_reducible repeat (first | apply rA | apply rN | apply rD)); exact (rM (Kd.R_far (p := ⟨gb343, 5, none⟩) (Kd.R_far (p := ⟨gb343, 4, none⟩) (Kd.R_far (p := ⟨gb343, 3, none⟩) (Kd.R_far (p := ⟨gb343, 2, none⟩) (Kd.R_far (p := ⟨gb343, 1, none⟩) (Kd.R_far (p := ⟨gb343, 0, none⟩) (Kd.R_types HO334.out BK343.out (by decide)) (fun _ hk => hk.2) (.string t331)) (fun _ hk => hk.2) (.slice Ao34 t332.length co34)) (fun _ hk => hk.2) (.slice Ao35 t335.length co35)) (fun _ hk => hk.2) (.int .i64 t338)) (fun _ hk => hk.2) (.int .i64 t339)) (fun _ hk => hk.2) (.slice Ao36 t340.length co36)) (fun _ h_ => h_.1)))); (case side2 => exact (Kd.R_reads' HO334.out).2.1); (case side3 => refine (Kd.R_reads' (e := 2) (base := w.heap.size) (ok := fun k_ => (((some k_ ≠ (.slice Ao34 t332.length co34 : Value).ownBlock ∧ some k_ ≠ (.slice Ao19 t310.length co19 : Value).ownBlock) ∧ some k_ ≠ (.slice Ao20 t313.length co20 : Value).ownBlock) ∧ some k_ ≠ (.slice Ao26 t323.length co26 : Value).ownBlock)) (n := t335.length) (c := co35) ?_).2.2; exact (by (with_reducible repeat (first | apply rA | apply rN | apply rD)); exact (rM (Kd.R_far (p := ⟨gb343, 5, none⟩) (Kd.R_far (p := ⟨gb343, 4, none⟩) (Kd.R_far (p := ⟨gb343, 3, none⟩) (Kd.R_far (p := ⟨gb343, 2, none⟩) (Kd.R_far (p := ⟨gb343, 1, none⟩) (Kd.R_far (p := ⟨gb343, 0, none⟩) (Kd.R_types HO337.out BK343.out (by decide)) (fun _ hk => hk.2) (.string t331)) (fun _ hk => hk.2) (.slice Ao34 t332.length co34)) (fun _ hk => hk.2) (.slice Ao35 t335.length co35)) (fun _ hk => hk.2) (.int .i64 t338)) (fun _ hk => hk.2) (.int .i64 t339)) (fun _ hk => hk.2) (.slice Ao36 t340.length co36)) (fun _ h_ => h_.1)))); (case side4 => exact (Kd.R_reads' HO337.out).2.1); (case side5 => refine (Kd.S_reads' (e := 22) (base := w.heap.size) (ok := fun k_ => (((((some k_ ≠ (.slice Ao34 t332.length co34 : Value).ownBlock ∧ some k_ ≠ (.slice Ao35 t335.length co35 : Value).ownBlock) ∧ some k_ ≠ (.slice Ao19 t310.length co19 : Value).ownBlock) ∧ some k_ ≠ (.slice Ao20 t313.length co20 : Value).ownBlock) ∧ some k_ ≠ (.slice Ao21 t318.length co21 : Value).ownBlock) ∧ some k_ ≠ (.slice Ao26 t323.length co26 : Value).ownBlock)) (n := t340.length) (c := co36) ?_).2.2; exact (by (with_reducible repeat (first | apply Kd.S_alloc | apply Kd.S_drewN | apply Kd.S_drew)); exact (Kd.S_mono (Kd.S_far (p := ⟨gb343, 5, none⟩) (Kd.S_far (p := ⟨gb343, 4, none⟩) (Kd.S_far (p := ⟨gb343, 3, none⟩) (Kd.S_far (p := ⟨gb343, 2, none⟩) (Kd.S_far (p := ⟨gb343, 1, none⟩) (Kd.S_far (p := ⟨gb343, 0, none⟩) (Kd.S_types HO342.out BK343.out (by decide)) (fun _ hk => hk.2) (.string t331)) (fun _ hk => hk.2) (.slice Ao34 t332.length co34)) (fun _ hk => hk.2) (.slice Ao35 t335.length co35)) (fun _ hk => hk.2) (.int .i64 t338)) (fun _ hk => hk.2) (.int .i64 t339)) (fun _ hk => hk.2) (.slice Ao36 t340.length co36)) (fun _ h_ => h_.1)))); (case side6 => exact (Kd.S_reads' HO342.out).2.1); rintro e w37 ⟨v347, v350, rfl, ho0, ho1, hb⟩; refine ⟨_, rfl, ?_⟩; have z_ := bX hb (by repeat (first | (with_reducible first | exact HB.out | apply bA | apply bN | apply bD | refine bS ?_ GE307.out | refine bS ?_ GE330.out | refine bS ?_ GE343.out) | exact HB.out)); have n0_ := Aside0.mk (rE (by (with_reducible repeat (first | apply rA | apply rN | apply rD)); exact (rM (Kd.R_far (p := ⟨gb343, 5, none⟩) (Kd.R_far (p := ⟨gb343, 4, none⟩) (Kd.R_far (p := ⟨gb343, 3, none⟩) (Kd.R_far (p := ⟨gb343, 2, none⟩) (Kd.R_far (p := ⟨gb343, 1, none⟩) (Kd.R_far (p := ⟨gb343, 0, none⟩) (Kd.R_types HO312.out BK343.out (by decide)) (fun _ hk => hk.2) (.string t331)) (fun _ hk => hk.2) (.slice Ao34 t332.length co34)) (fun _ hk => hk.2) (.slice Ao35 t335.length co35)) (fun _ hk => hk.2) (.int .i64 t338)) (fun _ hk => hk.2) (.int .i64 t339)) (fun _ hk => hk.2) (.slice Ao36 t340.length co36)) (fun _ h_ => h_.1))) (Kd.R_base ho0) hb); have n1_ := Aside0.mk (rE (by (with_reducible repeat (first | apply rA | apply rN | apply rD)); exact (rM (Kd.R_far (p := ⟨gb343, 5, none⟩) (Kd.R_far (p := ⟨gb343, 4, none⟩) (Kd.R_far (p := ⟨gb343, 3, none⟩) (Kd.R_far (p := ⟨gb343, 2, none⟩) (Kd.R_far (p := ⟨gb343, 1, none⟩) (Kd.R_far (p := ⟨gb343, 0, none⟩) (Kd.R_types HO315.out BK343.out (by decide)) (fun _ hk => hk.2) (.string t331)) (fun _ hk => hk.2) (.slice Ao34 t332.length co34)) (fun _ hk => hk.2) (.slice Ao35 t335.length co35)) (fun _ hk => hk.2) (.int .i64 t338)) (fun _ hk => hk.2) (.int .i64 t339)) (fun _ hk => hk.2) (.slice Ao36 t340.length co36)) (fun _ h_ => h_.1))) (Kd.R_base ho0) hb); have n2_ := Aside0.mk (Kd.S_elder' (by (with_reducible repeat (first | apply Kd.S_alloc | apply Kd.S_drewN | apply Kd.S_drew)); exact (Kd.S_mono (Kd.S_far (p := ⟨gb343, 5, none⟩) (Kd.S_far (p := ⟨gb343, 4, none⟩) (Kd.S_far (p := ⟨gb343, 3, none⟩) (Kd.S_far (p := ⟨gb343, 2, none⟩) (Kd.S_far (p := ⟨gb343, 1, none⟩) (Kd.S_far (p := ⟨gb343, 0, none⟩) (Kd.S_types HO320.out BK343.out (by decide)) (fun _ hk => hk.2) (.string t331)) (fun _ hk => hk.2) (.slice Ao34 t332.length co34)) (fun _ hk => hk.2) (.slice Ao35 t335.length co35)) (fun _ hk => hk.2) (.int .i64 t338)) (fun _ hk => hk.2) (.int .i64 t339)) (fun _ hk => hk.2) (.slice Ao36 t340.length co36)) (fun _ h_ => h_.1))) (Kd.R_base ho0) hb); have n3_ := Aside0.mk (rE (by (with_reducible repeat (first | apply rA | apply rN | apply rD)); exact (rM (Kd.R_far (p := ⟨gb343, 5, none⟩) (Kd.R_far (p := ⟨gb343, 4, none⟩) (Kd.R_far (p := ⟨gb343, 3, none⟩) (Kd.R_far (p := ⟨gb343, 2, none⟩) (Kd.R_far (p := ⟨gb343, 1, none⟩) (Kd.R_far (p := ⟨gb343, 0, none⟩) (Kd.R_types HO325.out BK343.out (by decide)) (fun _ hk => hk.2) (.string t331)) (fun _ hk => hk.2) (.slice Ao34 t332.length co34)) (fun _ hk => hk.2) (.slice Ao35 t335.length co35)) (fun _ hk => hk.2) (.int .i64 t338)) (fun _ hk => hk.2) (.int .i64 t339)) (fun _ hk => hk.2) (.slice Ao36 t340.length co36)) (fun _ h_ => h_.1))) (Kd.R_base ho0) hb); have n4_ := Aside0.mk (rE (by (with_reducible repeat (first | apply rA | apply rN | apply rD)); exact (rM (Kd.R_far (p := ⟨gb343, 5, none⟩) (Kd.R_far (p := ⟨gb343, 4, none⟩) (Kd.R_far (p := ⟨gb343, 3, none⟩) (Kd.R_far (p := ⟨gb343, 2, none⟩) (Kd.R_far (p := ⟨gb343, 1, none⟩) (Kd.R_far (p := ⟨gb343, 0, none⟩) (Kd.R_types HO328.out BK343.out (by decide)) (fun _ hk => hk.2) (.string t331)) (fun _ hk => hk.2) (.slice Ao34 t332.length co34)) (fun _ hk => hk.2) (.slice Ao35 t335.length co35)) (fun _ hk => hk.2) (.int .i64 t338)) (fun _ hk => hk.2) (.int .i64 t339)) (fun _ hk => hk.2) (.slice Ao36 t340.length co36)) (fun _ h_ => h_.1))) (Kd.R_base ho1) hb); have n5_ := Aside0.mk (rE (by (with_reducible repeat (first | apply rA | apply rN | apply rD)); exact (rM (Kd.R_far (p := ⟨gb343, 5, none⟩) (Kd.R_far (p := ⟨gb343, 4, none⟩) (Kd.R_far (p := ⟨gb343, 3, none⟩) (Kd.R_far (p := ⟨gb343, 2, none⟩) (Kd.R_far (p := ⟨gb343, 1, none⟩) (Kd.R_far (p := ⟨gb343, 0, none⟩) (Kd.R_types HO334.out BK343.out (by decide)) (fun _ hk => hk.2) (.string t331)) (fun _ hk => hk.2) (.slice Ao34 t332.length co34)) (fun _ hk => hk.2) (.slice Ao35 t335.length co35)) (fun _ hk => hk.2) (.int .i64 t338)) (fun _ hk => hk.2) (.int .i64 t339)) (fun _ hk => hk.2) (.slice Ao36 t340.length co36)) (fun _ h_ => h_.1))) (Kd.R_base ho0) hb); have n6_ := Aside0.mk (rE (by (with_reducible repeat (first | apply rA | apply rN | apply rD)); exact (rM (Kd.R_far (p := ⟨gb343, 5, none⟩) (Kd.R_far (p := ⟨gb343, 4, none⟩) (Kd.R_far (p := ⟨gb343, 3, none⟩) (Kd.R_far (p := ⟨gb343, 2, none⟩) (Kd.R_far (p := ⟨gb343, 1, none⟩) (Kd.R_far (p := ⟨gb343, 0, none⟩) (Kd.R_types HO337.out BK343.out (by decide)) (fun _ hk => hk.2) (.string t331)) (fun _ hk => hk.2) (.slice Ao34 t332.length co34)) (fun _ hk => hk.2) (.slice Ao35 t335.length co35)) (fun _ hk => hk.2) (.int .i64 t338)) (fun _ hk => hk.2) (.int .i64 t339)) (fun _ hk => hk.2) (.slice Ao36 t340.length co36)) (fun _ h_ => h_.1))) (Kd.R_base ho0) hb); have n7_ := Aside0.mk (Kd.S_elder' (by (with_reducible repeat (first | apply Kd.S_alloc | apply Kd.S_drewN | apply Kd.S_drew)); exact (Kd.S_mono (Kd.S_far (p := ⟨gb343, 5, none⟩) (Kd.S_far (p := ⟨gb343, 4, none⟩) (Kd.S_far (p := ⟨gb343, 3, none⟩) (Kd.S_far (p := ⟨gb343, 2, none⟩) (Kd.S_far (p := ⟨gb343, 1, none⟩) (Kd.S_far (p := ⟨gb343, 0, none⟩) (Kd.S_types HO342.out BK343.out (by decide)) (fun _ hk => hk.2) (.string t331)) (fun _ hk => hk.2) (.slice Ao34 t332.length co34)) (fun _ hk => hk.2) (.slice Ao35 t335.length co35)) (fun _ hk => hk.2) (.int .i64 t338)) (fun _ hk => hk.2) (.int .i64 t339)) (fun _ hk => hk.2) (.slice Ao36 t340.length co36)) (fun _ h_ => h_.1))) (Kd.R_base ho0) hb); have n8_ := Aside0.mk (rL (rW (rW (rW (rW (rW ho0 (rT (by (with_reducible repeat (first | apply rA | apply rN | apply rD)); exact (rM (Kd.R_far (p := ⟨gb343, 5, none⟩) (Kd.R_far (p := ⟨gb343, 4, none⟩) (Kd.R_far (p := ⟨gb343, 3, none⟩) (Kd.R_far (p := ⟨gb343, 2, none⟩) (Kd.R_far (p := ⟨gb343, 1, none⟩) (Kd.R_far (p := ⟨gb343, 0, none⟩) (Kd.R_types HO312.out BK343.out (by decide)) (fun _ hk => hk.2) (.string t331)) (fun _ hk => hk.2) (.slice Ao34 t332.length co34)) (fun _ hk => hk.2) (.slice Ao35 t335.length co35)) (fun _ hk => hk.2) (.int .i64 t338)) (fun _ hk => hk.2) (.int .i64 t339)) (fun _ hk => hk.2) (.slice Ao36 t340.length co36)) (fun _ h_ => h_.1))))) (rT (by (with_reducible repeat (first | apply rA | apply rN | apply rD)); exact (rM (Kd.R_far (p := ⟨gb343, 5, none⟩) (Kd.R_far (p := ⟨gb343, 4, none⟩) (Kd.R_far (p := ⟨gb343, 3, none⟩) (Kd.R_far (p := ⟨gb343, 2, none⟩) (Kd.R_far (p := ⟨gb343, 1, none⟩) (Kd.R_far (p := ⟨gb343, 0, none⟩) (Kd.R_types HO315.out BK343.out (by decide)) (fun _ hk => hk.2) (.string t331)) (fun _ hk => hk.2) (.slice Ao34 t332.length co34)) (fun _ hk => hk.2) (.slice Ao35 t335.length co35)) (fun _ hk => hk.2) (.int .i64 t338)) (fun _ hk => hk.2) (.int .i64 t339)) (fun _ hk => hk.2) (.slice Ao36 t340.length co36)) (fun _ h_ => h_.1))))) (rT (by (with_reducible repeat (first | apply rA | apply rN | apply rD)); exact (rM (Kd.R_far (p := ⟨gb343, 5, none⟩) (Kd.R_far (p := ⟨gb343, 4, none⟩) (Kd.R_far (p := ⟨gb343, 3, none⟩) (Kd.R_far (p := ⟨gb343, 2, none⟩) (Kd.R_far (p := ⟨gb343, 1, none⟩) (Kd.R_far (p := ⟨gb343, 0, none⟩) (Kd.R_types HO325.out BK343.out (by decide)) (fun _ hk => hk.2) (.string t331)) (fun _ hk => hk.2) (.slice Ao34 t332.length co34)) (fun _ hk => hk.2) (.slice Ao35 t335.length co35)) (fun _ hk => hk.2) (.int .i64 t338)) (fun _ hk => hk.2) (.int .i64 t339)) (fun _ hk => hk.2) (.slice Ao36 t340.length co36)) (fun _ h_ => h_.1))))) (rT (by (with_reducible repeat (first | apply rA | apply rN | apply rD)); exact (rM (Kd.R_far (p := ⟨gb343, 5, none⟩) (Kd.R_far (p := ⟨gb343, 4, none⟩) (Kd.R_far (p := ⟨gb343, 3, none⟩) (Kd.R_far (p := ⟨gb343, 2, none⟩) (Kd.R_far (p := ⟨gb343, 1, none⟩) (Kd.R_far (p := ⟨gb343, 0, none⟩) (Kd.R_types HO334.out BK343.out (by decide)) (fun _ hk => hk.2) (.string t331)) (fun _ hk => hk.2) (.slice Ao34 t332.length co34)) (fun _ hk => hk.2) (.slice Ao35 t335.length co35)) (fun _ hk => hk.2) (.int .i64 t338)) (fun _ hk => hk.2) (.int .i64 t339)) (fun _ hk => hk.2) (.slice Ao36 t340.length co36)) (fun _ h_ => h_.1))))) (rT (by (with_reducible repeat (first | apply rA | apply rN | apply rD)); exact (rM (Kd.R_far (p := ⟨gb343, 5, none⟩) (Kd.R_far (p := ⟨gb343, 4, none⟩) (Kd.R_far (p := ⟨gb343, 3, none⟩) (Kd.R_far (p := ⟨gb343, 2, none⟩) (Kd.R_far (p := ⟨gb343, 1, none⟩) (Kd.R_far (p := ⟨gb343, 0, none⟩) (Kd.R_types HO337.out BK343.out (by decide)) (fun _ hk => hk.2) (.string t331)) (fun _ hk => hk.2) (.slice Ao34 t332.length co34)) (fun _ hk => hk.2) (.slice Ao35 t335.length co35)) (fun _ hk => hk.2) (.int .i64 t338)) (fun _ hk => hk.2) (.int .i64 t339)) (fun _ hk => hk.2) (.slice Ao36 t340.length co36)) (fun _ h_ => h_.1))))) (bZ z_)); have n9_ := Aside0.mk (rL (rW ho1 (rT (by (with_reducible repeat (first | apply rA | apply rN | apply rD)); exact (rM (Kd.R_far (p := ⟨gb343, 5, none⟩) (Kd.R_far (p := ⟨gb343, 4, none⟩) (Kd.R_far (p := ⟨gb343, 3, none⟩) (Kd.R_far (p := ⟨gb343, 2, none⟩) (Kd.R_far (p := ⟨gb343, 1, none⟩) (Kd.R_far (p := ⟨gb343, 0, none⟩) (Kd.R_types HO328.out BK343.out (by decide)) (fun _ hk => hk.2) (.string t331)) (fun _ hk => hk.2) (.slice Ao34 t332.length co34)) (fun _ hk => hk.2) (.slice Ao35 t335.length co35)) (fun _ hk => hk.2) (.int .i64 t338)) (fun _ hk => hk.2) (.int .i64 t339)) (fun _ hk => hk.2) (.slice Ao36 t340.length co36)) (fun _ h_ => h_.1))))) (bZ z_)); have n10_ := Aside0.mk (kB (g := gb307) (o := .cells #[.string a0_0, .slice A0_1 l0_1.length c0_1, .slice A0_2 l0_2.length c0_2, .int .i64 a0_3, .int .i64 a0_4, .slice A0_5 l0_5.length c0_5] 55 (0, 0)) (by (with_reducible repeat (first | refine kN ?_ _ | refine kD ?_ | refine kA ?_ _)); refine kF ?_ NB307_343.out _; (with_reducible repeat (first | refine kN ?_ _ | refine kD ?_ | refine kA ?_ _)); refine kF ?_ NB307_343.out _; (with_reducible repeat (first | refine kN ?_ _ | refine kD ?_ | refine kA ?_ _)); refine kF ?_ NB307_343.out _; (with_reducible repeat (first | refine kN ?_ _ | refine kD ?_ | refine kA ?_ _)); refine kF ?_ NB307_343.out _; (with_reducible repeat (first | refine kN ?_ _ | refine kD ?_ | refine kA ?_ _)); refine kF ?_ NB307_343.out _; (with_reducible repeat (first | refine kN ?_ _ | refine kD ?_ | refine kA ?_ _)); refine kF ?_ NB307_343.out _; (with_reducible repeat (first | refine kN ?_ _ | refine kD ?_ | refine kA ?_ _)); exact BK307.out) hb); have n11_ := Aside0.mk (kB (g := gb330) (o := .cells #[.int .i64 t321, .int .i64 t322, .slice Ao26 t323.length co26, .slice Ao27 t326.length co27] 30 (0, 0)) (by (with_reducible repeat (first | refine kN ?_ _ | refine kD ?_ | refine kA ?_ _)); refine kF ?_ NB330_343.out _; (with_reducible repeat (first | refine kN ?_ _ | refine kD ?_ | refine kA ?_ _)); refine kF ?_ NB330_343.out _; (with_reducible repeat (first | refine kN ?_ _ | refine kD ?_ | refine kA ?_ _)); refine kF ?_ NB330_343.out _; (with_reducible repeat (first | refine kN ?_ _ | refine kD ?_ | refine kA ?_ _)); refine kF ?_ NB330_343.out _; (with_reducible repeat (first | refine kN ?_ _ | refine kD ?_ | refine kA ?_ _)); refine kF ?_ NB330_343.out _; (with_reducible repeat (first | refine kN ?_ _ | refine kD ?_ | refine kA ?_ _)); refine kF ?_ NB330_343.out _; (with_reducible repeat (first | refine kN ?_ _ | refine kD ?_ | refine kA ?_ _)); exact BK330.out) hb); have n12_ := Aside0.mk (kB (g := gb343) (o := .cells #[.string t331, .slice Ao34 t332.length co34, .slice Ao35 t335.length co35, .int .i64 t338, .int .i64 t339, .slice Ao36 t340.length co36] 58 (0, 0)) (by (with_reducible repeat (first | refine kN ?_ _ | refine kD ?_ | refine kA ?_ _)); refine blk_put (cs := #[.string t331, .slice Ao34 t332.length co34, .slice Ao35 t335.length co35, .int .i64 t338, .int .i64 t339, .slice none 0 0]) ?_ 5 _ rfl; (with_reducible repeat (first | refine kN ?_ _ | refine kD ?_ | refine kA ?_ _)); refine blk_put (cs := #[.string t331, .slice Ao34 t332.length co34, .slice Ao35 t335.length co35, .int .i64 t338, .int .i64 0, .slice none 0 0]) ?_ 4 _ rfl; (with_reducible repeat (first | refine kN ?_ _ | refine kD ?_ | refine kA ?_ _)); refine blk_put (cs := #[.string t331, .slice Ao34 t332.length co34, .slice Ao35 t335.length co35, .int .i64 0, .int .i64 0, .slice none 0 0]) ?_ 3 _ rfl; (with_reducible repeat (first | refine kN ?_ _ | refine kD ?_ | refine kA ?_ _)); refine blk_put (cs := #[.string t331, .slice Ao34 t332.length co34, .slice none 0 0, .int .i64 0, .int .i64 0, .slice none 0 0]) ?_ 2 _ rfl; (with_reducible repeat (first | refine kN ?_ _ | refine kD ?_ | refine kA ?_ _)); refine blk_put (cs := #[.string t331, .slice none 0 0, .slice none 0 0, .int .i64 0, .int .i64 0, .slice none 0 0]) ?_ 1 _ rfl; (with_reducible repeat (first | refine kN ?_ _ | refine kD ?_ | refine kA ?_ _)); refine blk_put (cs := #[.string (⟨#[]⟩ : ByteArray), .slice none 0 0, .slice none 0 0, .int .i64 0, .int .i64 0, .slice none 0 0]) ?_ 0 _ rfl; (with_reducible repeat (first | refine kN ?_ _ | refine kD ?_ | refine kA ?_ _)); exact BK343.out) hb); have n13_ := Aside0.mk (bP z_ hb); clear HO312; clear HO315; clear HO320; clear HO325; clear HO328; clear HO334; clear HO337; clear HO342; clear BK307; clear BK330; clear BK343; clear HB; have HO312 := n0_; have HO315 := n1_; have HO320 := n2_; have HO325 := n3_; have HO328 := n4_; have HO334 := n5_; have HO337 := n6_; have HO342 := n7_; have HO348 := n8_; have HO351 := n9_; have BK307 := n10_; have BK330 := n11_; have BK343 := n12_; have HB := n13_; clear z_ n0_ n1_ n2_ n3_ n4_ n5_ n6_ n7_ n8_ n9_ n10_ n11_ n12_ n13_; (try clear hb); (try clear hb2); (try clear hk); (try clear hi); (try clear ho0); (try clear ho1)) | ((with_reducible refine gate_dst (N := 11) rfl ?_); refine bE ?hg (N := 11) ?hd (cs := #[.int .i64 0, .int .i64 0, .slice none 0 0, .slice none 0 0]) (t := 30) ?hr ?_; (case hd => rfl); (case hg => rfl); (case hr => first | (go_simp; done) | (go_simp; rfl)); intro gb353 hg w38 hbox hb; have z_ := bX hb (by repeat (first | (with_reducible first | exact HB.out | apply bA | apply bN | apply bD | refine bS ?_ GE307.out | refine bS ?_ GE330.out | refine bS ?_ GE343.out) | exact HB.out)); have n0_ := Aside0.mk (rB (rQ HO312) hb); have n1_ := Aside0.mk (rB (rQ HO315) hb); have n2_ := Aside0.mk (Kd.S_below (by (with_reducible repeat (first | apply Kd.S_alloc | apply Kd.S_drewN | apply Kd.S_drew)); exact HO320.out) hb); have n3_ := Aside0.mk (rB (rQ HO325) hb); have n4_ := Aside0.mk (rB (rQ HO328) hb); have n5_ := Aside0.mk (rB (rQ HO334) hb); have n6_ := Aside0.mk (rB (rQ HO337) hb); have n7_ := Aside0.mk (Kd.S_below (by (with_reducible repeat (first | apply Kd.S_alloc | apply Kd.S_drewN | apply Kd.S_drew)); exact HO342.out) hb); have n8_ := Aside0.mk (rB (rQ HO348) hb); have n9_ := Aside0.mk (rB (rQ HO351) hb); have n10_ := Aside0.mk (kB (kQ BK307) hb); have n11_ := Aside0.mk (kB (kQ BK330) hb); have n12_ := Aside0.mk (kB (kQ BK343) hb); have n13_ := Aside0.mk (bP z_ hb); have n14_ := Aside0.mk (hbox); have n15_ := Aside0.mk ((by rw [hg]; exact (bZ z_) : w.heap.size ≤ gb353)); have n16_ := Aside0.mk ((by rw [hg]; exact (bZ z_) : w.heap.size ≤ gb353)); have n17_ := Aside0.mk ((by rw [hg]; exact Nat.ne_of_lt (kL (kQ BK307)) : gb307 ≠ gb353)); have n18_ := Aside0.mk ((by rw [hg]; exact Nat.ne_of_gt (kL (kQ BK307)) : gb353 ≠ gb307)); have n19_ := Aside0.mk ((by rw [hg]; exact Nat.ne_of_lt (kL (kQ BK330)) : gb330 ≠ gb353)); have n20_ := Aside0.mk ((by rw [hg]; exact Nat.ne_of_gt (kL (kQ BK330)) : gb353 ≠ gb330)); have n21_ := Aside0.mk ((by rw [hg]; exact Nat.ne_of_lt (kL (kQ BK343)) : gb343 ≠ gb353)); have n22_ := Aside0.mk ((by rw [hg]; exact Nat.ne_of_gt (kL (kQ BK343)) : gb353 ≠ gb343)); clear HO312; clear HO315; clear HO320; clear HO325; clear HO328; clear HO334; clear HO337; clear HO342; clear HO348; clear HO351; clear BK307; clear BK330; clear BK343; clear HB; have HO312 := n0_; have HO315 := n1_; have HO320 := n2_; have HO325 := n3_; have HO328 := n4_; have HO334 := n5_; have HO337 := n6_; have HO342 := n7_; have HO348 := n8_; have HO351 := n9_; have BK307 := n10_; have BK330 := n11_; have BK343 := n12_; have HB := n13_; have BK353 := n14_; have GW353 := n15_; have GE353 := n16_; have NB307_353 := n17_; have NB353_307 := n18_; have NB330_353 := n19_; have NB353_330 := n20_; have NB343_353 := n21_; have NB353_343 := n22_; clear z_ n0_ n1_ n2_ n3_ n4_ n5_ n6_ n7_ n8_ n9_ n10_ n11_ n12_ n13_ n14_ n15_ n16_ n17_ n18_ n19_ n20_ n21_ n22_; clear hb hbox hg; have hnb39 := NB353_307.out; have hnc39 := NB307_353.out; have hnb40 := NB353_330.out; have hnc40 := NB330_353.out; have hnb41 := NB353_343.out; have hnc41 := NB343_353.out; obtain ⟨hcz42_0, hcz42_1, hcz42_2, hcz42_3⟩ := cZ4 BK353.out; obtain ⟨hfz42_0, hfz42_1, hfz42_2, hfz42_3⟩ := fZ4 BK353.out; obtain ⟨Ao43, co43, eo43⟩ := Kd.R_slice HO348.out; subst eo43; obtain ⟨Ao44, co44, eo44⟩ := Kd.R_slice HO351.out; subst eo44))
  (try simp only [Act.put, sI, sZ, sS])
  go_cut [48] (fun v48 wc => ∃ (kq : Nat) (x48_12 : Bool), v48 = .bool x48_12 ∧ Aside0 (laws_FnExactGrammarOf.j0 kq a1 a2 t329 t352 x48_12 a0_0 l0_1 l0_2 a0_3 a0_4 l0_5 t321 t322 t323 t326 t331 t332 t335 t338 t339 t340 t344 t345 t346 t349 = some r) ∧ Aside0 (kq ≤ k) ∧ Aside0 (Kd.R (Kd.int .i64) 2 wc w.heap.size (fun k_ => some k_ ≠ ((.slice Ao34 t332.length co34) : Value).ownBlock ∧ some k_ ≠ ((.slice Ao35 t335.length co35) : Value).ownBlock ∧ some k_ ≠ ((.slice Ao43 t346.length co43) : Value).ownBlock) (.slice Ao26 t323.length co26) t323) ∧ Aside0 (Kd.R k67 67 wc w.heap.size (fun k_ => some k_ ≠ ((.slice Ao44 t349.length co44) : Value).ownBlock) (.slice Ao27 t326.length co27) t326) ∧ Aside0 (Kd.R (Kd.int .i64) 2 wc w.heap.size (fun k_ => some k_ ≠ ((.slice Ao26 t323.length co26) : Value).ownBlock ∧ some k_ ≠ ((.slice Ao35 t335.length co35) : Value).ownBlock ∧ some k_ ≠ ((.slice Ao43 t346.length co43) : Value).ownBlock) (.slice Ao34 t332.length co34) t332) ∧ Aside0 (Kd.R (Kd.int .i64) 2 wc w.heap.size (fun k_ => some k_ ≠ ((.slice Ao26 t323.length co26) : Value).ownBlock ∧ some k_ ≠ ((.slice Ao34 t332.length co34) : Value).ownBlock ∧ some k_ ≠ ((.slice Ao43 t346.length co43) : Value).ownBlock) (.slice Ao35 t335.length co35) t335) ∧ Aside0 (Kd.S (Kd.slice 2 (Kd.int .i64)) 22 wc w.heap.size (fun k_ => some k_ ≠ ((.slice Ao26 t323.length co26) : Value).ownBlock ∧ some k_ ≠ ((.slice Ao34 t332.length co34) : Value).ownBlock ∧ some k_ ≠ ((.slice Ao35 t335.length co35) : Value).ownBlock ∧ some k_ ≠ ((.slice Ao43 t346.length co43) : Value).ownBlock) (.slice Ao36 t340.length co36) t340) ∧ Aside0 (Kd.R (Kd.int .i64) 2 wc w.heap.size (fun k_ => some k_ ≠ ((.slice Ao26 t323.length co26) : Value).ownBlock ∧ some k_ ≠ ((.slice Ao34 t332.length co34) : Value).ownBlock ∧ some k_ ≠ ((.slice Ao35 t335.length co35) : Value).ownBlock) (.slice Ao43 t346.length co43) t346) ∧ Aside0 (Kd.R k67 67 wc w.heap.size (fun k_ => some k_ ≠ ((.slice Ao27 t326.length co27) : Value).ownBlock) (.slice Ao44 t349.length co44) t349) ∧ Aside0 (wc.heap[gb307]? = some (.cells #[.string a0_0, (.slice A0_1 l0_1.length c0_1), (.slice A0_2 l0_2.length c0_2), .int .i64 a0_3, .int .i64 a0_4, (.slice A0_5 l0_5.length c0_5)] 55 (0, 0))) ∧ Aside0 (wc.heap[gb330]? = some (.cells #[.int .i64 t321, .int .i64 t322, (.slice Ao26 t323.length co26), (.slice Ao27 t326.length co27)] 30 (0, 0))) ∧ Aside0 (wc.heap[gb343]? = some (.cells #[.string t331, (.slice Ao34 t332.length co34), (.slice Ao35 t335.length co35), .int .i64 t338, .int .i64 t339, (.slice Ao36 t340.length co36)] 58 (0, 0))) ∧ Aside0 (wc.heap[gb353]? = some (.cells #[.int .i64 t344, .int .i64 t345, (.slice Ao43 t346.length co43), (.slice Ao44 t349.length co44)] 30 (0, 0))) ∧ Aside0 (Below w.heap.size w wc))
  case first =>
   have H := HC13.out
   clear HC13
   replace H := Option.bind_eq_some_iff.mp H
   obtain ⟨t354, A450, H⟩ := H
   replace H : (if t354 = true then (laws_FnExactGrammarOf.j0 k a1 a2 t329 t352 (t352 != t329) a0_0 l0_1 l0_2 a0_3 a0_4 l0_5 t321 t322 t323 t326 t331 t332 t335 t338 t339 t340 t344 t345 t346 t349) else (laws_FnExactGrammarOf.j0 k a1 a2 t329 t352 true a0_0 l0_1 l0_2 a0_3 a0_4 l0_5 t321 t322 t323 t326 t331 t332 t335 t338 t339 t340 t344 t345 t346 t349)) = some r := H
   have A45 := Aside0.mk A450
   clear A450
   by_cases c46 : t354 = true
   ·subst c46
    have H1 : (laws_FnExactGrammarOf.j0 k a1 a2 t329 t352 (t352 != t329) a0_0 l0_1 l0_2 a0_3 a0_4 l0_5 t321 t322 t323 t326 t331 t332 t335 t338 t339 t340 t344 t345 t346 t349) = some r := by rw [if_pos rfl] at H; exact H
    clear H
    have H := H1
    clear H1
    have H' := Aside0.mk H
    clear H
    have hnb47 := NB353_307.out
    have hnc47 := NB307_353.out
    have hnb48 := NB353_330.out
    have hnc48 := NB330_353.out
    have hnb49 := NB353_343.out
    have hnc49 := NB343_353.out
    obtain ⟨hcz50_0, hcz50_1, hcz50_2, hcz50_3⟩ := cZ4 BK353.out
    obtain ⟨hfz50_0, hfz50_1, hfz50_2, hfz50_3⟩ := fZ4 BK353.out
    have hnb51 := NB330_307.out
    have hnc51 := NB307_330.out
    have hnb52 := NB330_343.out
    have hnc52 := NB343_330.out
    obtain ⟨hcz53_0, hcz53_1, hcz53_2, hcz53_3⟩ := cZ4 BK330.out
    obtain ⟨hfz53_0, hfz53_1, hfz53_2, hfz53_3⟩ := fZ4 BK330.out
    go_wp2_with (first | ((with_reducible refine gC (f := 19) rfl ?_); refine goesL_ (some 42) rfl rfl Try.func19 (by kernel_rfl) rfl #[.agg #[.int .i64 t344, .int .i64 t345, .slice Ao43 t346.length co43, .slice Ao44 t349.length co44], .agg #[.int .i64 t321, .int .i64 t322, .slice Ao26 t323.length co26, .slice Ao27 t326.length co27]] rfl lQ ?_; (with_reducible refine (laws_eqGrammar.calls k t344 t345 _ _ t346 _ _ t349 t321 t322 _ _ t323 _ _ t326 true _ ?side1 ?side2 ?side3 ?side4 ?side5 ?side6 ?side7 ?side8 A45.out).mono ?_); (case side1 => refine (Kd.R_reads' (e := 2) (base := w.heap.size) (ok := fun k_ => (((((True ∧ some k_ ≠ (.slice Ao19 t310.length co19 : Value).ownBlock) ∧ some k_ ≠ (.slice Ao20 t313.length co20 : Value).ownBlock) ∧ some k_ ≠ (.slice Ao26 t323.length co26 : Value).ownBlock) ∧ some k_ ≠ (.slice Ao34 t332.length co34 : Value).ownBlock) ∧ some k_ ≠ (.slice Ao35 t335.length co35 : Value).ownBlock)) (n := t346.length) (c := co43) ?_).2.2; exact (by (with_reducible repeat (first | apply rA | apply rN | apply rD)); exact (rM (Kd.R_far (p := ⟨gb353, 3, none⟩) (Kd.R_far (p := ⟨gb353, 2, none⟩) (Kd.R_far (p := ⟨gb353, 1, none⟩) (Kd.R_far (p := ⟨gb353, 0, none⟩) (Kd.R_types HO348.out BK353.out (by decide)) (fun _ hk => hk.2) (.int .i64 t344)) (fun _ hk => hk.2) (.int .i64 t345)) (fun _ hk => hk.2) (.slice Ao43 t346.length co43)) (fun _ hk => hk.2) (.slice Ao44 t349.length co44)) (fun _ h_ => h_.1)))); (case side2 => exact (Kd.R_reads' HO348.out).2.1); (case side3 => refine (Kd.R_reads' (e := 67) (base := w.heap.size) (ok := fun k_ => (True ∧ some k_ ≠ (.slice Ao27 t326.length co27 : Value).ownBlock)) (n := t349.length) (c := co44) ?_).2.2; exact (by (with_reducible repeat (first | apply rA | apply rN | apply rD)); exact (rM (Kd.R_far (p := ⟨gb353, 3, none⟩) (Kd.R_far (p := ⟨gb353, 2, none⟩) (Kd.R_far (p := ⟨gb353, 1, none⟩) (Kd.R_far (p := ⟨gb353, 0, none⟩) (Kd.R_types HO351.out BK353.out (by decide)) (fun _ hk => hk.2) (.int .i64 t344)) (fun _ hk => hk.2) (.int .i64 t345)) (fun _ hk => hk.2) (.slice Ao43 t346.length co43)) (fun _ hk => hk.2) (.slice Ao44 t349.length co44)) (fun _ h_ => h_.1)))); (case side4 => exact (Kd.R_reads' HO351.out).2.1); (case side5 => refine (Kd.R_reads' (e := 2) (base := w.heap.size) (ok := fun k_ => (((((True ∧ some k_ ≠ (.slice Ao19 t310.length co19 : Value).ownBlock) ∧ some k_ ≠ (.slice Ao20 t313.length co20 : Value).ownBlock) ∧ some k_ ≠ (.slice Ao34 t332.length co34 : Value).ownBlock) ∧ some k_ ≠ (.slice Ao35 t335.length co35 : Value).ownBlock) ∧ some k_ ≠ (.slice Ao43 t346.length co43 : Value).ownBlock)) (n := t323.length) (c := co26) ?_).2.2; exact (by (with_reducible repeat (first | apply rA | apply rN | apply rD)); exact (rM (Kd.R_far (p := ⟨gb353, 3, none⟩) (Kd.R_far (p := ⟨gb353, 2, none⟩) (Kd.R_far (p := ⟨gb353, 1, none⟩) (Kd.R_far (p := ⟨gb353, 0, none⟩) (Kd.R_types HO325.out BK353.out (by decide)) (fun _ hk => hk.2) (.int .i64 t344)) (fun _ hk => hk.2) (.int .i64 t345)) (fun _ hk => hk.2) (.slice Ao43 t346.length co43)) (fun _ hk => hk.2) (.slice Ao44 t349.length co44)) (fun _ h_ => h_.1)))); (case side6 => exact (Kd.R_reads' HO325.out).2.1); (case side7 => refine (Kd.R_reads' (e := 67) (base := w.heap.size) (ok := fun k_ => (True ∧ some k_ ≠ (.slice Ao44 t349.length co44 : Value).ownBlock)) (n := t326.length) (c := co27) ?_).2.2; exact (by (with_reducible repeat (first | apply rA | apply rN | apply rD)); exact (rM (Kd.R_far (p := ⟨gb353, 3, none⟩) (Kd.R_far (p := ⟨gb353, 2, none⟩) (Kd.R_far (p := ⟨gb353, 1, none⟩) (Kd.R_far (p := ⟨gb353, 0, none⟩) (Kd.R_types HO328.out BK353.out (by decide)) (fun _ hk => hk.2) (.int .i64 t344)) (fun _ hk => hk.2) (.int .i64 t345)) (fun _ hk => hk.2) (.slice Ao43 t346.length co43)) (fun _ hk => hk.2) (.slice Ao44 t349.length co44)) (fun _ h_ => h_.1)))); (case side8 => exact (Kd.R_reads' HO328.out).2.1); rintro e w54 ⟨rfl, hb⟩; refine ⟨_, rfl, ?_⟩; have n0_ := Aside0.mk (rB (by (with_reducible repeat (first | apply rA | apply rN | apply rD)); exact (rM (Kd.R_far (p := ⟨gb353, 3, none⟩) (Kd.R_far (p := ⟨gb353, 2, none⟩) (Kd.R_far (p := ⟨gb353, 1, none⟩) (Kd.R_far (p := ⟨gb353, 0, none⟩) (Kd.R_types HO312.out BK353.out (by decide)) (fun _ hk => hk.2) (.int .i64 t344)) (fun _ hk => hk.2) (.int .i64 t345)) (fun _ hk => hk.2) (.slice Ao43 t346.length co43)) (fun _ hk => hk.2) (.slice Ao44 t349.length co44)) (fun _ h_ => h_.1))) hb); have n1_ := Aside0.mk (rB (by (with_reducible repeat (first | apply rA | apply rN | apply rD)); exact (rM (Kd.R_far (p := ⟨gb353, 3, none⟩) (Kd.R_far (p := ⟨gb353, 2, none⟩) (Kd.R_far (p := ⟨gb353, 1, none⟩) (Kd.R_far (p := ⟨gb353, 0, none⟩) (Kd.R_types HO315.out BK353.out (by decide)) (fun _ hk => hk.2) (.int .i64 t344)) (fun _ hk => hk.2) (.int .i64 t345)) (fun _ hk => hk.2) (.slice Ao43 t346.length co43)) (fun _ hk => hk.2) (.slice Ao44 t349.length co44)) (fun _ h_ => h_.1))) hb); have n2_ := Aside0.mk (Kd.S_below (by (with_reducible repeat (first | apply Kd.S_alloc | apply Kd.S_drewN | apply Kd.S_drew)); exact (Kd.S_mono (Kd.S_far (p := ⟨gb353, 3, none⟩) (Kd.S_far (p := ⟨gb353, 2, none⟩) (Kd.S_far (p := ⟨gb353, 1, none⟩) (Kd.S_far (p := ⟨gb353, 0, none⟩) (Kd.S_types HO320.out BK353.out (by decide)) (fun _ hk => hk.2) (.int .i64 t344)) (fun _ hk => hk.2) (.int .i64 t345)) (fun _ hk => hk.2) (.slice Ao43 t346.length co43)) (fun _ hk => hk.2) (.slice Ao44 t349.length co44)) (fun _ h_ => h_.1))) hb); have n3_ := Aside0.mk (rB (by (with_reducible repeat (first | apply rA | apply rN | apply rD)); exact (rM (Kd.R_far (p := ⟨gb353, 3, none⟩) (Kd.R_far (p := ⟨gb353, 2, none⟩) (Kd.R_far (p := ⟨gb353, 1, none⟩) (Kd.R_far (p := ⟨gb353, 0, none⟩) (Kd.R_types HO325.out BK353.out (by decide)) (fun _ hk => hk.2) (.int .i64 t344)) (fun _ hk => hk.2) (.int .i64 t345)) (fun _ hk => hk.2) (.slice Ao43 t346.length co43)) (fun _ hk => hk.2) (.slice Ao44 t349.length co44)) (fun _ h_ => h_.1))) hb); have n4_ := Aside0.mk (rB (by (with_reducible repeat (first | apply rA | apply rN | apply rD)); exact (rM (Kd.R_far (p := ⟨gb353, 3, none⟩) (Kd.R_far (p := ⟨gb353, 2, none⟩) (Kd.R_far (p := ⟨gb353, 1, none⟩) (Kd.R_far (p := ⟨gb353, 0, none⟩) (Kd.R_types HO328.out BK353.out (by decide)) (fun _ hk => hk.2) (.int .i64 t344)) (fun _ hk => hk.2) (.int .i64 t345)) (fun _ hk => hk.2) (.slice Ao43 t346.length co43)) (fun _ hk => hk.2) (.slice Ao44 t349.length co44)) (fun _ h_ => h_.1))) hb); have n5_ := Aside0.mk (rB (by (with_reducible repeat (first | apply rA | apply rN | apply rD)); exact (rM (Kd.R_far (p := ⟨gb353, 3, none⟩) (Kd.R_far (p := ⟨gb353, 2, none⟩) (Kd.R_far (p := ⟨gb353, 1, none⟩) (Kd.R_far (p := ⟨gb353, 0, none⟩) (Kd.R_types HO334.out BK353.out (by decide)) (fun _ hk => hk.2) (.int .i64 t344)) (fun _ hk => hk.2) (.int .i64 t345)) (fun _ hk => hk.2) (.slice Ao43 t346.length co43)) (fun _ hk => hk.2) (.slice Ao44 t349.length co44)) (fun _ h_ => h_.1))) hb); have n6_ := Aside0.mk (rB (by (with_reducible repeat (first | apply rA | apply rN | apply rD)); exact (rM (Kd.R_far (p := ⟨gb353, 3, none⟩) (Kd.R_far (p := ⟨gb353, 2, none⟩) (Kd.R_far (p := ⟨gb353, 1, none⟩) (Kd.R_far (p := ⟨gb353, 0, none⟩) (Kd.R_types HO337.out BK353.out (by decide)) (fun _ hk => hk.2) (.int .i64 t344)) (fun _ hk => hk.2) (.int .i64 t345)) (fun _ hk => hk.2) (.slice Ao43 t346.length co43)) (fun _ hk => hk.2) (.slice Ao44 t349.length co44)) (fun _ h_ => h_.1))) hb); have n7_ := Aside0.mk (Kd.S_below (by (with_reducible repeat (first | apply Kd.S_alloc | apply Kd.S_drewN | apply Kd.S_drew)); exact (Kd.S_mono (Kd.S_far (p := ⟨gb353, 3, none⟩) (Kd.S_far (p := ⟨gb353, 2, none⟩) (Kd.S_far (p := ⟨gb353, 1, none⟩) (Kd.S_far (p := ⟨gb353, 0, none⟩) (Kd.S_types HO342.out BK353.out (by decide)) (fun _ hk => hk.2) (.int .i64 t344)) (fun _ hk => hk.2) (.int .i64 t345)) (fun _ hk => hk.2) (.slice Ao43 t346.length co43)) (fun _ hk => hk.2) (.slice Ao44 t349.length co44)) (fun _ h_ => h_.1))) hb); have n8_ := Aside0.mk (rB (by (with_reducible repeat (first | apply rA | apply rN | apply rD)); exact (rM (Kd.R_far (p := ⟨gb353, 3, none⟩) (Kd.R_far (p := ⟨gb353, 2, none⟩) (Kd.R_far (p := ⟨gb353, 1, none⟩) (Kd.R_far (p := ⟨gb353, 0, none⟩) (Kd.R_types HO348.out BK353.out (by decide)) (fun _ hk => hk.2) (.int .i64 t344)) (fun _ hk => hk.2) (.int .i64 t345)) (fun _ hk => hk.2) (.slice Ao43 t346.length co43)) (fun _ hk => hk.2) (.slice Ao44 t349.length co44)) (fun _ h_ => h_.1))) hb); have n9_ := Aside0.mk (rB (by (with_reducible repeat (first | apply rA | apply rN | apply rD)); exact (rM (Kd.R_far (p := ⟨gb353, 3, none⟩) (Kd.R_far (p := ⟨gb353, 2, none⟩) (Kd.R_far (p := ⟨gb353, 1, none⟩) (Kd.R_far (p := ⟨gb353, 0, none⟩) (Kd.R_types HO351.out BK353.out (by decide)) (fun _ hk => hk.2) (.int .i64 t344)) (fun _ hk => hk.2) (.int .i64 t345)) (fun _ hk => hk.2) (.slice Ao43 t346.length co43)) (fun _ hk => hk.2) (.slice Ao44 t349.length co44)) (fun _ h_ => h_.1))) hb); have n10_ := Aside0.mk (kB (g := gb307) (o := .cells #[.string a0_0, .slice A0_1 l0_1.length c0_1, .slice A0_2 l0_2.length c0_2, .int .i64 a0_3, .int .i64 a0_4, .slice A0_5 l0_5.length c0_5] 55 (0, 0)) (by (with_reducible repeat (first | refine kN ?_ _ | refine kD ?_ | refine kA ?_ _)); refine kF ?_ NB307_353.out _; (with_reducible repeat (first | refine kN ?_ _ | refine kD ?_ | refine kA ?_ _)); refine kF ?_ NB307_353.out _; (with_reducible repeat (first | refine kN ?_ _ | refine kD ?_ | refine kA ?_ _)); refine kF ?_ NB307_353.out _; (with_reducible repeat (first | refine kN ?_ _ | refine kD ?_ | refine kA ?_ _)); refine kF ?_ NB307_353.out _; (with_reducible repeat (first | refine kN ?_ _ | refine kD ?_ | refine kA ?_ _)); exact BK307.out) hb); have n11_ := Aside0.mk (kB (g := gb330) (o := .cells #[.int .i64 t321, .int .i64 t322, .slice Ao26 t323.length co26, .slice Ao27 t326.length co27] 30 (0, 0)) (by (with_reducible repeat (first | refine kN ?_ _ | refine kD ?_ | refine kA ?_ _)); refine kF ?_ NB330_353.out _; (with_reducible repeat (first | refine kN ?_ _ | refine kD ?_ | refine kA ?_ _)); refine kF ?_ NB330_353.out _; (with_reducible repeat (first | refine kN ?_ _ | refine kD ?_ | refine kA ?_ _)); refine kF ?_ NB330_353.out _; (with_reducible repeat (first | refine kN ?_ _ | refine kD ?_ | refine kA ?_ _)); refine kF ?_ NB330_353.out _; (with_reducible repeat (first | refine kN ?_ _ | refine kD ?_ | refine kA ?_ _)); exact BK330.out) hb); have n12_ := Aside0.mk (kB (g := gb343) (o := .cells #[.string t331, .slice Ao34 t332.length co34, .slice Ao35 t335.length co35, .int .i64 t338, .int .i64 t339, .slice Ao36 t340.length co36] 58 (0, 0)) (by (with_reducible repeat (first | refine kN ?_ _ | refine kD ?_ | refine kA ?_ _)); refine kF ?_ NB343_353.out _; (with_reducible repeat (first | refine kN ?_ _ | refine kD ?_ | refine kA ?_ _)); refine kF ?_ NB343_353.out _; (with_reducible repeat (first | refine kN ?_ _ | refine kD ?_ | refine kA ?_ _)); refine kF ?_ NB343_353.out _; (with_reducible repeat (first | refine kN ?_ _ | refine kD ?_ | refine kA ?_ _)); refine kF ?_ NB343_353.out _; (with_reducible repeat (first | refine kN ?_ _ | refine kD ?_ | refine kA ?_ _)); exact BK343.out) hb); have n13_ := Aside0.mk (kB (g := gb353) (o := .cells #[.int .i64 t344, .int .i64 t345, .slice Ao43 t346.length co43, .slice Ao44 t349.length co44] 30 (0, 0)) (by (with_reducible repeat (first | refine kN ?_ _ | refine kD ?_ | refine kA ?_ _)); refine blk_put (cs := #[.int .i64 t344, .int .i64 t345, .slice Ao43 t346.length co43, .slice none 0 0]) ?_ 3 _ rfl; (with_reducible repeat (first | refine kN ?_ _ | refine kD ?_ | refine kA ?_ _)); refine blk_put (cs := #[.int .i64 t344, .int .i64 t345, .slice none 0 0, .slice none 0 0]) ?_ 2 _ rfl; (with_reducible repeat (first | refine kN ?_ _ | refine kD ?_ | refine kA ?_ _)); refine blk_put (cs := #[.int .i64 t344, .int .i64 0, .slice none 0 0, .slice none 0 0]) ?_ 1 _ rfl; (with_reducible repeat (first | refine kN ?_ _ | refine kD ?_ | refine kA ?_ _)); refine blk_put (cs := #[.int .i64 0, .int .i64 0, .slice none 0 0, .slice none 0 0]) ?_ 0 _ rfl; (with_reducible repeat (first | refine kN ?_ _ | refine kD ?_ | refine kA ?_ _)); exact BK353.out) hb); have n14_ := Aside0.mk (bP (by repeat (first | (with_reducible first | exact HB.out | apply bA | apply bN | apply bD | refine bS ?_ GE307.out | refine bS ?_ GE330.out | refine bS ?_ GE343.out | refine bS ?_ GE353.out) | exact HB.out)) hb); clear HO312; clear HO315; clear HO320; clear HO325; clear HO328; clear HO334; clear HO337; clear HO342; clear HO348; clear HO351; clear BK307; clear BK330; clear BK343; clear BK353; clear HB; have HO312 := n0_; have HO315 := n1_; have HO320 := n2_; have HO325 := n3_; have HO328 := n4_; have HO334 := n5_; have HO337 := n6_; have HO342 := n7_; have HO348 := n8_; have HO351 := n9_; have BK307 := n10_; have BK330 := n11_; have BK343 := n12_; have BK353 := n13_; have HB := n14_; clear n0_ n1_ n2_ n3_ n4_ n5_ n6_ n7_ n8_ n9_ n10_ n11_ n12_ n13_ n14_; (try clear hb); (try clear hb2); (try clear hk); (try clear hi)))
    go_meet
    case rel => exact ⟨_, ((t352 != t329)), eT, H', ⟨by first | omega | exact Nat.le_refl _⟩, ⟨by (with_reducible repeat (first | apply rA | apply rN | apply rD)); exact rM HO325.out (fun _ hk => ⟨hk.1.1.2, ⟨hk.1.2, hk.2⟩⟩)⟩, ⟨by (with_reducible repeat (first | apply rA | apply rN | apply rD)); exact rM HO328.out (fun _ hk => hk.2)⟩, ⟨by (with_reducible repeat (first | apply rA | apply rN | apply rD)); exact rM HO334.out (fun _ hk => ⟨hk.1.2, ⟨hk.1.1.1.1, hk.2⟩⟩)⟩, ⟨by (with_reducible repeat (first | apply rA | apply rN | apply rD)); exact rM HO337.out (fun _ hk => ⟨hk.1.2, ⟨hk.1.1.1.1, hk.2⟩⟩)⟩, ⟨by (with_reducible repeat (first | apply Kd.S_alloc | apply Kd.S_drewN | apply Kd.S_drew)); exact Kd.S_mono HO342.out (fun _ hk => ⟨hk.1.2, ⟨hk.1.1.1.1.1.1, ⟨hk.1.1.1.1.1.2, hk.2⟩⟩⟩)⟩, ⟨by (with_reducible repeat (first | apply rA | apply rN | apply rD)); exact rM HO348.out (fun _ hk => ⟨hk.1.1.2, ⟨hk.1.2, hk.2⟩⟩)⟩, ⟨by (with_reducible repeat (first | apply rA | apply rN | apply rD)); exact rM HO351.out (fun _ hk => hk.2)⟩, ⟨kQ BK307⟩, ⟨kQ BK330⟩, ⟨kQ BK343⟩, ⟨kQ BK353⟩, ⟨by repeat (first | (with_reducible first | exact HB.out | apply bA | apply bN | apply bD | refine bS ?_ GE307.out | refine bS ?_ GE330.out | refine bS ?_ GE343.out | refine bS ?_ GE353.out) | exact HB.out)⟩⟩
   ·replace c46 := Bool.eq_false_iff.mpr c46
    subst c46
    have H1 : (laws_FnExactGrammarOf.j0 k a1 a2 t329 t352 true a0_0 l0_1 l0_2 a0_3 a0_4 l0_5 t321 t322 t323 t326 t331 t332 t335 t338 t339 t340 t344 t345 t346 t349) = some r := by rw [if_neg (show ¬ (false = true) by decide)] at H; exact H
    clear H
    have H := H1
    clear H1
    have H' := Aside0.mk H
    clear H
    have hnb55 := NB353_307.out
    have hnc55 := NB307_353.out
    have hnb56 := NB353_330.out
    have hnc56 := NB330_353.out
    have hnb57 := NB353_343.out
    have hnc57 := NB343_353.out
    obtain ⟨hcz58_0, hcz58_1, hcz58_2, hcz58_3⟩ := cZ4 BK353.out
    obtain ⟨hfz58_0, hfz58_1, hfz58_2, hfz58_3⟩ := fZ4 BK353.out
    have hnb59 := NB330_307.out
    have hnc59 := NB307_330.out
    have hnb60 := NB330_343.out
    have hnc60 := NB343_330.out
    obtain ⟨hcz61_0, hcz61_1, hcz61_2, hcz61_3⟩ := cZ4 BK330.out
    obtain ⟨hfz61_0, hfz61_1, hfz61_2, hfz61_3⟩ := fZ4 BK330.out
    go_wp2_with (first | ((with_reducible refine gC (f := 19) rfl ?_); refine goesL_ (some 42) rfl rfl Try.func19 (by kernel_rfl) rfl #[.agg #[.int .i64 t344, .int .i64 t345, .slice Ao43 t346.length co43, .slice Ao44 t349.length co44], .agg #[.int .i64 t321, .int .i64 t322, .slice Ao26 t323.length co26, .slice Ao27 t326.length co27]] rfl lQ ?_; (with_reducible refine (laws_eqGrammar.calls k t344 t345 _ _ t346 _ _ t349 t321 t322 _ _ t323 _ _ t326 false _ ?side1 ?side2 ?side3 ?side4 ?side5 ?side6 ?side7 ?side8 A45.out).mono ?_); (case side1 => refine (Kd.R_reads' (e := 2) (base := w.heap.size) (ok := fun k_ => (((((True ∧ some k_ ≠ (.slice Ao19 t310.length co19 : Value).ownBlock) ∧ some k_ ≠ (.slice Ao20 t313.length co20 : Value).ownBlock) ∧ some k_ ≠ (.slice Ao26 t323.length co26 : Value).ownBlock) ∧ some k_ ≠ (.slice Ao34 t332.length co34 : Value).ownBlock) ∧ some k_ ≠ (.slice Ao35 t335.length co35 : Value).ownBlock)) (n := t346.length) (c := co43) ?_).2.2; exact (by (with_reducible repeat (first | apply rA | apply rN | apply rD)); exact (rM (Kd.R_far (p := ⟨gb353, 3, none⟩) (Kd.R_far (p := ⟨gb353, 2, none⟩) (Kd.R_far (p := ⟨gb353, 1, none⟩) (Kd.R_far (p := ⟨gb353, 0, none⟩) (Kd.R_types HO348.out BK353.out (by decide)) (fun _ hk => hk.2) (.int .i64 t344)) (fun _ hk => hk.2) (.int .i64 t345)) (fun _ hk => hk.2) (.slice Ao43 t346.length co43)) (fun _ hk => hk.2) (.slice Ao44 t349.length co44)) (fun _ h_ => h_.1)))); (case side2 => exact (Kd.R_reads' HO348.out).2.1); (case side3 => refine (Kd.R_reads' (e := 67) (base := w.heap.size) (ok := fun k_ => (True ∧ some k_ ≠ (.slice Ao27 t326.length co27 : Value).ownBlock)) (n := t349.length) (c := co44) ?_).2.2; exact (by (with_reducible repeat (first | apply rA | apply rN | apply rD)); exact (rM (Kd.R_far (p := ⟨gb353, 3, none⟩) (Kd.R_far (p := ⟨gb353, 2, none⟩) (Kd.R_far (p := ⟨gb353, 1, none⟩) (Kd.R_far (p := ⟨gb353, 0, none⟩) (Kd.R_types HO351.out BK353.out (by decide)) (fun _ hk => hk.2) (.int .i64 t344)) (fun _ hk => hk.2) (.int .i64 t345)) (fun _ hk => hk.2) (.slice Ao43 t346.length co43)) (fun _ hk => hk.2) (.slice Ao44 t349.length co44)) (fun _ h_ => h_.1)))); (case side4 => exact (Kd.R_reads' HO351.out).2.1); (case side5 => refine (Kd.R_reads' (e := 2) (base := w.heap.size) (ok := fun k_ => (((((True ∧ some k_ ≠ (.slice Ao19 t310.length co19 : Value).ownBlock) ∧ some k_ ≠ (.slice Ao20 t313.length co20 : Value).ownBlock) ∧ some k_ ≠ (.slice Ao34 t332.length co34 : Value).ownBlock) ∧ some k_ ≠ (.slice Ao35 t335.length co35 : Value).ownBlock) ∧ some k_ ≠ (.slice Ao43 t346.length co43 : Value).ownBlock)) (n := t323.length) (c := co26) ?_).2.2; exact (by (with_reducible repeat (first | apply rA | apply rN | apply rD)); exact (rM (Kd.R_far (p := ⟨gb353, 3, none⟩) (Kd.R_far (p := ⟨gb353, 2, none⟩) (Kd.R_far (p := ⟨gb353, 1, none⟩) (Kd.R_far (p := ⟨gb353, 0, none⟩) (Kd.R_types HO325.out BK353.out (by decide)) (fun _ hk => hk.2) (.int .i64 t344)) (fun _ hk => hk.2) (.int .i64 t345)) (fun _ hk => hk.2) (.slice Ao43 t346.length co43)) (fun _ hk => hk.2) (.slice Ao44 t349.length co44)) (fun _ h_ => h_.1)))); (case side6 => exact (Kd.R_reads' HO325.out).2.1); (case side7 => refine (Kd.R_reads' (e := 67) (base := w.heap.size) (ok := fun k_ => (True ∧ some k_ ≠ (.slice Ao44 t349.length co44 : Value).ownBlock)) (n := t326.length) (c := co27) ?_).2.2; exact (by (with_reducible repeat (first | apply rA | apply rN | apply rD)); exact (rM (Kd.R_far (p := ⟨gb353, 3, none⟩) (Kd.R_far (p := ⟨gb353, 2, none⟩) (Kd.R_far (p := ⟨gb353, 1, none⟩) (Kd.R_far (p := ⟨gb353, 0, none⟩) (Kd.R_types HO328.out BK353.out (by decide)) (fun _ hk => hk.2) (.int .i64 t344)) (fun _ hk => hk.2) (.int .i64 t345)) (fun _ hk => hk.2) (.slice Ao43 t346.length co43)) (fun _ hk => hk.2) (.slice Ao44 t349.length co44)) (fun _ h_ => h_.1)))); (case side8 => exact (Kd.R_reads' HO328.out).2.1); rintro e w62 ⟨rfl, hb⟩; refine ⟨_, rfl, ?_⟩; have n0_ := Aside0.mk (rB (by (with_reducible repeat (first | apply rA | apply rN | apply rD)); exact (rM (Kd.R_far (p := ⟨gb353, 3, none⟩) (Kd.R_far (p := ⟨gb353, 2, none⟩) (Kd.R_far (p := ⟨gb353, 1, none⟩) (Kd.R_far (p := ⟨gb353, 0, none⟩) (Kd.R_types HO312.out BK353.out (by decide)) (fun _ hk => hk.2) (.int .i64 t344)) (fun _ hk => hk.2) (.int .i64 t345)) (fun _ hk => hk.2) (.slice Ao43 t346.length co43)) (fun _ hk => hk.2) (.slice Ao44 t349.length co44)) (fun _ h_ => h_.1))) hb); have n1_ := Aside0.mk (rB (by (with_reducible repeat (first | apply rA | apply rN | apply rD)); exact (rM (Kd.R_far (p := ⟨gb353, 3, none⟩) (Kd.R_far (p := ⟨gb353, 2, none⟩) (Kd.R_far (p := ⟨gb353, 1, none⟩) (Kd.R_far (p := ⟨gb353, 0, none⟩) (Kd.R_types HO315.out BK353.out (by decide)) (fun _ hk => hk.2) (.int .i64 t344)) (fun _ hk => hk.2) (.int .i64 t345)) (fun _ hk => hk.2) (.slice Ao43 t346.length co43)) (fun _ hk => hk.2) (.slice Ao44 t349.length co44)) (fun _ h_ => h_.1))) hb); have n2_ := Aside0.mk (Kd.S_below (by (with_reducible repeat (first | apply Kd.S_alloc | apply Kd.S_drewN | apply Kd.S_drew)); exact (Kd.S_mono (Kd.S_far (p := ⟨gb353, 3, none⟩) (Kd.S_far (p := ⟨gb353, 2, none⟩) (Kd.S_far (p := ⟨gb353, 1, none⟩) (Kd.S_far (p := ⟨gb353, 0, none⟩) (Kd.S_types HO320.out BK353.out (by decide)) (fun _ hk => hk.2) (.int .i64 t344)) (fun _ hk => hk.2) (.int .i64 t345)) (fun _ hk => hk.2) (.slice Ao43 t346.length co43)) (fun _ hk => hk.2) (.slice Ao44 t349.length co44)) (fun _ h_ => h_.1))) hb); have n3_ := Aside0.mk (rB (by (with_reducible repeat (first | apply rA | apply rN | apply rD)); exact (rM (Kd.R_far (p := ⟨gb353, 3, none⟩) (Kd.R_far (p := ⟨gb353, 2, none⟩) (Kd.R_far (p := ⟨gb353, 1, none⟩) (Kd.R_far (p := ⟨gb353, 0, none⟩) (Kd.R_types HO325.out BK353.out (by decide)) (fun _ hk => hk.2) (.int .i64 t344)) (fun _ hk => hk.2) (.int .i64 t345)) (fun _ hk => hk.2) (.slice Ao43 t346.length co43)) (fun _ hk => hk.2) (.slice Ao44 t349.length co44)) (fun _ h_ => h_.1))) hb); have n4_ := Aside0.mk (rB (by (with_reducible repeat (first | apply rA | apply rN | apply rD)); exact (rM (Kd.R_far (p := ⟨gb353, 3, none⟩) (Kd.R_far (p := ⟨gb353, 2, none⟩) (Kd.R_far (p := ⟨gb353, 1, none⟩) (Kd.R_far (p := ⟨gb353, 0, none⟩) (Kd.R_types HO328.out BK353.out (by decide)) (fun _ hk => hk.2) (.int .i64 t344)) (fun _ hk => hk.2) (.int .i64 t345)) (fun _ hk => hk.2) (.slice Ao43 t346.length co43)) (fun _ hk => hk.2) (.slice Ao44 t349.length co44)) (fun _ h_ => h_.1))) hb); have n5_ := Aside0.mk (rB (by (with_reducible repeat (first | apply rA | apply rN | apply rD)); exact (rM (Kd.R_far (p := ⟨gb353, 3, none⟩) (Kd.R_far (p := ⟨gb353, 2, none⟩) (Kd.R_far (p := ⟨gb353, 1, none⟩) (Kd.R_far (p := ⟨gb353, 0, none⟩) (Kd.R_types HO334.out BK353.out (by decide)) (fun _ hk => hk.2) (.int .i64 t344)) (fun _ hk => hk.2) (.int .i64 t345)) (fun _ hk => hk.2) (.slice Ao43 t346.length co43)) (fun _ hk => hk.2) (.slice Ao44 t349.length co44)) (fun _ h_ => h_.1))) hb); have n6_ := Aside0.mk (rB (by (with_reducible repeat (first | apply rA | apply rN | apply rD)); exact (rM (Kd.R_far (p := ⟨gb353, 3, none⟩) (Kd.R_far (p := ⟨gb353, 2, none⟩) (Kd.R_far (p := ⟨gb353, 1, none⟩) (Kd.R_far (p := ⟨gb353, 0, none⟩) (Kd.R_types HO337.out BK353.out (by decide)) (fun _ hk => hk.2) (.int .i64 t344)) (fun _ hk => hk.2) (.int .i64 t345)) (fun _ hk => hk.2) (.slice Ao43 t346.length co43)) (fun _ hk => hk.2) (.slice Ao44 t349.length co44)) (fun _ h_ => h_.1))) hb); have n7_ := Aside0.mk (Kd.S_below (by (with_reducible repeat (first | apply Kd.S_alloc | apply Kd.S_drewN | apply Kd.S_drew)); exact (Kd.S_mono (Kd.S_far (p := ⟨gb353, 3, none⟩) (Kd.S_far (p := ⟨gb353, 2, none⟩) (Kd.S_far (p := ⟨gb353, 1, none⟩) (Kd.S_far (p := ⟨gb353, 0, none⟩) (Kd.S_types HO342.out BK353.out (by decide)) (fun _ hk => hk.2) (.int .i64 t344)) (fun _ hk => hk.2) (.int .i64 t345)) (fun _ hk => hk.2) (.slice Ao43 t346.length co43)) (fun _ hk => hk.2) (.slice Ao44 t349.length co44)) (fun _ h_ => h_.1))) hb); have n8_ := Aside0.mk (rB (by (with_reducible repeat (first | apply rA | apply rN | apply rD)); exact (rM (Kd.R_far (p := ⟨gb353, 3, none⟩) (Kd.R_far (p := ⟨gb353, 2, none⟩) (Kd.R_far (p := ⟨gb353, 1, none⟩) (Kd.R_far (p := ⟨gb353, 0, none⟩) (Kd.R_types HO348.out BK353.out (by decide)) (fun _ hk => hk.2) (.int .i64 t344)) (fun _ hk => hk.2) (.int .i64 t345)) (fun _ hk => hk.2) (.slice Ao43 t346.length co43)) (fun _ hk => hk.2) (.slice Ao44 t349.length co44)) (fun _ h_ => h_.1))) hb); have n9_ := Aside0.mk (rB (by (with_reducible repeat (first | apply rA | apply rN | apply rD)); exact (rM (Kd.R_far (p := ⟨gb353, 3, none⟩) (Kd.R_far (p := ⟨gb353, 2, none⟩) (Kd.R_far (p := ⟨gb353, 1, none⟩) (Kd.R_far (p := ⟨gb353, 0, none⟩) (Kd.R_types HO351.out BK353.out (by decide)) (fun _ hk => hk.2) (.int .i64 t344)) (fun _ hk => hk.2) (.int .i64 t345)) (fun _ hk => hk.2) (.slice Ao43 t346.length co43)) (fun _ hk => hk.2) (.slice Ao44 t349.length co44)) (fun _ h_ => h_.1))) hb); have n10_ := Aside0.mk (kB (g := gb307) (o := .cells #[.string a0_0, .slice A0_1 l0_1.length c0_1, .slice A0_2 l0_2.length c0_2, .int .i64 a0_3, .int .i64 a0_4, .slice A0_5 l0_5.length c0_5] 55 (0, 0)) (by (with_reducible repeat (first | refine kN ?_ _ | refine kD ?_ | refine kA ?_ _)); refine kF ?_ NB307_353.out _; (with_reducible repeat (first | refine kN ?_ _ | refine kD ?_ | refine kA ?_ _)); refine kF ?_ NB307_353.out _; (with_reducible repeat (first | refine kN ?_ _ | refine kD ?_ | refine kA ?_ _)); refine kF ?_ NB307_353.out _; (with_reducible repeat (first | refine kN ?_ _ | refine kD ?_ | refine kA ?_ _)); refine kF ?_ NB307_353.out _; (with_reducible repeat (first | refine kN ?_ _ | refine kD ?_ | refine kA ?_ _)); exact BK307.out) hb); have n11_ := Aside0.mk (kB (g := gb330) (o := .cells #[.int .i64 t321, .int .i64 t322, .slice Ao26 t323.length co26, .slice Ao27 t326.length co27] 30 (0, 0)) (by (with_reducible repeat (first | refine kN ?_ _ | refine kD ?_ | refine kA ?_ _)); refine kF ?_ NB330_353.out _; (with_reducible repeat (first | refine kN ?_ _ | refine kD ?_ | refine kA ?_ _)); refine kF ?_ NB330_353.out _; (with_reducible repeat (first | refine kN ?_ _ | refine kD ?_ | refine kA ?_ _)); refine kF ?_ NB330_353.out _; (with_reducible repeat (first | refine kN ?_ _ | refine kD ?_ | refine kA ?_ _)); refine kF ?_ NB330_353.out _; (with_reducible repeat (first | refine kN ?_ _ | refine kD ?_ | refine kA ?_ _)); exact BK330.out) hb); have n12_ := Aside0.mk (kB (g := gb343) (o := .cells #[.string t331, .slice Ao34 t332.length co34, .slice Ao35 t335.length co35, .int .i64 t338, .int .i64 t339, .slice Ao36 t340.length co36] 58 (0, 0)) (by (with_reducible repeat (first | refine kN ?_ _ | refine kD ?_ | refine kA ?_ _)); refine kF ?_ NB343_353.out _; (with_reducible repeat (first | refine kN ?_ _ | refine kD ?_ | refine kA ?_ _)); refine kF ?_ NB343_353.out _; (with_reducible repeat (first | refine kN ?_ _ | refine kD ?_ | refine kA ?_ _)); refine kF ?_ NB343_353.out _; (with_reducible repeat (first | refine kN ?_ _ | refine kD ?_ | refine kA ?_ _)); refine kF ?_ NB343_353.out _; (with_reducible repeat (first | refine kN ?_ _ | refine kD ?_ | refine kA ?_ _)); exact BK343.out) hb); have n13_ := Aside0.mk (kB (g := gb353) (o := .cells #[.int .i64 t344, .int .i64 t345, .slice Ao43 t346.length co43, .slice Ao44 t349.length co44] 30 (0, 0)) (by (with_reducible repeat (first | refine kN ?_ _ | refine kD ?_ | refine kA ?_ _)); refine blk_put (cs := #[.int .i64 t344, .int .i64 t345, .slice Ao43 t346.length co43, .slice none 0 0]) ?_ 3 _ rfl; (with_reducible repeat (first | refine kN ?_ _ | refine kD ?_ | refine kA ?_ _)); refine blk_put (cs := #[.int .i64 t344, .int .i64 t345, .slice none 0 0, .slice none 0 0]) ?_ 2 _ rfl; (with_reducible repeat (first | refine kN ?_ _ | refine kD ?_ | refine kA ?_ _)); refine blk_put (cs := #[.int .i64 t344, .int .i64 0, .slice none 0 0, .slice none 0 0]) ?_ 1 _ rfl; (with_reducible repeat (first | refine kN ?_ _ | refine kD ?_ | refine kA ?_ _)); refine blk_put (cs := #[.int .i64 0, .int .i64 0, .slice none 0 0, .slice none 0 0]) ?_ 0 _ rfl; (with_reducible repeat (first | refine kN ?_ _ | refine kD ?_ | refine kA ?_ _)); exact BK353.out) hb); have n14_ := Aside0.mk (bP (by repeat (first | (with_reducible first | exact HB.out | apply bA | apply bN | apply bD | refine bS ?_ GE307.out | refine bS ?_ GE330.out | refine bS ?_ GE343.out | refine bS ?_ GE353.out) | exact HB.out)) hb); clear HO312; clear HO315; clear HO320; clear HO325; clear HO328; clear HO334; clear HO337; clear HO342; clear HO348; clear HO351; clear BK307; clear BK330; clear BK343; clear BK353; clear HB; have HO312 := n0_; have HO315 := n1_; have HO320 := n2_; have HO325 := n3_; have HO328 := n4_; have HO334 := n5_; have HO337 := n6_; have HO342 := n7_; have HO348 := n8_; have HO351 := n9_; have BK307 := n10_; have BK330 := n11_; have BK343 := n12_; have BK353 := n13_; have HB := n14_; clear n0_ n1_ n2_ n3_ n4_ n5_ n6_ n7_ n8_ n9_ n10_ n11_ n12_ n13_ n14_; (try clear hb); (try clear hb2); (try clear hk); (try clear hi)))
    go_meet
    case rel => exact ⟨_, (true), eT, H', ⟨by first | omega | exact Nat.le_refl _⟩, ⟨by (with_reducible repeat (first | apply rA | apply rN | apply rD)); exact rM HO325.out (fun _ hk => ⟨hk.1.1.2, ⟨hk.1.2, hk.2⟩⟩)⟩, ⟨by (with_reducible repeat (first | apply rA | apply rN | apply rD)); exact rM HO328.out (fun _ hk => hk.2)⟩, ⟨by (with_reducible repeat (first | apply rA | apply rN | apply rD)); exact rM HO334.out (fun _ hk => ⟨hk.1.2, ⟨hk.1.1.1.1, hk.2⟩⟩)⟩, ⟨by (with_reducible repeat (first | apply rA | apply rN | apply rD)); exact rM HO337.out (fun _ hk => ⟨hk.1.2, ⟨hk.1.1.1.1, hk.2⟩⟩)⟩, ⟨by (with_reducible repeat (first | apply Kd.S_alloc | apply Kd.S_drewN | apply Kd.S_drew)); exact Kd.S_mono HO342.out (fun _ hk => ⟨hk.1.2, ⟨hk.1.1.1.1.1.1, ⟨hk.1.1.1.1.1.2, hk.2⟩⟩⟩)⟩, ⟨by (with_reducible repeat (first | apply rA | apply rN | apply rD)); exact rM HO348.out (fun _ hk => ⟨hk.1.1.2, ⟨hk.1.2, hk.2⟩⟩)⟩, ⟨by (with_reducible repeat (first | apply rA | apply rN | apply rD)); exact rM HO351.out (fun _ hk => hk.2)⟩, ⟨kQ BK307⟩, ⟨kQ BK330⟩, ⟨kQ BK343⟩, ⟨kQ BK353⟩, ⟨by repeat (first | (with_reducible first | exact HB.out | apply bA | apply bN | apply bD | refine bS ?_ GE307.out | refine bS ?_ GE330.out | refine bS ?_ GE343.out | refine bS ?_ GE353.out) | exact HB.out)⟩⟩
  case rest =>
   clear HC13
   try clear c1
   try clear c2
   try clear p2
   try clear c3
   try clear c4
   try clear c5
   try clear c5b0
   try clear c6
   try clear c14
   try clear c19
   try clear c24
   try clear c31
   try clear c32
   try clear c39
   try clear c40
   try clear c41
   try clear c44
   try clear c46
   try clear c47
   try clear c48
   try clear c49
   try clear c50
   try clear c51
   try clear c52
   try clear c55
   try clear c56
   try clear c57
   try clear c59
   try clear c60
   try clear hcz15_0
   try clear hcz15_1
   try clear hcz15_2
   try clear hcz15_3
   try clear hcz15_4
   try clear hcz15_5
   try clear hcz17_0
   try clear hcz17_1
   try clear hcz17_2
   try clear hcz17_3
   try clear hcz17_4
   try clear hcz17_5
   try clear hcz25_0
   try clear hcz25_1
   try clear hcz25_2
   try clear hcz25_3
   try clear hcz28_0
   try clear hcz28_1
   try clear hcz28_2
   try clear hcz28_3
   try clear hcz28_4
   try clear hcz28_5
   try clear hcz33_0
   try clear hcz33_1
   try clear hcz33_2
   try clear hcz33_3
   try clear hcz33_4
   try clear hcz33_5
   try clear hcz42_0
   try clear hcz42_1
   try clear hcz42_2
   try clear hcz42_3
   try clear hcz50_0
   try clear hcz50_1
   try clear hcz50_2
   try clear hcz50_3
   try clear hcz53_0
   try clear hcz53_1
   try clear hcz53_2
   try clear hcz53_3
   try clear hcz58_0
   try clear hcz58_1
   try clear hcz58_2
   try clear hcz58_3
   try clear hcz61_0
   try clear hcz61_1
   try clear hcz61_2
   try clear hcz61_3
   try clear hcz7_0
   try clear hcz7_1
   try clear hcz7_2
   try clear hcz7_3
   try clear hcz7_4
   try clear hcz7_5
   try clear hfz15_0
   try clear hfz15_1
   try clear hfz15_2
   try clear hfz15_3
   try clear hfz15_4
   try clear hfz15_5
   try clear hfz17_0
   try clear hfz17_1
   try clear hfz17_2
   try clear hfz17_3
   try clear hfz17_4
   try clear hfz17_5
   try clear hfz25_0
   try clear hfz25_1
   try clear hfz25_2
   try clear hfz25_3
   try clear hfz28_0
   try clear hfz28_1
   try clear hfz28_2
   try clear hfz28_3
   try clear hfz28_4
   try clear hfz28_5
   try clear hfz33_0
   try clear hfz33_1
   try clear hfz33_2
   try clear hfz33_3
   try clear hfz33_4
   try clear hfz33_5
   try clear hfz42_0
   try clear hfz42_1
   try clear hfz42_2
   try clear hfz42_3
   try clear hfz50_0
   try clear hfz50_1
   try clear hfz50_2
   try clear hfz50_3
   try clear hfz53_0
   try clear hfz53_1
   try clear hfz53_2
   try clear hfz53_3
   try clear hfz58_0
   try clear hfz58_1
   try clear hfz58_2
   try clear hfz58_3
   try clear hfz61_0
   try clear hfz61_1
   try clear hfz61_2
   try clear hfz61_3
   try clear hfz7_0
   try clear hfz7_1
   try clear hfz7_2
   try clear hfz7_3
   try clear hfz7_4
   try clear hfz7_5
   obtain ⟨kq, x48_12, rfl, HA, HJ12, HO_331002, HO_331003, HO_344001, HO_344002, HO_344005, HO_354002, HO_354003, BK307, BK330, BK343, BK353, HB⟩ := hcut
   cases kq with
   | zero => exact absurd HA.out (by simp [laws_FnExactGrammarOf.j0])
   | succ kj12 =>
    have H := HA.out
    clear HA
    simp only [laws_FnExactGrammarOf.j0] at H
    by_cases c63 : x48_12 = true
    ·subst c63
     have H1 : (some false) = some r := by rw [if_pos rfl] at H; exact H
     clear H
     have H := H1
     clear H1
     obtain rfl := Option.some.inj H
     go_wp2
     go_ret
     exact ⟨by first | rfl | (simp [errW_none, errW_some] <;> rfl) | (simp [*, errW_none, errW_some] <;> rfl), by repeat (first | (with_reducible first | exact HB.out | apply bA | apply bN | apply bD | refine bS ?_ GE307.out | refine bS ?_ GE330.out | refine bS ?_ GE343.out | refine bS ?_ GE353.out) | exact HB.out)⟩
    ·replace c63 := Bool.eq_false_iff.mpr c63
     subst c63
     have H1 : ((laws_toRaga.f kj12 a0_0 l0_1 l0_2 a0_3 a0_4 l0_5).bind fun bt355 => ((laws_eqRaga.f kj12 t331 t332 t335 t338 t339 t340 bt355.1 bt355.2.1 bt355.2.2.1 bt355.2.2.2.1 bt355.2.2.2.2.1 bt355.2.2.2.2.2).bind fun t367 => (if t367 = true then ((laws_markRaga.f t331 t332 t335 t338 t339 t340 1).bind fun t368 => (if t368 < 0 then (laws_FnExactGrammarOf.j1 kj12 a1 a2 t329 true a0_0 l0_1 l0_2 a0_3 a0_4 l0_5 t321 t322 t323 t326 t344 t345 t346 t349) else ((laws_eqGrammar.f kj12 t344 t345 t346 t349 t321 t322 t323 t326).bind fun t369 => (if t369 = true then (laws_FnExactGrammarOf.j1 kj12 a1 a2 t329 (t352 != t329) a0_0 l0_1 l0_2 a0_3 a0_4 l0_5 t321 t322 t323 t326 t344 t345 t346 t349) else (laws_FnExactGrammarOf.j1 kj12 a1 a2 t329 true a0_0 l0_1 l0_2 a0_3 a0_4 l0_5 t321 t322 t323 t326 t344 t345 t346 t349))))) else (some false)))) = some r := by rw [if_neg (show ¬ (false = true) by decide)] at H; exact H
     clear H
     have H := H1
     clear H1
     replace H := Option.bind_eq_some_iff.mp H
     obtain ⟨⟨t355, t356, t359, t362, t363, t364⟩, A640, H⟩ := H
     replace H : ((laws_eqRaga.f kj12 t331 t332 t335 t338 t339 t340 t355 t356 t359 t362 t363 t364).bind fun t367 => (if t367 = true then ((laws_markRaga.f t331 t332 t335 t338 t339 t340 1).bind fun t368 => (if t368 < 0 then (laws_FnExactGrammarOf.j1 kj12 a1 a2 t329 true a0_0 l0_1 l0_2 a0_3 a0_4 l0_5 t321 t322 t323 t326 t344 t345 t346 t349) else ((laws_eqGrammar.f kj12 t344 t345 t346 t349 t321 t322 t323 t326).bind fun t369 => (if t369 = true then (laws_FnExactGrammarOf.j1 kj12 a1 a2 t329 (t352 != t329) a0_0 l0_1 l0_2 a0_3 a0_4 l0_5 t321 t322 t323 t326 t344 t345 t346 t349) else (laws_FnExactGrammarOf.j1 kj12 a1 a2 t329 true a0_0 l0_1 l0_2 a0_3 a0_4 l0_5 t321 t322 t323 t326 t344 t345 t346 t349))))) else (some false))) = some r := H
     have A64 := Aside0.mk A640
     clear A640
     replace H := Option.bind_eq_some_iff.mp H
     obtain ⟨t367, A650, H⟩ := H
     replace H : (if t367 = true then ((laws_markRaga.f t331 t332 t335 t338 t339 t340 1).bind fun t368 => (if t368 < 0 then (laws_FnExactGrammarOf.j1 kj12 a1 a2 t329 true a0_0 l0_1 l0_2 a0_3 a0_4 l0_5 t321 t322 t323 t326 t344 t345 t346 t349) else ((laws_eqGrammar.f kj12 t344 t345 t346 t349 t321 t322 t323 t326).bind fun t369 => (if t369 = true then (laws_FnExactGrammarOf.j1 kj12 a1 a2 t329 (t352 != t329) a0_0 l0_1 l0_2 a0_3 a0_4 l0_5 t321 t322 t323 t326 t344 t345 t346 t349) else (laws_FnExactGrammarOf.j1 kj12 a1 a2 t329 true a0_0 l0_1 l0_2 a0_3 a0_4 l0_5 t321 t322 t323 t326 t344 t345 t346 t349))))) else (some false)) = some r := H
     have A65 := Aside0.mk A650
     clear A650
     by_cases c66 : t367 = true
     ·subst c66
      have H1 : ((laws_markRaga.f t331 t332 t335 t338 t339 t340 1).bind fun t368 => (if t368 < 0 then (laws_FnExactGrammarOf.j1 kj12 a1 a2 t329 true a0_0 l0_1 l0_2 a0_3 a0_4 l0_5 t321 t322 t323 t326 t344 t345 t346 t349) else ((laws_eqGrammar.f kj12 t344 t345 t346 t349 t321 t322 t323 t326).bind fun t369 => (if t369 = true then (laws_FnExactGrammarOf.j1 kj12 a1 a2 t329 (t352 != t329) a0_0 l0_1 l0_2 a0_3 a0_4 l0_5 t321 t322 t323 t326 t344 t345 t346 t349) else (laws_FnExactGrammarOf.j1 kj12 a1 a2 t329 true a0_0 l0_1 l0_2 a0_3 a0_4 l0_5 t321 t322 t323 t326 t344 t345 t346 t349))))) = some r := by rw [if_pos rfl] at H; exact H
      clear H
      have H := H1
      clear H1
      replace H := Option.bind_eq_some_iff.mp H
      obtain ⟨t368, A670, H⟩ := H
      replace H : (if t368 < 0 then (laws_FnExactGrammarOf.j1 kj12 a1 a2 t329 true a0_0 l0_1 l0_2 a0_3 a0_4 l0_5 t321 t322 t323 t326 t344 t345 t346 t349) else ((laws_eqGrammar.f kj12 t344 t345 t346 t349 t321 t322 t323 t326).bind fun t369 => (if t369 = true then (laws_FnExactGrammarOf.j1 kj12 a1 a2 t329 (t352 != t329) a0_0 l0_1 l0_2 a0_3 a0_4 l0_5 t321 t322 t323 t326 t344 t345 t346 t349) else (laws_FnExactGrammarOf.j1 kj12 a1 a2 t329 true a0_0 l0_1 l0_2 a0_3 a0_4 l0_5 t321 t322 t323 t326 t344 t345 t346 t349)))) = some r := H
      have A67 := Aside0.mk A670
      clear A670
      have HC68 := Aside0.mk H
      clear H
      try go_wp2
      have n0_ := Aside0.mk (rD HO_331002.out)
      have n1_ := Aside0.mk (rD HO_331003.out)
      have n2_ := Aside0.mk (rD HO_344001.out)
      have n3_ := Aside0.mk (rD HO_344002.out)
      have n4_ := Aside0.mk (Kd.S_drew HO_344005.out)
      have n5_ := Aside0.mk (rD HO_354002.out)
      have n6_ := Aside0.mk (rD HO_354003.out)
      have n7_ := Aside0.mk (kD BK307.out)
      have n8_ := Aside0.mk (kD BK330.out)
      have n9_ := Aside0.mk (kD BK343.out)
      have n10_ := Aside0.mk (kD BK353.out)
      have n11_ := Aside0.mk (bD HB.out)
      clear HO_331002
      clear HO_331003
      clear HO_344001
      clear HO_344002
      clear HO_344005
      clear HO_354002
      clear HO_354003
      clear BK307
      clear BK330
      clear BK343
      clear BK353
      clear HB
      have HO_331002 := n0_
      have HO_331003 := n1_
      have HO_344001 := n2_
      have HO_344002 := n3_
      have HO_344005 := n4_
      have HO_354002 := n5_
      have HO_354003 := n6_
      have BK307 := n7_
      have BK330 := n8_
      have BK343 := n9_
      have BK353 := n10_
      have HB := n11_
      clear n0_ n1_ n2_ n3_ n4_ n5_ n6_ n7_ n8_ n9_ n10_ n11_
      refine start_ (n := 5) (S := fun w' => w'.cell? ⟨gb343, 0, none⟩ = some (.string t331) ∧ w'.cell? ⟨gb343, 1, none⟩ = some (.slice Ao34 t332.length co34) ∧ w'.cell? ⟨gb343, 2, none⟩ = some (.slice Ao35 t335.length co35) ∧ w'.cell? ⟨gb343, 3, none⟩ = some (.int .i64 t338) ∧ w'.cell? ⟨gb343, 4, none⟩ = some (.int .i64 t339) ∧ w'.cell? ⟨gb343, 5, none⟩ = some (.slice Ao36 t340.length co36) ∧ w'.cell? ⟨gb307, 0, none⟩ = some (.string a0_0) ∧ w'.cell? ⟨gb307, 1, none⟩ = some (.slice A0_1 l0_1.length c0_1) ∧ w'.cell? ⟨gb307, 2, none⟩ = some (.slice A0_2 l0_2.length c0_2) ∧ w'.cell? ⟨gb307, 3, none⟩ = some (.int .i64 a0_3) ∧ w'.cell? ⟨gb307, 4, none⟩ = some (.int .i64 a0_4) ∧ w'.cell? ⟨gb307, 5, none⟩ = some (.slice A0_5 l0_5.length c0_5)) (ds := []) #[F,F,F,F,F] (by kernel_rfl) rfl rfl ⟨(kC BK343.out 0).trans rfl, (kC BK343.out 1).trans rfl, (kC BK343.out 2).trans rfl, (kC BK343.out 3).trans rfl, (kC BK343.out 4).trans rfl, (kC BK343.out 5).trans rfl, (kC BK307.out 0).trans rfl, (kC BK307.out 1).trans rfl, (kC BK307.out 2).trans rfl, (kC BK307.out 3).trans rfl, (kC BK307.out 4).trans rfl, (kC BK307.out 5).trans rfl⟩ (fun hHeld => ?_)
      generalize wc.drew = w69 at HO_331002 HO_331003 HO_344001 HO_344002 HO_344005 HO_354002 HO_354003 BK307 BK330 BK343 BK353 HB hHeld ⊢
      refine take_ (i := 0) (N := some 49) (v := ?_) (a' := ?_) #[T,F,F,F,F] rfl rfl (by kernel_rfl) (fun _ _ _ h => h) (Or.inl ⟨by rfl, ?_⟩) hHeld ?_ ?_; rotate_left; (·rintro w' ⟨s0, s1, s2, s3, s4, s5, s6, s7, s8, s9, s10, s11⟩; go_simp; with_reducible rfl); rotate_left; (·simp only [Act.put, sI, sZ, sS, iW, jW]; rfl)
      refine take_ (i := 1) (N := some 50) (v := ?_) (a' := ?_) #[T,T,F,F,F] rfl rfl (by kernel_rfl) (fun _ _ _ h => h) (Or.inl ⟨by rfl, ?_⟩) hHeld ?_ ?_; rotate_left; (·rintro w' ⟨s0, s1, s2, s3, s4, s5, s6, s7, s8, s9, s10, s11⟩; go_simp; with_reducible rfl); rotate_left; (·simp only [Act.put, sI, sZ, sS, iW, jW]; rfl)
      refine one_ (i := 2) (N := some 51) #[T,T,T,F,F] rfl rfl (by kernel_rfl) (by decide) (fun K hK => ?_)
      refine goes_ Try.func46 (by kernel_rfl) rfl #[.agg #[.string a0_0, .slice A0_1 l0_1.length c0_1, .slice A0_2 l0_2.length c0_2, .int .i64 a0_3, .int .i64 a0_4, .slice A0_5 l0_5.length c0_5]] (by rfl) rfl rfl lQ ?_
      with_reducible refine (laws_toRaga.calls kj12 a0_0 _ _ l0_1 _ _ l0_2 a0_3 a0_4 _ _ l0_5 t355 t356 t359 t362 t363 t364 _ ?side1 ?side2 ?side3 ?side4 ?side5 ?side6 A64.out).mono ?_
      (case side1 => exact cP (cB HR0_1.out HB.out))
      (case side2 => exact HC0_1.out)
      (case side3 => exact cP (cB HR0_2.out HB.out))
      (case side4 => exact HC0_2.out)
      (case side5 => exact cP (cB HR0_5.out HB.out))
      (case side6 => exact HC0_5.out)
      rintro e w70 ⟨v357, v360, v365, rfl, ho0, ho1, ho2, hb⟩
      refine ⟨_, rfl, ?_⟩
      have z_ := bX hb (by repeat (first | (with_reducible first | exact HB.out | apply bA | apply bN | apply bD | refine bS ?_ GE307.out | refine bS ?_ GE330.out | refine bS ?_ GE343.out | refine bS ?_ GE353.out) | exact HB.out))
      have n0_ := Aside0.mk (rM (Kd.R_told (Kd.R_told (Kd.R_old (rQ HO_331002) hb) (Kd.R_base ho0)) (Kd.R_base ho1)) (fun _ h_ => h_.1))
      have n1_ := Aside0.mk (rB (rQ HO_331003) hb)
      have n2_ := Aside0.mk (rM (Kd.R_told (Kd.R_told (Kd.R_old (rQ HO_344001) hb) (Kd.R_base ho0)) (Kd.R_base ho1)) (fun _ h_ => h_.1))
      have n3_ := Aside0.mk (rM (Kd.R_told (Kd.R_told (Kd.R_old (rQ HO_344002) hb) (Kd.R_base ho0)) (Kd.R_base ho1)) (fun _ h_ => h_.1))
      have n4_ := Aside0.mk (Kd.S_mono (Kd.S_told (Kd.S_told (Kd.S_told (Kd.S_old (by (with_reducible repeat (first | apply Kd.S_alloc | apply Kd.S_drewN | apply Kd.S_drew)); exact HO_344005.out) hb) (Kd.R_base ho0)) (Kd.R_base ho1)) (Kd.S_base ho2)) (fun _ h_ => h_.1))
      have n5_ := Aside0.mk (rM (Kd.R_told (Kd.R_told (Kd.R_old (rQ HO_354002) hb) (Kd.R_base ho0)) (Kd.R_base ho1)) (fun _ h_ => h_.1))
      have n6_ := Aside0.mk (rB (rQ HO_354003) hb)
      have n7_ := Aside0.mk (rL (rW (rW (rW (rW ho0 (rT (rQ HO_331002))) (rT (rQ HO_344001))) (rT (rQ HO_344002))) (rT (rQ HO_354002))) (bZ z_))
      have n8_ := Aside0.mk (rL (rW (rW (rW (rW ho1 (rT (rQ HO_331002))) (rT (rQ HO_344001))) (rT (rQ HO_344002))) (rT (rQ HO_354002))) (bZ z_))
      have n9_ := Aside0.mk (Kd.S_lower (Kd.S_new' (Kd.S_new' (Kd.S_new' (Kd.S_new' (Kd.S_new' ho2 (rT (rQ HO_331002))) (rT (rQ HO_344001))) (rT (rQ HO_344002))) (Kd.S_lt (by (with_reducible repeat (first | apply Kd.S_alloc | apply Kd.S_drewN | apply Kd.S_drew)); exact HO_344005.out))) (rT (rQ HO_354002))) (bZ z_))
      have n10_ := Aside0.mk (kB (kQ BK307) hb)
      have n11_ := Aside0.mk (kB (kQ BK330) hb)
      have n12_ := Aside0.mk (kB (kQ BK343) hb)
      have n13_ := Aside0.mk (kB (kQ BK353) hb)
      have n14_ := Aside0.mk (bP z_ hb)
      clear HO_331002
      clear HO_331003
      clear HO_344001
      clear HO_344002
      clear HO_344005
      clear HO_354002
      clear HO_354003
      clear BK307
      clear BK330
      clear BK343
      clear BK353
      clear HB
      have HO_331002 := n0_
      have HO_331003 := n1_
      have HO_344001 := n2_
      have HO_344002 := n3_
      have HO_344005 := n4_
      have HO_354002 := n5_
      have HO_354003 := n6_
      have HO358 := n7_
      have HO361 := n8_
      have HO366 := n9_
      have BK307 := n10_
      have BK330 := n11_
      have BK343 := n12_
      have BK353 := n13_
      have HB := n14_
      clear z_ n0_ n1_ n2_ n3_ n4_ n5_ n6_ n7_ n8_ n9_ n10_ n11_ n12_ n13_ n14_
      (try clear hb)
      (try clear hb2)
      (try clear hk)
      (try clear hi)
      (try clear ho0)
      (try clear ho1)
      (try clear ho2)
      obtain ⟨Ao71, co71, eo71⟩ := Kd.R_slice HO358.out
      (first | subst eo71 | (injection eo71 with f1_ f2_ f3_; have f4_ := f1_.symm; have f5_ := f3_.symm; clear f1_ f2_ f3_; subst f4_; subst f5_))
      obtain ⟨Ao72, co72, eo72⟩ := Kd.R_slice HO361.out
      (first | subst eo72 | (injection eo72 with f1_ f2_ f3_; have f4_ := f1_.symm; have f5_ := f3_.symm; clear f1_ f2_ f3_; subst f4_; subst f5_))
      obtain ⟨Ao73, co73, eo73⟩ := Kd.S_slice HO366.out
      (first | subst eo73 | (injection eo73 with f1_ f2_ f3_; have f4_ := f1_.symm; have f5_ := f3_.symm; clear f1_ f2_ f3_; subst f4_; subst f5_))
      refine hK.out _ _ ⟨(kC BK343.out 0).trans rfl, (kC BK343.out 1).trans rfl, (kC BK343.out 2).trans rfl, (kC BK343.out 3).trans rfl, (kC BK343.out 4).trans rfl, (kC BK343.out 5).trans rfl, (kC BK307.out 0).trans rfl, (kC BK307.out 1).trans rfl, (kC BK307.out 2).trans rfl, (kC BK307.out 3).trans rfl, (kC BK307.out 4).trans rfl, (kC BK307.out 5).trans rfl⟩ (fun hHeld => ?_)
      clear hK K
      refine norm_ (a' := ?_) ?_ ?_
      rotate_left
      ·show Act.put _ (some 51) _ = _
       simp only [Act.put, sI, sZ, sS, iW, jW]
       rfl
      refine one_ (i := 3) (N := some 52) #[T,T,T,T,F] rfl rfl (by kernel_rfl) (by decide) (fun K hK => ?_)
      refine goes_ Try.func48 (by kernel_rfl) rfl #[.agg #[.string t331, .slice Ao34 t332.length co34, .slice Ao35 t335.length co35, .int .i64 t338, .int .i64 t339, .slice Ao36 t340.length co36], .agg #[.string t355, .slice Ao71 t356.length co71, .slice Ao72 t359.length co72, .int .i64 t362, .int .i64 t363, .slice Ao73 t364.length co73]] (by rfl) rfl rfl lQ ?_
      with_reducible refine (laws_eqRaga.calls kj12 t331 _ _ t332 _ _ t335 t338 t339 _ _ t340 t355 _ _ t356 _ _ t359 t362 t363 _ _ t364 true _ ?side1 ?side2 ?side3 ?side4 ?side5 ?side6 ?side7 ?side8 ?side9 ?side10 ?side11 ?side12 A65.out).mono ?_
      (case side1 => exact cP (Kd.R_reads' HO_344001.out).2.2)
      (case side2 => exact (Kd.R_reads' HO_344001.out).2.1)
      (case side3 => exact cP (Kd.R_reads' HO_344002.out).2.2)
      (case side4 => exact (Kd.R_reads' HO_344002.out).2.1)
      (case side5 => exact cP (Kd.S_reads' HO_344005.out).2.2)
      (case side6 => exact (Kd.S_reads' HO_344005.out).2.1)
      (case side7 => exact cP (Kd.R_reads' HO358.out).2.2)
      (case side8 => exact (Kd.R_reads' HO358.out).2.1)
      (case side9 => exact cP (Kd.R_reads' HO361.out).2.2)
      (case side10 => exact (Kd.R_reads' HO361.out).2.1)
      (case side11 => exact cP (Kd.S_reads' HO366.out).2.2)
      (case side12 => exact (Kd.S_reads' HO366.out).2.1)
      rintro e w74 ⟨rfl, hb⟩
      refine ⟨_, rfl, ?_⟩
      have n0_ := Aside0.mk (rB (rQ HO_331002) hb)
      have n1_ := Aside0.mk (rB (rQ HO_331003) hb)
      have n2_ := Aside0.mk (rB (rQ HO_344001) hb)
      have n3_ := Aside0.mk (rB (rQ HO_344002) hb)
      have n4_ := Aside0.mk (Kd.S_below (by (with_reducible repeat (first | apply Kd.S_alloc | apply Kd.S_drewN | apply Kd.S_drew)); exact HO_344005.out) hb)
      have n5_ := Aside0.mk (rB (rQ HO_354002) hb)
      have n6_ := Aside0.mk (rB (rQ HO_354003) hb)
      have n7_ := Aside0.mk (rB (rQ HO358) hb)
      have n8_ := Aside0.mk (rB (rQ HO361) hb)
      have n9_ := Aside0.mk (Kd.S_below (by (with_reducible repeat (first | apply Kd.S_alloc | apply Kd.S_drewN | apply Kd.S_drew)); exact HO366.out) hb)
      have n10_ := Aside0.mk (kB (kQ BK307) hb)
      have n11_ := Aside0.mk (kB (kQ BK330) hb)
      have n12_ := Aside0.mk (kB (kQ BK343) hb)
      have n13_ := Aside0.mk (kB (kQ BK353) hb)
      have n14_ := Aside0.mk (bP (by repeat (first | (with_reducible first | exact HB.out | apply bA | apply bN | apply bD | refine bS ?_ GE307.out | refine bS ?_ GE330.out | refine bS ?_ GE343.out | refine bS ?_ GE353.out) | exact HB.out)) hb)
      clear HO_331002
      clear HO_331003
      clear HO_344001
      clear HO_344002
      clear HO_344005
      clear HO_354002
      clear HO_354003
      clear HO358
      clear HO361
      clear HO366
      clear BK307
      clear BK330
      clear BK343
      clear BK353
      clear HB
      have HO_331002 := n0_
      have HO_331003 := n1_
      have HO_344001 := n2_
      have HO_344002 := n3_
      have HO_344005 := n4_
      have HO_354002 := n5_
      have HO_354003 := n6_
      have HO358 := n7_
      have HO361 := n8_
      have HO366 := n9_
      have BK307 := n10_
      have BK330 := n11_
      have BK343 := n12_
      have BK353 := n13_
      have HB := n14_
      clear n0_ n1_ n2_ n3_ n4_ n5_ n6_ n7_ n8_ n9_ n10_ n11_ n12_ n13_ n14_
      (try clear hb)
      (try clear hb2)
      (try clear hk)
      (try clear hi)
      refine hK.out _ _ ⟨(kC BK343.out 0).trans rfl, (kC BK343.out 1).trans rfl, (kC BK343.out 2).trans rfl, (kC BK343.out 3).trans rfl, (kC BK343.out 4).trans rfl, (kC BK343.out 5).trans rfl, (kC BK307.out 0).trans rfl, (kC BK307.out 1).trans rfl, (kC BK307.out 2).trans rfl, (kC BK307.out 3).trans rfl, (kC BK307.out 4).trans rfl, (kC BK307.out 5).trans rfl⟩ (fun hHeld => ?_)
      clear hK K
      refine norm_ (a' := ?_) ?_ ?_
      rotate_left
      ·show Act.put _ (some 52) _ = _
       simp only [Act.put, sI, sZ, sS, iW, jW]
       rfl
      refine pure_ (i := 4) (N := some 53) (v := ?_) (a' := ?_) #[T,T,T,T,T] rfl rfl (by kernel_rfl) (fun _ _ _ h => h) (Or.inl ⟨by rfl, ?_⟩) ?_ ?_; rotate_left; (·intro w'; go_simp; with_reducible rfl); rotate_left; (·simp only [Act.put, sI, sZ, sS, iW, jW]; rfl)
      refine done_ (by kernel_rfl) ?_
      have hnb75 := NB343_307.out
      have hnc75 := NB307_343.out
      have hnb76 := NB343_330.out
      have hnc76 := NB330_343.out
      have hnb77 := NB343_353.out
      have hnc77 := NB353_343.out
      obtain ⟨hcz78_0, hcz78_1, hcz78_2, hcz78_3, hcz78_4, hcz78_5⟩ := cZ6 BK343.out
      obtain ⟨hfz78_0, hfz78_1, hfz78_2, hfz78_3, hfz78_4, hfz78_5⟩ := fZ6 BK343.out
      go_upto_region 14 with (first | ((with_reducible refine gC (f := 51) rfl ?_); refine goesL_ (some 56) rfl rfl Try.func51 (by kernel_rfl) rfl #[.agg #[.string t331, .slice Ao34 t332.length co34, .slice Ao35 t335.length co35, .int .i64 t338, .int .i64 t339, .slice Ao36 t340.length co36], .int .i64 1] rfl lQ ?_; (with_reducible refine (laws_markRaga.calls t331 (fun k_ => some k_ = (.slice Ao34 t332.length co34 : Value).ownBlock) (.slice Ao34 t332.length co34) t332 (fun k_ => some k_ = (.slice Ao35 t335.length co35 : Value).ownBlock) (.slice Ao35 t335.length co35) t335 t338 t339 ?okR_ (.slice Ao36 t340.length co36) t340 1 t368 w _ ?side1 ?side2 ?side3 ?side4 ?side5 ?side6 A67.out).mono ?_); (case side1 => repeat (first | (with_reducible first | exact HB.out | apply bA | apply bN | apply bD | refine bS ?_ GE307.out | refine bS ?_ GE330.out | refine bS ?_ GE343.out | refine bS ?_ GE353.out) | exact HB.out)); (case side2 => exact Kd.R_tight rfl HO_344001.out); (case side3 => exact fun k_ e_ => (HO_344001.out.1 k_ e_.symm).1.1.2.1); (case side4 => exact Kd.R_tight rfl HO_344002.out); (case side5 => exact fun k_ e_ => (HO_344002.out.1 k_ e_.symm).1.1.2.1); (case side6 => exact Kd.R_bound (Kd.S_R HO_344005.out)); rintro e w79 ⟨rfl, hb, hkp⟩; refine ⟨_, rfl, ?_⟩; have n0_ := Aside0.mk (rM (ok' := fun k_ => some k_ ≠ (.slice Ao43 t346.length co43 : Value).ownBlock ∧ some k_ ≠ (.slice Ao71 t356.length co71 : Value).ownBlock ∧ some k_ ≠ (.slice Ao72 t359.length co72 : Value).ownBlock) (Kd.R_keptB ((Kd.R_tight2 rfl HO_331002.out)) hkp (fun k_ hk_ hs_ => Or.elim hs_ (fun e_ => (hk_.2.1.1.1) e_) (fun e_ => Or.elim e_ (fun e_ => (hk_.2.1.1.2.1) e_) (fun e_ => (fun e_ => (e_.1.1.1.1.1) (hk_.1)) e_)))) (fun k_ hk_ => ⟨hk_.1.2.1.1.2.2, hk_.1.2.1.2, hk_.1.2.2⟩)); have n1_ := Aside0.mk (rM (ok' := fun k_ => some k_ ≠ (.slice Ao44 t349.length co44 : Value).ownBlock) (Kd.R_keptB ((Kd.R_tight2 rfl (Kd.R_apart' (Kd.R_apart' HO_331003.out (Kd.R_typed HO_344001.out) (by decide)) (Kd.R_typed HO_344002.out) (by decide)))) hkp (fun k_ hk_ hs_ => Or.elim hs_ (fun e_ => (hk_.2.1.2) e_) (fun e_ => Or.elim e_ (fun e_ => (hk_.2.2) e_) (fun e_ => (ror_ty (E := 22 :: ((Kd.slice 2 (Kd.int .i64))).E) HO_331003.out (hk_.1) (by decide)) e_)))) (fun k_ hk_ => hk_.1.2.1.1)); have n2_ := Aside0.mk (rM (ok' := fun k_ => some k_ ≠ (.slice Ao26 t323.length co26 : Value).ownBlock ∧ some k_ ≠ (.slice Ao71 t356.length co71 : Value).ownBlock ∧ some k_ ≠ (.slice Ao72 t359.length co72 : Value).ownBlock) (Kd.R_keptB ((Kd.R_tight2 rfl HO_354002.out)) hkp (fun k_ hk_ hs_ => Or.elim hs_ (fun e_ => (hk_.2.1.1.2.1) e_) (fun e_ => Or.elim e_ (fun e_ => (hk_.2.1.1.2.2) e_) (fun e_ => (fun e_ => (e_.1.1.1.1.2.2.2) (hk_.1)) e_)))) (fun k_ hk_ => ⟨hk_.1.2.1.1.1, hk_.1.2.1.2, hk_.1.2.2⟩)); have n3_ := Aside0.mk (rM (ok' := fun k_ => some k_ ≠ (.slice Ao27 t326.length co27 : Value).ownBlock) (Kd.R_keptB ((Kd.R_tight2 rfl (Kd.R_apart' (Kd.R_apart' HO_354003.out (Kd.R_typed HO_344001.out) (by decide)) (Kd.R_typed HO_344002.out) (by decide)))) hkp (fun k_ hk_ hs_ => Or.elim hs_ (fun e_ => (hk_.2.1.2) e_) (fun e_ => Or.elim e_ (fun e_ => (hk_.2.2) e_) (fun e_ => (ror_ty (E := 22 :: ((Kd.slice 2 (Kd.int .i64))).E) HO_354003.out (hk_.1) (by decide)) e_)))) (fun k_ hk_ => hk_.1.2.1.1)); have n4_ := Aside0.mk (blk_kept (kQ BK307) hkp (fun hs_ => Or.elim hs_ (fun e_ => (fun e_ => (Kd.R_ne HO_344001.out BK307.out (by decide)) e_) e_) (fun e_ => Or.elim e_ (fun e_ => (fun e_ => (Kd.R_ne HO_344002.out BK307.out (by decide)) e_) e_) (fun e_ => (ror_box (E := 22 :: ((Kd.slice 2 (Kd.int .i64))).E) (kQ BK307) (by decide)) e_)))); have n5_ := Aside0.mk (blk_kept (kQ BK330) hkp (fun hs_ => Or.elim hs_ (fun e_ => (fun e_ => (Kd.R_ne HO_344001.out BK330.out (by decide)) e_) e_) (fun e_ => Or.elim e_ (fun e_ => (fun e_ => (Kd.R_ne HO_344002.out BK330.out (by decide)) e_) e_) (fun e_ => (ror_box (E := 22 :: ((Kd.slice 2 (Kd.int .i64))).E) (kQ BK330) (by decide)) e_)))); have n6_ := Aside0.mk (blk_kept (kQ BK343) hkp (fun hs_ => Or.elim hs_ (fun e_ => (fun e_ => (Kd.R_ne HO_344001.out BK343.out (by decide)) e_) e_) (fun e_ => Or.elim e_ (fun e_ => (fun e_ => (Kd.R_ne HO_344002.out BK343.out (by decide)) e_) e_) (fun e_ => (ror_box (E := 22 :: ((Kd.slice 2 (Kd.int .i64))).E) (kQ BK343) (by decide)) e_)))); have n7_ := Aside0.mk (blk_kept (kQ BK353) hkp (fun hs_ => Or.elim hs_ (fun e_ => (fun e_ => (Kd.R_ne HO_344001.out BK353.out (by decide)) e_) e_) (fun e_ => Or.elim e_ (fun e_ => (fun e_ => (Kd.R_ne HO_344002.out BK353.out (by decide)) e_) e_) (fun e_ => (ror_box (E := 22 :: ((Kd.slice 2 (Kd.int .i64))).E) (kQ BK353) (by decide)) e_)))); have n8_ := Aside0.mk (rM (ok' := fun k_ => some k_ ≠ (.slice Ao26 t323.length co26 : Value).ownBlock ∧ some k_ ≠ (.slice Ao43 t346.length co43 : Value).ownBlock ∧ some k_ ≠ (.slice Ao72 t359.length co72 : Value).ownBlock) (Kd.R_keptB ((Kd.R_tight2 rfl HO358.out)) hkp (fun k_ hk_ hs_ => Or.elim hs_ (fun e_ => (hk_.2.1.1.2) e_) (fun e_ => Or.elim e_ (fun e_ => (hk_.2.1.2) e_) (fun e_ => (fun e_ => (e_.1.1.1.2) (hk_.1)) e_)))) (fun k_ hk_ => ⟨hk_.1.2.1.1.1.2, hk_.1.2.2, hk_.1.2.1.1.1.1⟩)); have n9_ := Aside0.mk (rM (ok' := fun k_ => some k_ ≠ (.slice Ao26 t323.length co26 : Value).ownBlock ∧ some k_ ≠ (.slice Ao43 t346.length co43 : Value).ownBlock ∧ some k_ ≠ (.slice Ao71 t356.length co71 : Value).ownBlock) (Kd.R_keptB ((Kd.R_tight2 rfl HO361.out)) hkp (fun k_ hk_ hs_ => Or.elim hs_ (fun e_ => (hk_.2.1.1.2) e_) (fun e_ => Or.elim e_ (fun e_ => (hk_.2.1.2) e_) (fun e_ => (fun e_ => (e_.1.1.2) (hk_.1)) e_)))) (fun k_ hk_ => ⟨hk_.1.2.1.1.1.2, hk_.1.2.2, hk_.1.2.1.1.1.1⟩)); have n10_ := Aside0.mk (hb); clear HO_331002; clear HO_331003; clear HO_354002; clear HO_354003; clear BK307; clear BK330; clear BK343; clear BK353; clear HO358; clear HO361; clear HB; clear HO366; clear HO_344001; clear HO_344002; clear HO_344005; have HO_331002 := n0_; have HO_331003 := n1_; have HO_354002 := n2_; have HO_354003 := n3_; have BK307 := n4_; have BK330 := n5_; have BK343 := n6_; have BK353 := n7_; have HO358 := n8_; have HO361 := n9_; have HB := n10_; clear n0_ n1_ n2_ n3_ n4_ n5_ n6_ n7_ n8_ n9_ n10_; (try clear hb); (try clear hkp)))
      (try simp only [Act.put, sI, sZ, sS])
      go_cut [69] (fun v69 wc => ∃ (kq : Nat) (x69_67 : Bool), v69 = .bool x69_67 ∧ Aside0 (laws_FnExactGrammarOf.j1 kq a1 a2 t329 x69_67 a0_0 l0_1 l0_2 a0_3 a0_4 l0_5 t321 t322 t323 t326 t344 t345 t346 t349 = some r) ∧ Aside0 (kq ≤ kj12) ∧ Aside0 (Kd.R (Kd.int .i64) 2 wc w.heap.size (fun k_ => some k_ ≠ ((.slice Ao43 t346.length co43) : Value).ownBlock) (.slice Ao26 t323.length co26) t323) ∧ Aside0 (Kd.R k67 67 wc w.heap.size (fun k_ => some k_ ≠ ((.slice Ao44 t349.length co44) : Value).ownBlock) (.slice Ao27 t326.length co27) t326) ∧ Aside0 (Kd.R (Kd.int .i64) 2 wc w.heap.size (fun k_ => some k_ ≠ ((.slice Ao26 t323.length co26) : Value).ownBlock) (.slice Ao43 t346.length co43) t346) ∧ Aside0 (Kd.R k67 67 wc w.heap.size (fun k_ => some k_ ≠ ((.slice Ao27 t326.length co27) : Value).ownBlock) (.slice Ao44 t349.length co44) t349) ∧ Aside0 (wc.heap[gb307]? = some (.cells #[.string a0_0, (.slice A0_1 l0_1.length c0_1), (.slice A0_2 l0_2.length c0_2), .int .i64 a0_3, .int .i64 a0_4, (.slice A0_5 l0_5.length c0_5)] 55 (0, 0))) ∧ Aside0 (wc.heap[gb330]? = some (.cells #[.int .i64 t321, .int .i64 t322, (.slice Ao26 t323.length co26), (.slice Ao27 t326.length co27)] 30 (0, 0))) ∧ Aside0 (wc.heap[gb353]? = some (.cells #[.int .i64 t344, .int .i64 t345, (.slice Ao43 t346.length co43), (.slice Ao44 t349.length co44)] 30 (0, 0))) ∧ Aside0 (Below w.heap.size w wc))
      case first =>
       have H := HC68.out
       clear HC68
       by_cases c80 : t368 < 0
       ·rw [if_pos c80] at H
        have c80b0 : decide (t368 < 0) = true := decide_eq_true c80
        clear c80
        (first | rw [c80b0] | (simp only [iW, jW]; rw [c80b0]) | skip)
        have H' := Aside0.mk H
        clear H
        go_wp2
        go_meet
        case rel => exact ⟨_, (true), eT, H', ⟨by have := HJ12.out; first | omega | exact Nat.le_refl _⟩, ⟨by (with_reducible repeat (first | apply rA | apply rN | apply rD)); exact rM HO_331002.out (fun _ hk => hk.1)⟩, ⟨rQ HO_331003⟩, ⟨by (with_reducible repeat (first | apply rA | apply rN | apply rD)); exact rM HO_354002.out (fun _ hk => hk.1)⟩, ⟨rQ HO_354003⟩, ⟨kQ BK307⟩, ⟨kQ BK330⟩, ⟨kQ BK353⟩, ⟨by repeat (first | (with_reducible first | exact HB.out | apply bA | apply bN | apply bD | refine bS ?_ GE307.out | refine bS ?_ GE330.out | refine bS ?_ GE343.out | refine bS ?_ GE353.out) | exact HB.out)⟩⟩
       ·rw [if_neg c80] at H
        have c80b0 : decide (t368 < 0) = false := decide_eq_false c80
        clear c80
        (first | rw [c80b0] | (simp only [iW, jW]; rw [c80b0]) | skip)
        replace H := Option.bind_eq_some_iff.mp H
        obtain ⟨t369, A810, H⟩ := H
        replace H : (if t369 = true then (laws_FnExactGrammarOf.j1 kj12 a1 a2 t329 (t352 != t329) a0_0 l0_1 l0_2 a0_3 a0_4 l0_5 t321 t322 t323 t326 t344 t345 t346 t349) else (laws_FnExactGrammarOf.j1 kj12 a1 a2 t329 true a0_0 l0_1 l0_2 a0_3 a0_4 l0_5 t321 t322 t323 t326 t344 t345 t346 t349)) = some r := H
        have A81 := Aside0.mk A810
        clear A810
        by_cases c82 : t369 = true
        ·subst c82
         have H1 : (laws_FnExactGrammarOf.j1 kj12 a1 a2 t329 (t352 != t329) a0_0 l0_1 l0_2 a0_3 a0_4 l0_5 t321 t322 t323 t326 t344 t345 t346 t349) = some r := by rw [if_pos rfl] at H; exact H
         clear H
         have H := H1
         clear H1
         have H' := Aside0.mk H
         clear H
         have hnb83 := NB353_307.out
         have hnc83 := NB307_353.out
         have hnb84 := NB353_330.out
         have hnc84 := NB330_353.out
         have hnb85 := NB353_343.out
         have hnc85 := NB343_353.out
         obtain ⟨hcz86_0, hcz86_1, hcz86_2, hcz86_3⟩ := cZ4 BK353.out
         obtain ⟨hfz86_0, hfz86_1, hfz86_2, hfz86_3⟩ := fZ4 BK353.out
         have hnb87 := NB330_307.out
         have hnc87 := NB307_330.out
         have hnb88 := NB330_343.out
         have hnc88 := NB343_330.out
         obtain ⟨hcz89_0, hcz89_1, hcz89_2, hcz89_3⟩ := cZ4 BK330.out
         obtain ⟨hfz89_0, hfz89_1, hfz89_2, hfz89_3⟩ := fZ4 BK330.out
         go_wp2_with (first | (go_at_call 19; (with_reducible refine (laws_eqGrammar.calls kj12 t344 t345 _ _ t346 _ _ t349 t321 t322 _ _ t323 _ _ t326 true _ ?side1 ?side2 ?side3 ?side4 ?side5 ?side6 ?side7 ?side8 A81.out).mono ?_); (case side1 => exact cP (Kd.R_reads' HO_354002.out).2.2); (case side2 => exact (Kd.R_reads' HO_354002.out).2.1); (case side3 => exact cP (Kd.R_reads' HO_354003.out).2.2); (case side4 => exact (Kd.R_reads' HO_354003.out).2.1); (case side5 => exact cP (Kd.R_reads' HO_331002.out).2.2); (case side6 => exact (Kd.R_reads' HO_331002.out).2.1); (case side7 => exact cP (Kd.R_reads' HO_331003.out).2.2); (case side8 => exact (Kd.R_reads' HO_331003.out).2.1); rintro e w90 ⟨rfl, hb⟩; have n0_ := Aside0.mk (rB (rQ HO_331002) hb); have n1_ := Aside0.mk (rB (rQ HO_331003) hb); have n2_ := Aside0.mk (rB (rQ HO_354002) hb); have n3_ := Aside0.mk (rB (rQ HO_354003) hb); have n4_ := Aside0.mk (rB (rQ HO358) hb); have n5_ := Aside0.mk (rB (rQ HO361) hb); have n6_ := Aside0.mk (kB (kQ BK307) hb); have n7_ := Aside0.mk (kB (kQ BK330) hb); have n8_ := Aside0.mk (kB (kQ BK343) hb); have n9_ := Aside0.mk (kB (kQ BK353) hb); have n10_ := Aside0.mk (bP (by repeat (first | (with_reducible first | exact HB.out | apply bA | apply bN | apply bD | refine bS ?_ GE307.out | refine bS ?_ GE330.out | refine bS ?_ GE343.out | refine bS ?_ GE353.out) | exact HB.out)) hb); clear HO_331002; clear HO_331003; clear HO_354002; clear HO_354003; clear HO358; clear HO361; clear BK307; clear BK330; clear BK343; clear BK353; clear HB; have HO_331002 := n0_; have HO_331003 := n1_; have HO_354002 := n2_; have HO_354003 := n3_; have HO358 := n4_; have HO361 := n5_; have BK307 := n6_; have BK330 := n7_; have BK343 := n8_; have BK353 := n9_; have HB := n10_; clear n0_ n1_ n2_ n3_ n4_ n5_ n6_ n7_ n8_ n9_ n10_; (try clear hb); (try clear hb2); (try clear hk); (try clear hi)))
         go_meet
         case rel => exact ⟨_, ((t352 != t329)), eT, H', ⟨by have := HJ12.out; first | omega | exact Nat.le_refl _⟩, ⟨by (with_reducible repeat (first | apply rA | apply rN | apply rD)); exact rM HO_331002.out (fun _ hk => hk.1)⟩, ⟨rQ HO_331003⟩, ⟨by (with_reducible repeat (first | apply rA | apply rN | apply rD)); exact rM HO_354002.out (fun _ hk => hk.1)⟩, ⟨rQ HO_354003⟩, ⟨kQ BK307⟩, ⟨kQ BK330⟩, ⟨kQ BK353⟩, ⟨by repeat (first | (with_reducible first | exact HB.out | apply bA | apply bN | apply bD | refine bS ?_ GE307.out | refine bS ?_ GE330.out | refine bS ?_ GE343.out | refine bS ?_ GE353.out) | exact HB.out)⟩⟩
        ·replace c82 := Bool.eq_false_iff.mpr c82
         subst c82
         have H1 : (laws_FnExactGrammarOf.j1 kj12 a1 a2 t329 true a0_0 l0_1 l0_2 a0_3 a0_4 l0_5 t321 t322 t323 t326 t344 t345 t346 t349) = some r := by rw [if_neg (show ¬ (false = true) by decide)] at H; exact H
         clear H
         have H := H1
         clear H1
         have H' := Aside0.mk H
         clear H
         have hnb91 := NB353_307.out
         have hnc91 := NB307_353.out
         have hnb92 := NB353_330.out
         have hnc92 := NB330_353.out
         have hnb93 := NB353_343.out
         have hnc93 := NB343_353.out
         obtain ⟨hcz94_0, hcz94_1, hcz94_2, hcz94_3⟩ := cZ4 BK353.out
         obtain ⟨hfz94_0, hfz94_1, hfz94_2, hfz94_3⟩ := fZ4 BK353.out
         have hnb95 := NB330_307.out
         have hnc95 := NB307_330.out
         have hnb96 := NB330_343.out
         have hnc96 := NB343_330.out
         obtain ⟨hcz97_0, hcz97_1, hcz97_2, hcz97_3⟩ := cZ4 BK330.out
         obtain ⟨hfz97_0, hfz97_1, hfz97_2, hfz97_3⟩ := fZ4 BK330.out
         go_wp2_with (first | (go_at_call 19; (with_reducible refine (laws_eqGrammar.calls kj12 t344 t345 _ _ t346 _ _ t349 t321 t322 _ _ t323 _ _ t326 false _ ?side1 ?side2 ?side3 ?side4 ?side5 ?side6 ?side7 ?side8 A81.out).mono ?_); (case side1 => exact cP (Kd.R_reads' HO_354002.out).2.2); (case side2 => exact (Kd.R_reads' HO_354002.out).2.1); (case side3 => exact cP (Kd.R_reads' HO_354003.out).2.2); (case side4 => exact (Kd.R_reads' HO_354003.out).2.1); (case side5 => exact cP (Kd.R_reads' HO_331002.out).2.2); (case side6 => exact (Kd.R_reads' HO_331002.out).2.1); (case side7 => exact cP (Kd.R_reads' HO_331003.out).2.2); (case side8 => exact (Kd.R_reads' HO_331003.out).2.1); rintro e w98 ⟨rfl, hb⟩; have n0_ := Aside0.mk (rB (rQ HO_331002) hb); have n1_ := Aside0.mk (rB (rQ HO_331003) hb); have n2_ := Aside0.mk (rB (rQ HO_354002) hb); have n3_ := Aside0.mk (rB (rQ HO_354003) hb); have n4_ := Aside0.mk (rB (rQ HO358) hb); have n5_ := Aside0.mk (rB (rQ HO361) hb); have n6_ := Aside0.mk (kB (kQ BK307) hb); have n7_ := Aside0.mk (kB (kQ BK330) hb); have n8_ := Aside0.mk (kB (kQ BK343) hb); have n9_ := Aside0.mk (kB (kQ BK353) hb); have n10_ := Aside0.mk (bP (by repeat (first | (with_reducible first | exact HB.out | apply bA | apply bN | apply bD | refine bS ?_ GE307.out | refine bS ?_ GE330.out | refine bS ?_ GE343.out | refine bS ?_ GE353.out) | exact HB.out)) hb); clear HO_331002; clear HO_331003; clear HO_354002; clear HO_354003; clear HO358; clear HO361; clear BK307; clear BK330; clear BK343; clear BK353; clear HB; have HO_331002 := n0_; have HO_331003 := n1_; have HO_354002 := n2_; have HO_354003 := n3_; have HO358 := n4_; have HO361 := n5_; have BK307 := n6_; have BK330 := n7_; have BK343 := n8_; have BK353 := n9_; have HB := n10_; clear n0_ n1_ n2_ n3_ n4_ n5_ n6_ n7_ n8_ n9_ n10_; (try clear hb); (try clear hb2); (try clear hk); (try clear hi)))
         go_meet
         case rel => exact ⟨_, (true), eT, H', ⟨by have := HJ12.out; first | omega | exact Nat.le_refl _⟩, ⟨by (with_reducible repeat (first | apply rA | apply rN | apply rD)); exact rM HO_331002.out (fun _ hk => hk.1)⟩, ⟨rQ HO_331003⟩, ⟨by (with_reducible repeat (first | apply rA | apply rN | apply rD)); exact rM HO_354002.out (fun _ hk => hk.1)⟩, ⟨rQ HO_354003⟩, ⟨kQ BK307⟩, ⟨kQ BK330⟩, ⟨kQ BK353⟩, ⟨by repeat (first | (with_reducible first | exact HB.out | apply bA | apply bN | apply bD | refine bS ?_ GE307.out | refine bS ?_ GE330.out | refine bS ?_ GE343.out | refine bS ?_ GE353.out) | exact HB.out)⟩⟩
      case rest =>
       clear HC68
       try clear c1
       try clear c2
       try clear p2
       try clear c3
       try clear c4
       try clear c5
       try clear c5b0
       try clear c6
       try clear c7
       try clear c8
       try clear c9
       try clear c14
       try clear c19
       try clear c24
       try clear c31
       try clear c32
       try clear c39
       try clear c40
       try clear c41
       try clear c44
       try clear c46
       try clear c47
       try clear c48
       try clear c49
       try clear c50
       try clear c51
       try clear c52
       try clear c55
       try clear c56
       try clear c57
       try clear c59
       try clear c60
       try clear c63
       try clear c66
       try clear c75
       try clear c76
       try clear c77
       try clear c80
       try clear c80b0
       try clear c82
       try clear c83
       try clear c84
       try clear c85
       try clear c87
       try clear c88
       try clear c91
       try clear c92
       try clear c93
       try clear c95
       try clear c96
       try clear hcz15_0
       try clear hcz15_1
       try clear hcz15_2
       try clear hcz15_3
       try clear hcz15_4
       try clear hcz15_5
       try clear hcz17_0
       try clear hcz17_1
       try clear hcz17_2
       try clear hcz17_3
       try clear hcz17_4
       try clear hcz17_5
       try clear hcz25_0
       try clear hcz25_1
       try clear hcz25_2
       try clear hcz25_3
       try clear hcz28_0
       try clear hcz28_1
       try clear hcz28_2
       try clear hcz28_3
       try clear hcz28_4
       try clear hcz28_5
       try clear hcz33_0
       try clear hcz33_1
       try clear hcz33_2
       try clear hcz33_3
       try clear hcz33_4
       try clear hcz33_5
       try clear hcz42_0
       try clear hcz42_1
       try clear hcz42_2
       try clear hcz42_3
       try clear hcz50_0
       try clear hcz50_1
       try clear hcz50_2
       try clear hcz50_3
       try clear hcz53_0
       try clear hcz53_1
       try clear hcz53_2
       try clear hcz53_3
       try clear hcz58_0
       try clear hcz58_1
       try clear hcz58_2
       try clear hcz58_3
       try clear hcz61_0
       try clear hcz61_1
       try clear hcz61_2
       try clear hcz61_3
       try clear hcz78_0
       try clear hcz78_1
       try clear hcz78_2
       try clear hcz78_3
       try clear hcz78_4
       try clear hcz78_5
       try clear hcz7_0
       try clear hcz7_1
       try clear hcz7_2
       try clear hcz7_3
       try clear hcz7_4
       try clear hcz7_5
       try clear hcz86_0
       try clear hcz86_1
       try clear hcz86_2
       try clear hcz86_3
       try clear hcz89_0
       try clear hcz89_1
       try clear hcz89_2
       try clear hcz89_3
       try clear hcz94_0
       try clear hcz94_1
       try clear hcz94_2
       try clear hcz94_3
       try clear hcz97_0
       try clear hcz97_1
       try clear hcz97_2
       try clear hcz97_3
       try clear hfz15_0
       try clear hfz15_1
       try clear hfz15_2
       try clear hfz15_3
       try clear hfz15_4
       try clear hfz15_5
       try clear hfz17_0
       try clear hfz17_1
       try clear hfz17_2
       try clear hfz17_3
       try clear hfz17_4
       try clear hfz17_5
       try clear hfz25_0
       try clear hfz25_1
       try clear hfz25_2
       try clear hfz25_3
       try clear hfz28_0
       try clear hfz28_1
       try clear hfz28_2
       try clear hfz28_3
       try clear hfz28_4
       try clear hfz28_5
       try clear hfz33_0
       try clear hfz33_1
       try clear hfz33_2
       try clear hfz33_3
       try clear hfz33_4
       try clear hfz33_5
       try clear hfz42_0
       try clear hfz42_1
       try clear hfz42_2
       try clear hfz42_3
       try clear hfz50_0
       try clear hfz50_1
       try clear hfz50_2
       try clear hfz50_3
       try clear hfz53_0
       try clear hfz53_1
       try clear hfz53_2
       try clear hfz53_3
       try clear hfz58_0
       try clear hfz58_1
       try clear hfz58_2
       try clear hfz58_3
       try clear hfz61_0
       try clear hfz61_1
       try clear hfz61_2
       try clear hfz61_3
       try clear hfz78_0
       try clear hfz78_1
       try clear hfz78_2
       try clear hfz78_3
       try clear hfz78_4
       try clear hfz78_5
       try clear hfz7_0
       try clear hfz7_1
       try clear hfz7_2
       try clear hfz7_3
       try clear hfz7_4
       try clear hfz7_5
       try clear hfz86_0
       try clear hfz86_1
       try clear hfz86_2
       try clear hfz86_3
       try clear hfz89_0
       try clear hfz89_1
       try clear hfz89_2
       try clear hfz89_3
       try clear hfz94_0
       try clear hfz94_1
       try clear hfz94_2
       try clear hfz94_3
       try clear hfz97_0
       try clear hfz97_1
       try clear hfz97_2
       try clear hfz97_3
       try clear p2
       obtain ⟨kq, x69_67, rfl, HA, HJ67, HO_331002, HO_331003, HO_354002, HO_354003, BK307, BK330, BK353, HB⟩ := hcut
       cases kq with
       | zero => exact absurd HA.out (by simp [laws_FnExactGrammarOf.j1])
       | succ kj67 =>
        have H := HA.out
        clear HA
        simp only [laws_FnExactGrammarOf.j1] at H
        by_cases c99 : x69_67 = true
        ·subst c99
         have H1 : (some false) = some r := by rw [if_pos rfl] at H; exact H
         clear H
         have H := H1
         clear H1
         obtain rfl := Option.some.inj H
         go_wp2
         go_ret
         exact ⟨by first | rfl | (simp [errW_none, errW_some] <;> rfl) | (simp [*, errW_none, errW_some] <;> rfl), by repeat (first | (with_reducible first | exact HB.out | apply bA | apply bN | apply bD | refine bS ?_ GE307.out | refine bS ?_ GE330.out | refine bS ?_ GE353.out) | exact HB.out)⟩
        ·replace c99 := Bool.eq_false_iff.mpr c99
         subst c99
         have H1 : ((laws_markGrammar.f kj67 t344 t345 t346 t349 1).bind fun bt370 => ((laws_heldGrammar.f kj67 t344 t345 bt370.2.1 bt370.2.2 1).bind fun t373 => (if t373 < 0 then (some false) else (if t373 = bt370.1 then ((laws_toRaga.f kj67 a0_0 l0_1 l0_2 a0_3 a0_4 l0_5).bind fun bt374 => ((impl_GrammarOf.f kj67 bt374.1 bt374.2.1 bt374.2.2.1 bt374.2.2.2.1 bt374.2.2.2.2.1 bt374.2.2.2.2.2 a1 a2).bind fun bt386 => ((laws_eqGrammar.f kj67 bt386.1 bt386.2.1 bt386.2.2.1 bt386.2.2.2.1 t321 t322 t323 t326).bind fun t396 => (if t396 = true then (laws_FnExactGrammarOf.j2 kj67 bt370.1 (bt386.2.2.2.2 != t329) t344 t345 bt370.2.1 bt370.2.2) else (laws_FnExactGrammarOf.j2 kj67 bt370.1 true t344 t345 bt370.2.1 bt370.2.2))))) else (some false))))) = some r := by rw [if_neg (show ¬ (false = true) by decide)] at H; exact H
         clear H
         have H := H1
         clear H1
         replace H := Option.bind_eq_some_iff.mp H
         obtain ⟨⟨t370, t371, t372⟩, A1000, H⟩ := H
         replace H : ((laws_heldGrammar.f kj67 t344 t345 t371 t372 1).bind fun t373 => (if t373 < 0 then (some false) else (if t373 = t370 then ((laws_toRaga.f kj67 a0_0 l0_1 l0_2 a0_3 a0_4 l0_5).bind fun bt374 => ((impl_GrammarOf.f kj67 bt374.1 bt374.2.1 bt374.2.2.1 bt374.2.2.2.1 bt374.2.2.2.2.1 bt374.2.2.2.2.2 a1 a2).bind fun bt386 => ((laws_eqGrammar.f kj67 bt386.1 bt386.2.1 bt386.2.2.1 bt386.2.2.2.1 t321 t322 t323 t326).bind fun t396 => (if t396 = true then (laws_FnExactGrammarOf.j2 kj67 t370 (bt386.2.2.2.2 != t329) t344 t345 t371 t372) else (laws_FnExactGrammarOf.j2 kj67 t370 true t344 t345 t371 t372))))) else (some false)))) = some r := H
         have A100 := Aside0.mk A1000
         clear A1000
         replace H := Option.bind_eq_some_iff.mp H
         obtain ⟨t373, A1010, H⟩ := H
         replace H : (if t373 < 0 then (some false) else (if t373 = t370 then ((laws_toRaga.f kj67 a0_0 l0_1 l0_2 a0_3 a0_4 l0_5).bind fun bt374 => ((impl_GrammarOf.f kj67 bt374.1 bt374.2.1 bt374.2.2.1 bt374.2.2.2.1 bt374.2.2.2.2.1 bt374.2.2.2.2.2 a1 a2).bind fun bt386 => ((laws_eqGrammar.f kj67 bt386.1 bt386.2.1 bt386.2.2.1 bt386.2.2.2.1 t321 t322 t323 t326).bind fun t396 => (if t396 = true then (laws_FnExactGrammarOf.j2 kj67 t370 (bt386.2.2.2.2 != t329) t344 t345 t371 t372) else (laws_FnExactGrammarOf.j2 kj67 t370 true t344 t345 t371 t372))))) else (some false))) = some r := H
         have A101 := Aside0.mk A1010
         clear A1010
         by_cases c102 : t373 < 0
         ·rw [if_pos c102] at H
          have c102b0 : decide (t373 < 0) = true := decide_eq_true c102
          clear c102
          obtain rfl := Option.some.inj H
          have hnb103 := NB353_307.out
          have hnc103 := NB307_353.out
          have hnb104 := NB353_330.out
          have hnc104 := NB330_353.out
          obtain ⟨hcz105_0, hcz105_1, hcz105_2, hcz105_3⟩ := cZ4 BK353.out
          obtain ⟨hfz105_0, hfz105_1, hfz105_2, hfz105_3⟩ := fZ4 BK353.out
          go_wp2_with (first | ((with_reducible refine gC (f := 30) rfl ?_); refine goesL_ (some 72) rfl rfl Try.func30 (by kernel_rfl) rfl #[.agg #[.int .i64 t344, .int .i64 t345, .slice Ao43 t346.length co43, .slice Ao44 t349.length co44], .int .i64 1] rfl lQ ?_; (with_reducible refine (laws_markGrammar.calls kj67 t344 t345 (fun k_ => some k_ = (.slice Ao43 t346.length co43 : Value).ownBlock) (.slice Ao43 t346.length co43) t346 (fun k_ => some k_ = (.slice Ao44 t349.length co44 : Value).ownBlock) (.slice Ao44 t349.length co44) t349 1 t370 t371 t372 w _ ?side1 ?side2 ?side3 A100.out).mono ?_); (case side1 => repeat (first | (with_reducible first | exact HB.out | apply bA | apply bN | apply bD | refine bS ?_ GE307.out | refine bS ?_ GE330.out | refine bS ?_ GE353.out) | exact HB.out)); (case side2 => exact Kd.R_tight rfl HO_354002.out); (case side3 => exact Kd.R_tight rfl HO_354003.out); rintro e w106 ⟨rfl, hy0, hy1, hb, hkp⟩; refine ⟨_, rfl, ?_⟩; have n0_ := Aside0.mk (rM (ok' := fun k_ => some k_ ≠ (.slice Ao43 t346.length co43 : Value).ownBlock) (Kd.R_keptB ((Kd.R_apart' HO_331002.out (Kd.R_typed HO_354003.out) (by decide))) hkp (fun k_ hk_ hs_ => Or.elim hs_ (fun e_ => (hk_.1) e_) (fun e_ => (hk_.2) e_))) (fun k_ hk_ => hk_.1.1)); have n1_ := Aside0.mk (rM (ok' := fun k_ => some k_ ≠ (.slice Ao44 t349.length co44 : Value).ownBlock) (Kd.R_keptB ((Kd.R_apart' HO_331003.out (Kd.R_typed HO_354002.out) (by decide))) hkp (fun k_ hk_ hs_ => Or.elim hs_ (fun e_ => (hk_.2) e_) (fun e_ => (hk_.1) e_))) (fun k_ hk_ => hk_.1.1)); have n2_ := Aside0.mk (Kd.R_reok rfl hy0 (fun k_ e_ => HO_354002.out.1 k_ e_)); have n3_ := Aside0.mk (Kd.R_reok rfl hy1 (fun k_ e_ => HO_354003.out.1 k_ e_)); have n4_ := Aside0.mk (blk_kept (kQ BK307) hkp (fun hs_ => Or.elim hs_ (fun e_ => (fun e_ => (Kd.R_ne HO_354002.out BK307.out (by decide)) e_) e_) (fun e_ => (fun e_ => (Kd.R_ne HO_354003.out BK307.out (by decide)) e_) e_))); have n5_ := Aside0.mk (blk_kept (kQ BK330) hkp (fun hs_ => Or.elim hs_ (fun e_ => (fun e_ => (Kd.R_ne HO_354002.out BK330.out (by decide)) e_) e_) (fun e_ => (fun e_ => (Kd.R_ne HO_354003.out BK330.out (by decide)) e_) e_))); have n6_ := Aside0.mk (blk_kept (kQ BK353) hkp (fun hs_ => Or.elim hs_ (fun e_ => (fun e_ => (Kd.R_ne HO_354002.out BK353.out (by decide)) e_) e_) (fun e_ => (fun e_ => (Kd.R_ne HO_354003.out BK353.out (by decide)) e_) e_))); have n7_ := Aside0.mk (hb); clear HO_331002; clear HO_331003; clear HO_354002; clear HO_354003; clear BK307; clear BK330; clear BK353; clear HB; have HO_331002 := n0_; have HO_331003 := n1_; have HO_354002 := n2_; have HO_354003 := n3_; have BK307 := n4_; have BK330 := n5_; have BK353 := n6_; have HB := n7_; clear n0_ n1_ n2_ n3_ n4_ n5_ n6_ n7_; (try clear hb); (try clear hkp); (try clear hy0); (try clear hy1); obtain ⟨hcz107_0, hcz107_1, hcz107_2, hcz107_3⟩ := cZ4 BK353.out; obtain ⟨hfz107_0, hfz107_1, hfz107_2, hfz107_3⟩ := fZ4 BK353.out) | ((with_reducible refine gC (f := 43) rfl ?_); refine goesL_ (some 75) rfl rfl Try.func43 (by kernel_rfl) rfl #[.agg #[.int .i64 t344, .int .i64 t345, .slice Ao43 t371.length co43, .slice Ao44 t372.length co44], .int .i64 1] rfl (by (try simp only [List.map_toArray, List.map_cons, List.map_nil]); first | done | (rw [show t371.length = t346.length from (Kd.R_reads' HO_354002.out).1.symm, show t372.length = t349.length from (Kd.R_reads' HO_354003.out).1.symm] <;> rfl) | rfl | (simp only [List.length_drop, List.length_take]; rfl)) ?_; (with_reducible refine (laws_heldGrammar.calls kj67 t344 t345 _ _ t371 _ _ t372 1 t373 _ ?side1 ?side2 ?side3 ?side4 A101.out).mono ?_); (case side1 => exact cP (Kd.R_reads' HO_354002.out).2.2); (case side2 => rw [show t371.length = t346.length from (Kd.R_reads' HO_354002.out).1.symm]; exact (Kd.R_reads' HO_354002.out).2.1); (case side3 => exact cP (Kd.R_reads' HO_354003.out).2.2); (case side4 => rw [show t372.length = t349.length from (Kd.R_reads' HO_354003.out).1.symm]; exact (Kd.R_reads' HO_354003.out).2.1); rintro e w108 ⟨rfl, hb⟩; refine ⟨_, rfl, ?_⟩; have n0_ := Aside0.mk (rB (rQ HO_331002) hb); have n1_ := Aside0.mk (rB (rQ HO_331003) hb); have n2_ := Aside0.mk (rB (rQ HO_354002) hb); have n3_ := Aside0.mk (rB (rQ HO_354003) hb); have n4_ := Aside0.mk (kB (kQ BK307) hb); have n5_ := Aside0.mk (kB (kQ BK330) hb); have n6_ := Aside0.mk (kB (kQ BK353) hb); have n7_ := Aside0.mk (bP (by repeat (first | (with_reducible first | exact HB.out | apply bA | apply bN | apply bD | refine bS ?_ GE307.out | refine bS ?_ GE330.out | refine bS ?_ GE353.out) | exact HB.out)) hb); clear HO_331002; clear HO_331003; clear HO_354002; clear HO_354003; clear BK307; clear BK330; clear BK353; clear HB; have HO_331002 := n0_; have HO_331003 := n1_; have HO_354002 := n2_; have HO_354003 := n3_; have BK307 := n4_; have BK330 := n5_; have BK353 := n6_; have HB := n7_; clear n0_ n1_ n2_ n3_ n4_ n5_ n6_ n7_; (try clear hb); (try clear hb2); (try clear hk); (try clear hi)))
          go_ret
          exact ⟨by first | rfl | (simp [errW_none, errW_some] <;> rfl) | (simp [*, errW_none, errW_some] <;> rfl), by repeat (first | (with_reducible first | exact HB.out | apply bA | apply bN | apply bD | refine bS ?_ GE307.out | refine bS ?_ GE330.out | refine bS ?_ GE353.out) | exact HB.out)⟩
         ·rw [if_neg c102] at H
          have c102b0 : decide (t373 < 0) = false := decide_eq_false c102
          clear c102
          by_cases c109 : t373 = t370
          ·rw [if_pos c109] at H
           have c109b0 : (t373 == t370) = true := beq_iff_eq.mpr c109
           have c109b1 : (t373 != t370) = false := bne_eq_false_iff_eq.mpr c109
           clear c109
           replace H := Option.bind_eq_some_iff.mp H
           obtain ⟨⟨t374, t375, t378, t381, t382, t383⟩, A1100, H⟩ := H
           replace H : ((impl_GrammarOf.f kj67 t374 t375 t378 t381 t382 t383 a1 a2).bind fun bt386 => ((laws_eqGrammar.f kj67 bt386.1 bt386.2.1 bt386.2.2.1 bt386.2.2.2.1 t321 t322 t323 t326).bind fun t396 => (if t396 = true then (laws_FnExactGrammarOf.j2 kj67 t370 (bt386.2.2.2.2 != t329) t344 t345 t371 t372) else (laws_FnExactGrammarOf.j2 kj67 t370 true t344 t345 t371 t372)))) = some r := H
           have A110 := Aside0.mk A1100
           clear A1100
           replace H := Option.bind_eq_some_iff.mp H
           obtain ⟨⟨t386, t387, t388, t391, t394⟩, A1110, H⟩ := H
           replace H : ((laws_eqGrammar.f kj67 t386 t387 t388 t391 t321 t322 t323 t326).bind fun t396 => (if t396 = true then (laws_FnExactGrammarOf.j2 kj67 t370 (t394 != t329) t344 t345 t371 t372) else (laws_FnExactGrammarOf.j2 kj67 t370 true t344 t345 t371 t372))) = some r := H
           have A111 := Aside0.mk A1110
           clear A1110
           have HC112 := Aside0.mk H
           clear H
           have hnb113 := NB353_307.out
           have hnc113 := NB307_353.out
           have hnb114 := NB353_330.out
           have hnc114 := NB330_353.out
           obtain ⟨hcz115_0, hcz115_1, hcz115_2, hcz115_3⟩ := cZ4 BK353.out
           obtain ⟨hfz115_0, hfz115_1, hfz115_2, hfz115_3⟩ := fZ4 BK353.out
           go_upto_region 25 with (first | ((with_reducible refine gC (f := 30) rfl ?_); refine goesL_ (some 72) rfl rfl Try.func30 (by kernel_rfl) rfl #[.agg #[.int .i64 t344, .int .i64 t345, .slice Ao43 t346.length co43, .slice Ao44 t349.length co44], .int .i64 1] rfl lQ ?_; (with_reducible refine (laws_markGrammar.calls kj67 t344 t345 (fun k_ => some k_ = (.slice Ao43 t346.length co43 : Value).ownBlock) (.slice Ao43 t346.length co43) t346 (fun k_ => some k_ = (.slice Ao44 t349.length co44 : Value).ownBlock) (.slice Ao44 t349.length co44) t349 1 t370 t371 t372 w _ ?side1 ?side2 ?side3 A100.out).mono ?_); (case side1 => repeat (first | (with_reducible first | exact HB.out | apply bA | apply bN | apply bD | refine bS ?_ GE307.out | refine bS ?_ GE330.out | refine bS ?_ GE353.out) | exact HB.out)); (case side2 => exact Kd.R_tight rfl HO_354002.out); (case side3 => exact Kd.R_tight rfl HO_354003.out); rintro e w116 ⟨rfl, hy0, hy1, hb, hkp⟩; refine ⟨_, rfl, ?_⟩; have n0_ := Aside0.mk (rM (ok' := fun k_ => some k_ ≠ (.slice Ao43 t346.length co43 : Value).ownBlock) (Kd.R_keptB ((Kd.R_apart' HO_331002.out (Kd.R_typed HO_354003.out) (by decide))) hkp (fun k_ hk_ hs_ => Or.elim hs_ (fun e_ => (hk_.1) e_) (fun e_ => (hk_.2) e_))) (fun k_ hk_ => hk_.1.1)); have n1_ := Aside0.mk (rM (ok' := fun k_ => some k_ ≠ (.slice Ao44 t349.length co44 : Value).ownBlock) (Kd.R_keptB ((Kd.R_apart' HO_331003.out (Kd.R_typed HO_354002.out) (by decide))) hkp (fun k_ hk_ hs_ => Or.elim hs_ (fun e_ => (hk_.2) e_) (fun e_ => (hk_.1) e_))) (fun k_ hk_ => hk_.1.1)); have n2_ := Aside0.mk (Kd.R_reok rfl hy0 (fun k_ e_ => HO_354002.out.1 k_ e_)); have n3_ := Aside0.mk (Kd.R_reok rfl hy1 (fun k_ e_ => HO_354003.out.1 k_ e_)); have n4_ := Aside0.mk (blk_kept (kQ BK307) hkp (fun hs_ => Or.elim hs_ (fun e_ => (fun e_ => (Kd.R_ne HO_354002.out BK307.out (by decide)) e_) e_) (fun e_ => (fun e_ => (Kd.R_ne HO_354003.out BK307.out (by decide)) e_) e_))); have n5_ := Aside0.mk (blk_kept (kQ BK330) hkp (fun hs_ => Or.elim hs_ (fun e_ => (fun e_ => (Kd.R_ne HO_354002.out BK330.out (by decide)) e_) e_) (fun e_ => (fun e_ => (Kd.R_ne HO_354003.out BK330.out (by decide)) e_) e_))); have n6_ := Aside0.mk (blk_kept (kQ BK353) hkp (fun hs_ => Or.elim hs_ (fun e_ => (fun e_ => (Kd.R_ne HO_354002.out BK353.out (by decide)) e_) e_) (fun e_ => (fun e_ => (Kd.R_ne HO_354003.out BK353.out (by decide)) e_) e_))); have n7_ := Aside0.mk (hb); clear HO_331002; clear HO_331003; clear HO_354002; clear HO_354003; clear BK307; clear BK330; clear BK353; clear HB; have HO_331002 := n0_; have HO_331003 := n1_; have HO_354002 := n2_; have HO_354003 := n3_; have BK307 := n4_; have BK330 := n5_; have BK353 := n6_; have HB := n7_; clear n0_ n1_ n2_ n3_ n4_ n5_ n6_ n7_; (try clear hb); (try clear hkp); (try clear hy0); (try clear hy1); obtain ⟨hcz117_0, hcz117_1, hcz117_2, hcz117_3⟩ := cZ4 BK353.out; obtain ⟨hfz117_0, hfz117_1, hfz117_2, hfz117_3⟩ := fZ4 BK353.out) | ((with_reducible refine gC (f := 43) rfl ?_); refine goesL_ (some 75) rfl rfl Try.func43 (by kernel_rfl) rfl #[.agg #[.int .i64 t344, .int .i64 t345, .slice Ao43 t371.length co43, .slice Ao44 t372.length co44], .int .i64 1] rfl (by (try simp only [List.map_toArray, List.map_cons, List.map_nil]); first | done | (rw [show t371.length = t346.length from (Kd.R_reads' HO_354002.out).1.symm, show t372.length = t349.length from (Kd.R_reads' HO_354003.out).1.symm] <;> rfl) | rfl | (simp only [List.length_drop, List.length_take]; rfl)) ?_; (with_reducible refine (laws_heldGrammar.calls kj67 t344 t345 _ _ t371 _ _ t372 1 t373 _ ?side1 ?side2 ?side3 ?side4 A101.out).mono ?_); (case side1 => exact cP (Kd.R_reads' HO_354002.out).2.2); (case side2 => rw [show t371.length = t346.length from (Kd.R_reads' HO_354002.out).1.symm]; exact (Kd.R_reads' HO_354002.out).2.1); (case side3 => exact cP (Kd.R_reads' HO_354003.out).2.2); (case side4 => rw [show t372.length = t349.length from (Kd.R_reads' HO_354003.out).1.symm]; exact (Kd.R_reads' HO_354003.out).2.1); rintro e w118 ⟨rfl, hb⟩; refine ⟨_, rfl, ?_⟩; have n0_ := Aside0.mk (rB (rQ HO_331002) hb); have n1_ := Aside0.mk (rB (rQ HO_331003) hb); have n2_ := Aside0.mk (rB (rQ HO_354002) hb); have n3_ := Aside0.mk (rB (rQ HO_354003) hb); have n4_ := Aside0.mk (kB (kQ BK307) hb); have n5_ := Aside0.mk (kB (kQ BK330) hb); have n6_ := Aside0.mk (kB (kQ BK353) hb); have n7_ := Aside0.mk (bP (by repeat (first | (with_reducible first | exact HB.out | apply bA | apply bN | apply bD | refine bS ?_ GE307.out | refine bS ?_ GE330.out | refine bS ?_ GE353.out) | exact HB.out)) hb); clear HO_331002; clear HO_331003; clear HO_354002; clear HO_354003; clear BK307; clear BK330; clear BK353; clear HB; have HO_331002 := n0_; have HO_331003 := n1_; have HO_354002 := n2_; have HO_354003 := n3_; have BK307 := n4_; have BK330 := n5_; have BK353 := n6_; have HB := n7_; clear n0_ n1_ n2_ n3_ n4_ n5_ n6_ n7_; (try clear hb); (try clear hb2); (try clear hk); (try clear hi); have hnb119 := NB307_330.out; have hnc119 := NB330_307.out; obtain ⟨hcz120_0, hcz120_1, hcz120_2, hcz120_3, hcz120_4, hcz120_5⟩ := cZ6 BK307.out; obtain ⟨hfz120_0, hfz120_1, hfz120_2, hfz120_3, hfz120_4, hfz120_5⟩ := fZ6 BK307.out) | ((with_reducible refine gC (f := 46) rfl ?_); refine goesL_ (some 83) rfl rfl Try.func46 (by kernel_rfl) rfl #[.agg #[.string a0_0, .slice A0_1 l0_1.length c0_1, .slice A0_2 l0_2.length c0_2, .int .i64 a0_3, .int .i64 a0_4, .slice A0_5 l0_5.length c0_5]] rfl lQ ?_; (with_reducible refine (laws_toRaga.calls kj67 a0_0 _ _ l0_1 _ _ l0_2 a0_3 a0_4 _ _ l0_5 t374 t375 t378 t381 t382 t383 _ ?side1 ?side2 ?side3 ?side4 ?side5 ?side6 A110.out).mono ?_); (case side1 => exact cP (cB HR0_1.out HB.out)); (case side2 => exact HC0_1.out); (case side3 => exact cP (cB HR0_2.out HB.out)); (case side4 => exact HC0_2.out); (case side5 => exact cP (cB HR0_5.out HB.out)); (case side6 => exact HC0_5.out); rintro e w121 ⟨v376, v379, v384, rfl, ho0, ho1, ho2, hb⟩; refine ⟨_, rfl, ?_⟩; have z_ := bX hb (by repeat (first | (with_reducible first | exact HB.out | apply bA | apply bN | apply bD | refine bS ?_ GE307.out | refine bS ?_ GE330.out | refine bS ?_ GE353.out) | exact HB.out)); have n0_ := Aside0.mk (rM (Kd.R_told (Kd.R_told (Kd.R_old (rQ HO_331002) hb) (Kd.R_base ho0)) (Kd.R_base ho1)) (fun _ h_ => h_.1)); have n1_ := Aside0.mk (rB (rQ HO_331003) hb); have n2_ := Aside0.mk (rM (Kd.R_told (Kd.R_told (Kd.R_old (rQ HO_354002) hb) (Kd.R_base ho0)) (Kd.R_base ho1)) (fun _ h_ => h_.1)); have n3_ := Aside0.mk (rB (rQ HO_354003) hb); have n4_ := Aside0.mk (rL (rW (rW ho0 (rT (rQ HO_331002))) (rT (rQ HO_354002))) (bZ z_)); have n5_ := Aside0.mk (rL (rW (rW ho1 (rT (rQ HO_331002))) (rT (rQ HO_354002))) (bZ z_)); have n6_ := Aside0.mk (Kd.S_lower (Kd.S_new' (Kd.S_new' ho2 (rT (rQ HO_331002))) (rT (rQ HO_354002))) (bZ z_)); have n7_ := Aside0.mk (kB (kQ BK307) hb); have n8_ := Aside0.mk (kB (kQ BK330) hb); have n9_ := Aside0.mk (kB (kQ BK353) hb); have n10_ := Aside0.mk (bP z_ hb); clear HO_331002; clear HO_331003; clear HO_354002; clear HO_354003; clear BK307; clear BK330; clear BK353; clear HB; have HO_331002 := n0_; have HO_331003 := n1_; have HO_354002 := n2_; have HO_354003 := n3_; have HO377 := n4_; have HO380 := n5_; have HO385 := n6_; have BK307 := n7_; have BK330 := n8_; have BK353 := n9_; have HB := n10_; clear z_ n0_ n1_ n2_ n3_ n4_ n5_ n6_ n7_ n8_ n9_ n10_; (try clear hb); (try clear hb2); (try clear hk); (try clear hi); (try clear ho0); (try clear ho1); (try clear ho2); obtain ⟨Ao122, co122, eo122⟩ := Kd.R_slice HO377.out; subst eo122; obtain ⟨Ao123, co123, eo123⟩ := Kd.R_slice HO380.out; subst eo123; obtain ⟨Ao124, co124, eo124⟩ := Kd.S_slice HO385.out; subst eo124) | ((with_reducible refine gC (f := 50) rfl ?_); refine goesL_ (some 86) rfl rfl Try.func50 (by kernel_rfl) rfl #[.agg #[.string t374, .slice Ao122 t375.length co122, .slice Ao123 t378.length co123, .int .i64 t381, .int .i64 t382, .slice Ao124 t383.length co124], .int .i64 a1, .int .i64 a2] rfl lQ ?_; (with_reducible refine (impl_GrammarOf.calls kj67 t374 _ _ t375 _ _ t378 t381 t382 _ _ t383 a1 a2 t386 t387 t388 t391 t394 _ ?side1 ?side2 ?side3 ?side4 ?side5 ?side6 A111.out).mono ?_); (case side1 => exact cP (Kd.R_reads' HO377.out).2.2); (case side2 => exact (Kd.R_reads' HO377.out).2.1); (case side3 => exact cP (Kd.R_reads' HO380.out).2.2); (case side4 => exact (Kd.R_reads' HO380.out).2.1); (case side5 => exact cP (Kd.S_reads' HO385.out).2.2); (case side6 => exact (Kd.S_reads' HO385.out).2.1); rintro e w125 ⟨v389, v392, rfl, ho0, ho1, hb⟩; refine ⟨_, rfl, ?_⟩; have z_ := bX hb (by repeat (first | (with_reducible first | exact HB.out | apply bA | apply bN | apply bD | refine bS ?_ GE307.out | refine bS ?_ GE330.out | refine bS ?_ GE353.out) | exact HB.out)); have n0_ := Aside0.mk (rE (rQ HO_331002) (Kd.R_base ho0) hb); have n1_ := Aside0.mk (rE (rQ HO_331003) (Kd.R_base ho1) hb); have n2_ := Aside0.mk (rE (rQ HO_354002) (Kd.R_base ho0) hb); have n3_ := Aside0.mk (rE (rQ HO_354003) (Kd.R_base ho1) hb); have n4_ := Aside0.mk (rE (rQ HO377) (Kd.R_base ho0) hb); have n5_ := Aside0.mk (rE (rQ HO380) (Kd.R_base ho0) hb); have n6_ := Aside0.mk (Kd.S_elder' (by (with_reducible repeat (first | apply Kd.S_alloc | apply Kd.S_drewN | apply Kd.S_drew)); exact HO385.out) (Kd.R_base ho0) hb); have n7_ := Aside0.mk (rL (rW (rW (rW (rW ho0 (rT (rQ HO_331002))) (rT (rQ HO_354002))) (rT (rQ HO377))) (rT (rQ HO380))) (bZ z_)); have n8_ := Aside0.mk (rL (rW (rW ho1 (rT (rQ HO_331003))) (rT (rQ HO_354003))) (bZ z_)); have n9_ := Aside0.mk (kB (kQ BK307) hb); have n10_ := Aside0.mk (kB (kQ BK330) hb); have n11_ := Aside0.mk (kB (kQ BK353) hb); have n12_ := Aside0.mk (bP z_ hb); clear HO_331002; clear HO_331003; clear HO_354002; clear HO_354003; clear HO377; clear HO380; clear HO385; clear BK307; clear BK330; clear BK353; clear HB; have HO_331002 := n0_; have HO_331003 := n1_; have HO_354002 := n2_; have HO_354003 := n3_; have HO377 := n4_; have HO380 := n5_; have HO385 := n6_; have HO390 := n7_; have HO393 := n8_; have BK307 := n9_; have BK330 := n10_; have BK353 := n11_; have HB := n12_; clear z_ n0_ n1_ n2_ n3_ n4_ n5_ n6_ n7_ n8_ n9_ n10_ n11_ n12_; (try clear hb); (try clear hb2); (try clear hk); (try clear hi); (try clear ho0); (try clear ho1)) | ((with_reducible refine gate_dst (N := 16) rfl ?_); refine bE ?hg (N := 16) ?hd (cs := #[.int .i64 0, .int .i64 0, .slice none 0 0, .slice none 0 0]) (t := 30) ?hr ?_; (case hd => rfl); (case hg => rfl); (case hr => first | (go_simp; done) | (go_simp; rfl)); intro gb395 hg w126 hbox hb; have z_ := bX hb (by repeat (first | (with_reducible first | exact HB.out | apply bA | apply bN | apply bD | refine bS ?_ GE307.out | refine bS ?_ GE330.out | refine bS ?_ GE353.out) | exact HB.out)); have n0_ := Aside0.mk (rB (rQ HO_331002) hb); have n1_ := Aside0.mk (rB (rQ HO_331003) hb); have n2_ := Aside0.mk (rB (rQ HO_354002) hb); have n3_ := Aside0.mk (rB (rQ HO_354003) hb); have n4_ := Aside0.mk (rB (rQ HO377) hb); have n5_ := Aside0.mk (rB (rQ HO380) hb); have n6_ := Aside0.mk (Kd.S_below (by (with_reducible repeat (first | apply Kd.S_alloc | apply Kd.S_drewN | apply Kd.S_drew)); exact HO385.out) hb); have n7_ := Aside0.mk (rB (rQ HO390) hb); have n8_ := Aside0.mk (rB (rQ HO393) hb); have n9_ := Aside0.mk (kB (kQ BK307) hb); have n10_ := Aside0.mk (kB (kQ BK330) hb); have n11_ := Aside0.mk (kB (kQ BK353) hb); have n12_ := Aside0.mk (bP z_ hb); have n13_ := Aside0.mk (hbox); have n14_ := Aside0.mk ((by rw [hg]; exact (bZ z_) : w.heap.size ≤ gb395)); have n15_ := Aside0.mk ((by rw [hg]; exact (bZ z_) : w.heap.size ≤ gb395)); have n16_ := Aside0.mk ((by rw [hg]; exact Nat.ne_of_lt (kL (kQ BK307)) : gb307 ≠ gb395)); have n17_ := Aside0.mk ((by rw [hg]; exact Nat.ne_of_gt (kL (kQ BK307)) : gb395 ≠ gb307)); have n18_ := Aside0.mk ((by rw [hg]; exact Nat.ne_of_lt (kL (kQ BK330)) : gb330 ≠ gb395)); have n19_ := Aside0.mk ((by rw [hg]; exact Nat.ne_of_gt (kL (kQ BK330)) : gb395 ≠ gb330)); have n20_ := Aside0.mk ((by rw [hg]; exact Nat.ne_of_lt (kL (kQ BK353)) : gb353 ≠ gb395)); have n21_ := Aside0.mk ((by rw [hg]; exact Nat.ne_of_gt (kL (kQ BK353)) : gb395 ≠ gb353)); clear HO_331002; clear HO_331003; clear HO_354002; clear HO_354003; clear HO377; clear HO380; clear HO385; clear HO390; clear HO393; clear BK307; clear BK330; clear BK353; clear HB; have HO_331002 := n0_; have HO_331003 := n1_; have HO_354002 := n2_; have HO_354003 := n3_; have HO377 := n4_; have HO380 := n5_; have HO385 := n6_; have HO390 := n7_; have HO393 := n8_; have BK307 := n9_; have BK330 := n10_; have BK353 := n11_; have HB := n12_; have BK395 := n13_; have GW395 := n14_; have GE395 := n15_; have NB307_395 := n16_; have NB395_307 := n17_; have NB330_395 := n18_; have NB395_330 := n19_; have NB353_395 := n20_; have NB395_353 := n21_; clear z_ n0_ n1_ n2_ n3_ n4_ n5_ n6_ n7_ n8_ n9_ n10_ n11_ n12_ n13_ n14_ n15_ n16_ n17_ n18_ n19_ n20_ n21_; clear hb hbox hg; have hnb127 := NB395_307.out; have hnc127 := NB307_395.out; have hnb128 := NB395_330.out; have hnc128 := NB330_395.out; have hnb129 := NB395_353.out; have hnc129 := NB353_395.out; obtain ⟨hcz130_0, hcz130_1, hcz130_2, hcz130_3⟩ := cZ4 BK395.out; obtain ⟨hfz130_0, hfz130_1, hfz130_2, hfz130_3⟩ := fZ4 BK395.out; obtain ⟨Ao131, co131, eo131⟩ := Kd.R_slice HO390.out; subst eo131; obtain ⟨Ao132, co132, eo132⟩ := Kd.R_slice HO393.out; subst eo132))
           (try simp only [Act.put, sI, sZ, sS])
           go_cut [97] (fun v97 wc => ∃ (kq : Nat) (x97_111 : Bool), v97 = .bool x97_111 ∧ Aside0 (laws_FnExactGrammarOf.j2 kq t370 x97_111 t344 t345 t371 t372 = some r) ∧ Aside0 (kq ≤ kj67) ∧ Aside0 (Kd.R (Kd.int .i64) 2 wc w.heap.size (fun k_ => some k_ ≠ ((.slice Ao43 t346.length co43) : Value).ownBlock ∧ some k_ ≠ ((.slice Ao131 t388.length co131) : Value).ownBlock) (.slice Ao26 t323.length co26) t323) ∧ Aside0 (Kd.R k67 67 wc w.heap.size (fun k_ => some k_ ≠ ((.slice Ao44 t349.length co44) : Value).ownBlock ∧ some k_ ≠ ((.slice Ao132 t391.length co132) : Value).ownBlock) (.slice Ao27 t326.length co27) t326) ∧ Aside0 (Kd.R (Kd.int .i64) 2 wc w.heap.size (fun k_ => some k_ ≠ ((.slice Ao26 t323.length co26) : Value).ownBlock ∧ some k_ ≠ ((.slice Ao131 t388.length co131) : Value).ownBlock) (.slice Ao43 t346.length co43) t371) ∧ Aside0 (Kd.R k67 67 wc w.heap.size (fun k_ => some k_ ≠ ((.slice Ao27 t326.length co27) : Value).ownBlock ∧ some k_ ≠ ((.slice Ao132 t391.length co132) : Value).ownBlock) (.slice Ao44 t349.length co44) t372) ∧ Aside0 (Kd.R (Kd.int .i64) 2 wc w.heap.size (fun k_ => some k_ ≠ ((.slice Ao26 t323.length co26) : Value).ownBlock ∧ some k_ ≠ ((.slice Ao43 t346.length co43) : Value).ownBlock) (.slice Ao131 t388.length co131) t388) ∧ Aside0 (Kd.R k67 67 wc w.heap.size (fun k_ => some k_ ≠ ((.slice Ao27 t326.length co27) : Value).ownBlock ∧ some k_ ≠ ((.slice Ao44 t349.length co44) : Value).ownBlock) (.slice Ao132 t391.length co132) t391) ∧ Aside0 (wc.heap[gb307]? = some (.cells #[.string a0_0, (.slice A0_1 l0_1.length c0_1), (.slice A0_2 l0_2.length c0_2), .int .i64 a0_3, .int .i64 a0_4, (.slice A0_5 l0_5.length c0_5)] 55 (0, 0))) ∧ Aside0 (wc.heap[gb330]? = some (.cells #[.int .i64 t321, .int .i64 t322, (.slice Ao26 t323.length co26), (.slice Ao27 t326.length co27)] 30 (0, 0))) ∧ Aside0 (wc.heap[gb353]? = some (.cells #[.int .i64 t344, .int .i64 t345, (.slice Ao43 t346.length co43), (.slice Ao44 t349.length co44)] 30 (0, 0))) ∧ Aside0 (wc.heap[gb395]? = some (.cells #[.int .i64 t386, .int .i64 t387, (.slice Ao131 t388.length co131), (.slice Ao132 t391.length co132)] 30 (0, 0))) ∧ Aside0 (Below w.heap.size w wc))
           case first =>
            have H := HC112.out
            clear HC112
            replace H := Option.bind_eq_some_iff.mp H
            obtain ⟨t396, A1330, H⟩ := H
            replace H : (if t396 = true then (laws_FnExactGrammarOf.j2 kj67 t370 (t394 != t329) t344 t345 t371 t372) else (laws_FnExactGrammarOf.j2 kj67 t370 true t344 t345 t371 t372)) = some r := H
            have A133 := Aside0.mk A1330
            clear A1330
            by_cases c134 : t396 = true
            ·subst c134
             have H1 : (laws_FnExactGrammarOf.j2 kj67 t370 (t394 != t329) t344 t345 t371 t372) = some r := by rw [if_pos rfl] at H; exact H
             clear H
             have H := H1
             clear H1
             have H' := Aside0.mk H
             clear H
             have hnb135 := NB395_307.out
             have hnc135 := NB307_395.out
             have hnb136 := NB395_330.out
             have hnc136 := NB330_395.out
             have hnb137 := NB395_353.out
             have hnc137 := NB353_395.out
             obtain ⟨hcz138_0, hcz138_1, hcz138_2, hcz138_3⟩ := cZ4 BK395.out
             obtain ⟨hfz138_0, hfz138_1, hfz138_2, hfz138_3⟩ := fZ4 BK395.out
             have hnb139 := NB330_307.out
             have hnc139 := NB307_330.out
             have hnb140 := NB330_353.out
             have hnc140 := NB353_330.out
             obtain ⟨hcz141_0, hcz141_1, hcz141_2, hcz141_3⟩ := cZ4 BK330.out
             obtain ⟨hfz141_0, hfz141_1, hfz141_2, hfz141_3⟩ := fZ4 BK330.out
             go_wp2_with (first | ((with_reducible refine gC (f := 19) rfl ?_); refine goesL_ (some 91) rfl rfl Try.func19 (by kernel_rfl) rfl #[.agg #[.int .i64 t386, .int .i64 t387, .slice Ao131 t388.length co131, .slice Ao132 t391.length co132], .agg #[.int .i64 t321, .int .i64 t322, .slice Ao26 t323.length co26, .slice Ao27 t326.length co27]] rfl lQ ?_; (with_reducible refine (laws_eqGrammar.calls kj67 t386 t387 _ _ t388 _ _ t391 t321 t322 _ _ t323 _ _ t326 true _ ?side1 ?side2 ?side3 ?side4 ?side5 ?side6 ?side7 ?side8 A133.out).mono ?_); (case side1 => refine (Kd.R_reads' (e := 2) (base := w.heap.size) (ok := fun k_ => ((((True ∧ some k_ ≠ (.slice Ao26 t323.length co26 : Value).ownBlock) ∧ some k_ ≠ (.slice Ao43 t346.length co43 : Value).ownBlock) ∧ some k_ ≠ (.slice Ao122 t375.length co122 : Value).ownBlock) ∧ some k_ ≠ (.slice Ao123 t378.length co123 : Value).ownBlock)) (n := t388.length) (c := co131) ?_).2.2; exact (by (with_reducible repeat (first | apply rA | apply rN | apply rD)); exact (rM (Kd.R_far (p := ⟨gb395, 3, none⟩) (Kd.R_far (p := ⟨gb395, 2, none⟩) (Kd.R_far (p := ⟨gb395, 1, none⟩) (Kd.R_far (p := ⟨gb395, 0, none⟩) (Kd.R_types HO390.out BK395.out (by decide)) (fun _ hk => hk.2) (.int .i64 t386)) (fun _ hk => hk.2) (.int .i64 t387)) (fun _ hk => hk.2) (.slice Ao131 t388.length co131)) (fun _ hk => hk.2) (.slice Ao132 t391.length co132)) (fun _ h_ => h_.1)))); (case side2 => exact (Kd.R_reads' HO390.out).2.1); (case side3 => refine (Kd.R_reads' (e := 67) (base := w.heap.size) (ok := fun k_ => ((True ∧ some k_ ≠ (.slice Ao27 t326.length co27 : Value).ownBlock) ∧ some k_ ≠ (.slice Ao44 t349.length co44 : Value).ownBlock)) (n := t391.length) (c := co132) ?_).2.2; exact (by (with_reducible repeat (first | apply rA | apply rN | apply rD)); exact (rM (Kd.R_far (p := ⟨gb395, 3, none⟩) (Kd.R_far (p := ⟨gb395, 2, none⟩) (Kd.R_far (p := ⟨gb395, 1, none⟩) (Kd.R_far (p := ⟨gb395, 0, none⟩) (Kd.R_types HO393.out BK395.out (by decide)) (fun _ hk => hk.2) (.int .i64 t386)) (fun _ hk => hk.2) (.int .i64 t387)) (fun _ hk => hk.2) (.slice Ao131 t388.length co131)) (fun _ hk => hk.2) (.slice Ao132 t391.length co132)) (fun _ h_ => h_.1)))); (case side4 => exact (Kd.R_reads' HO393.out).2.1); (case side5 => refine (Kd.R_reads' (e := 2) (base := w.heap.size) (ok := fun k_ => (((some k_ ≠ (.slice Ao43 t346.length co43 : Value).ownBlock ∧ some k_ ≠ (.slice Ao122 t375.length co122 : Value).ownBlock) ∧ some k_ ≠ (.slice Ao123 t378.length co123 : Value).ownBlock) ∧ some k_ ≠ (.slice Ao131 t388.length co131 : Value).ownBlock)) (n := t323.length) (c := co26) ?_).2.2; exact (by (with_reducible repeat (first | apply rA | apply rN | apply rD)); exact (rM (Kd.R_far (p := ⟨gb395, 3, none⟩) (Kd.R_far (p := ⟨gb395, 2, none⟩) (Kd.R_far (p := ⟨gb395, 1, none⟩) (Kd.R_far (p := ⟨gb395, 0, none⟩) (Kd.R_types HO_331002.out BK395.out (by decide)) (fun _ hk => hk.2) (.int .i64 t386)) (fun _ hk => hk.2) (.int .i64 t387)) (fun _ hk => hk.2) (.slice Ao131 t388.length co131)) (fun _ hk => hk.2) (.slice Ao132 t391.length co132)) (fun _ h_ => h_.1)))); (case side6 => exact (Kd.R_reads' HO_331002.out).2.1); (case side7 => refine (Kd.R_reads' (e := 67) (base := w.heap.size) (ok := fun k_ => (some k_ ≠ (.slice Ao44 t349.length co44 : Value).ownBlock ∧ some k_ ≠ (.slice Ao132 t391.length co132 : Value).ownBlock)) (n := t326.length) (c := co27) ?_).2.2; exact (by (with_reducible repeat (first | apply rA | apply rN | apply rD)); exact (rM (Kd.R_far (p := ⟨gb395, 3, none⟩) (Kd.R_far (p := ⟨gb395, 2, none⟩) (Kd.R_far (p := ⟨gb395, 1, none⟩) (Kd.R_far (p := ⟨gb395, 0, none⟩) (Kd.R_types HO_331003.out BK395.out (by decide)) (fun _ hk => hk.2) (.int .i64 t386)) (fun _ hk => hk.2) (.int .i64 t387)) (fun _ hk => hk.2) (.slice Ao131 t388.length co131)) (fun _ hk => hk.2) (.slice Ao132 t391.length co132)) (fun _ h_ => h_.1)))); (case side8 => exact (Kd.R_reads' HO_331003.out).2.1); rintro e w142 ⟨rfl, hb⟩; refine ⟨_, rfl, ?_⟩; have n0_ := Aside0.mk (rB (by (with_reducible repeat (first | apply rA | apply rN | apply rD)); exact (rM (Kd.R_far (p := ⟨gb395, 3, none⟩) (Kd.R_far (p := ⟨gb395, 2, none⟩) (Kd.R_far (p := ⟨gb395, 1, none⟩) (Kd.R_far (p := ⟨gb395, 0, none⟩) (Kd.R_types HO_331002.out BK395.out (by decide)) (fun _ hk => hk.2) (.int .i64 t386)) (fun _ hk => hk.2) (.int .i64 t387)) (fun _ hk => hk.2) (.slice Ao131 t388.length co131)) (fun _ hk => hk.2) (.slice Ao132 t391.length co132)) (fun _ h_ => h_.1))) hb); have n1_ := Aside0.mk (rB (by (with_reducible repeat (first | apply rA | apply rN | apply rD)); exact (rM (Kd.R_far (p := ⟨gb395, 3, none⟩) (Kd.R_far (p := ⟨gb395, 2, none⟩) (Kd.R_far (p := ⟨gb395, 1, none⟩) (Kd.R_far (p := ⟨gb395, 0, none⟩) (Kd.R_types HO_331003.out BK395.out (by decide)) (fun _ hk => hk.2) (.int .i64 t386)) (fun _ hk => hk.2) (.int .i64 t387)) (fun _ hk => hk.2) (.slice Ao131 t388.length co131)) (fun _ hk => hk.2) (.slice Ao132 t391.length co132)) (fun _ h_ => h_.1))) hb); have n2_ := Aside0.mk (rB (by (with_reducible repeat (first | apply rA | apply rN | apply rD)); exact (rM (Kd.R_far (p := ⟨gb395, 3, none⟩) (Kd.R_far (p := ⟨gb395, 2, none⟩) (Kd.R_far (p := ⟨gb395, 1, none⟩) (Kd.R_far (p := ⟨gb395, 0, none⟩) (Kd.R_types HO_354002.out BK395.out (by decide)) (fun _ hk => hk.2) (.int .i64 t386)) (fun _ hk => hk.2) (.int .i64 t387)) (fun _ hk => hk.2) (.slice Ao131 t388.length co131)) (fun _ hk => hk.2) (.slice Ao132 t391.length co132)) (fun _ h_ => h_.1))) hb); have n3_ := Aside0.mk (rB (by (with_reducible repeat (first | apply rA | apply rN | apply rD)); exact (rM (Kd.R_far (p := ⟨gb395, 3, none⟩) (Kd.R_far (p := ⟨gb395, 2, none⟩) (Kd.R_far (p := ⟨gb395, 1, none⟩) (Kd.R_far (p := ⟨gb395, 0, none⟩) (Kd.R_types HO_354003.out BK395.out (by decide)) (fun _ hk => hk.2) (.int .i64 t386)) (fun _ hk => hk.2) (.int .i64 t387)) (fun _ hk => hk.2) (.slice Ao131 t388.length co131)) (fun _ hk => hk.2) (.slice Ao132 t391.length co132)) (fun _ h_ => h_.1))) hb); have n4_ := Aside0.mk (rB (by (with_reducible repeat (first | apply rA | apply rN | apply rD)); exact (rM (Kd.R_far (p := ⟨gb395, 3, none⟩) (Kd.R_far (p := ⟨gb395, 2, none⟩) (Kd.R_far (p := ⟨gb395, 1, none⟩) (Kd.R_far (p := ⟨gb395, 0, none⟩) (Kd.R_types HO377.out BK395.out (by decide)) (fun _ hk => hk.2) (.int .i64 t386)) (fun _ hk => hk.2) (.int .i64 t387)) (fun _ hk => hk.2) (.slice Ao131 t388.length co131)) (fun _ hk => hk.2) (.slice Ao132 t391.length co132)) (fun _ h_ => h_.1))) hb); have n5_ := Aside0.mk (rB (by (with_reducible repeat (first | apply rA | apply rN | apply rD)); exact (rM (Kd.R_far (p := ⟨gb395, 3, none⟩) (Kd.R_far (p := ⟨gb395, 2, none⟩) (Kd.R_far (p := ⟨gb395, 1, none⟩) (Kd.R_far (p := ⟨gb395, 0, none⟩) (Kd.R_types HO380.out BK395.out (by decide)) (fun _ hk => hk.2) (.int .i64 t386)) (fun _ hk => hk.2) (.int .i64 t387)) (fun _ hk => hk.2) (.slice Ao131 t388.length co131)) (fun _ hk => hk.2) (.slice Ao132 t391.length co132)) (fun _ h_ => h_.1))) hb); have n6_ := Aside0.mk (Kd.S_below (by (with_reducible repeat (first | apply Kd.S_alloc | apply Kd.S_drewN | apply Kd.S_drew)); exact (Kd.S_mono (Kd.S_far (p := ⟨gb395, 3, none⟩) (Kd.S_far (p := ⟨gb395, 2, none⟩) (Kd.S_far (p := ⟨gb395, 1, none⟩) (Kd.S_far (p := ⟨gb395, 0, none⟩) (Kd.S_types HO385.out BK395.out (by decide)) (fun _ hk => hk.2) (.int .i64 t386)) (fun _ hk => hk.2) (.int .i64 t387)) (fun _ hk => hk.2) (.slice Ao131 t388.length co131)) (fun _ hk => hk.2) (.slice Ao132 t391.length co132)) (fun _ h_ => h_.1))) hb); have n7_ := Aside0.mk (rB (by (with_reducible repeat (first | apply rA | apply rN | apply rD)); exact (rM (Kd.R_far (p := ⟨gb395, 3, none⟩) (Kd.R_far (p := ⟨gb395, 2, none⟩) (Kd.R_far (p := ⟨gb395, 1, none⟩) (Kd.R_far (p := ⟨gb395, 0, none⟩) (Kd.R_types HO390.out BK395.out (by decide)) (fun _ hk => hk.2) (.int .i64 t386)) (fun _ hk => hk.2) (.int .i64 t387)) (fun _ hk => hk.2) (.slice Ao131 t388.length co131)) (fun _ hk => hk.2) (.slice Ao132 t391.length co132)) (fun _ h_ => h_.1))) hb); have n8_ := Aside0.mk (rB (by (with_reducible repeat (first | apply rA | apply rN | apply rD)); exact (rM (Kd.R_far (p := ⟨gb395, 3, none⟩) (Kd.R_far (p := ⟨gb395, 2, none⟩) (Kd.R_far (p := ⟨gb395, 1, none⟩) (Kd.R_far (p := ⟨gb395, 0, none⟩) (Kd.R_types HO393.out BK395.out (by decide)) (fun _ hk => hk.2) (.int .i64 t386)) (fun _ hk => hk.2) (.int .i64 t387)) (fun _ hk => hk.2) (.slice Ao131 t388.length co131)) (fun _ hk => hk.2) (.slice Ao132 t391.length co132)) (fun _ h_ => h_.1))) hb); have n9_ := Aside0.mk (kB (g := gb307) (o := .cells #[.string a0_0, .slice A0_1 l0_1.length c0_1, .slice A0_2 l0_2.length c0_2, .int .i64 a0_3, .int .i64 a0_4, .slice A0_5 l0_5.length c0_5] 55 (0, 0)) (by (with_reducible repeat (first | refine kN ?_ _ | refine kD ?_ | refine kA ?_ _)); refine kF ?_ NB307_395.out _; (with_reducible repeat (first | refine kN ?_ _ | refine kD ?_ | refine kA ?_ _)); refine kF ?_ NB307_395.out _; (with_reducible repeat (first | refine kN ?_ _ | refine kD ?_ | refine kA ?_ _)); refine kF ?_ NB307_395.out _; (with_reducible repeat (first | refine kN ?_ _ | refine kD ?_ | refine kA ?_ _)); refine kF ?_ NB307_395.out _; (with_reducible repeat (first | refine kN ?_ _ | refine kD ?_ | refine kA ?_ _)); exact BK307.out) hb); have n10_ := Aside0.mk (kB (g := gb330) (o := .cells #[.int .i64 t321, .int .i64 t322, .slice Ao26 t323.length co26, .slice Ao27 t326.length co27] 30 (0, 0)) (by (with_reducible repeat (first | refine kN ?_ _ | refine kD ?_ | refine kA ?_ _)); refine kF ?_ NB330_395.out _; (with_reducible repeat (first | refine kN ?_ _ | refine kD ?_ | refine kA ?_ _)); refine kF ?_ NB330_395.out _; (with_reducible repeat (first | refine kN ?_ _ | refine kD ?_ | refine kA ?_ _)); refine kF ?_ NB330_395.out _; (with_reducible repeat (first | refine kN ?_ _ | refine kD ?_ | refine kA ?_ _)); refine kF ?_ NB330_395.out _; (with_reducible repeat (first | refine kN ?_ _ | refine kD ?_ | refine kA ?_ _)); exact BK330.out) hb); have n11_ := Aside0.mk (kB (g := gb353) (o := .cells #[.int .i64 t344, .int .i64 t345, .slice Ao43 t346.length co43, .slice Ao44 t349.length co44] 30 (0, 0)) (by (with_reducible repeat (first | refine kN ?_ _ | refine kD ?_ | refine kA ?_ _)); refine kF ?_ NB353_395.out _; (with_reducible repeat (first | refine kN ?_ _ | refine kD ?_ | refine kA ?_ _)); refine kF ?_ NB353_395.out _; (with_reducible repeat (first | refine kN ?_ _ | refine kD ?_ | refine kA ?_ _)); refine kF ?_ NB353_395.out _; (with_reducible repeat (first | refine kN ?_ _ | refine kD ?_ | refine kA ?_ _)); refine kF ?_ NB353_395.out _; (with_reducible repeat (first | refine kN ?_ _ | refine kD ?_ | refine kA ?_ _)); exact BK353.out) hb); have n12_ := Aside0.mk (kB (g := gb395) (o := .cells #[.int .i64 t386, .int .i64 t387, .slice Ao131 t388.length co131, .slice Ao132 t391.length co132] 30 (0, 0)) (by (with_reducible repeat (first | refine kN ?_ _ | refine kD ?_ | refine kA ?_ _)); refine blk_put (cs := #[.int .i64 t386, .int .i64 t387, .slice Ao131 t388.length co131, .slice none 0 0]) ?_ 3 _ rfl; (with_reducible repeat (first | refine kN ?_ _ | refine kD ?_ | refine kA ?_ _)); refine blk_put (cs := #[.int .i64 t386, .int .i64 t387, .slice none 0 0, .slice none 0 0]) ?_ 2 _ rfl; (with_reducible repeat (first | refine kN ?_ _ | refine kD ?_ | refine kA ?_ _)); refine blk_put (cs := #[.int .i64 t386, .int .i64 0, .slice none 0 0, .slice none 0 0]) ?_ 1 _ rfl; (with_reducible repeat (first | refine kN ?_ _ | refine kD ?_ | refine kA ?_ _)); refine blk_put (cs := #[.int .i64 0, .int .i64 0, .slice none 0 0, .slice none 0 0]) ?_ 0 _ rfl; (with_reducible repeat (first | refine kN ?_ _ | refine kD ?_ | refine kA ?_ _)); exact BK395.out) hb); have n13_ := Aside0.mk (bP (by repeat (first | (with_reducible first | exact HB.out | apply bA | apply bN | apply bD | refine bS ?_ GE307.out | refine bS ?_ GE330.out | refine bS ?_ GE353.out | refine bS ?_ GE395.out) | exact HB.out)) hb); clear HO_331002; clear HO_331003; clear HO_354002; clear HO_354003; clear HO377; clear HO380; clear HO385; clear HO390; clear HO393; clear BK307; clear BK330; clear BK353; clear BK395; clear HB; have HO_331002 := n0_; have HO_331003 := n1_; have HO_354002 := n2_; have HO_354003 := n3_; have HO377 := n4_; have HO380 := n5_; have HO385 := n6_; have HO390 := n7_; have HO393 := n8_; have BK307 := n9_; have BK330 := n10_; have BK353 := n11_; have BK395 := n12_; have HB := n13_; clear n0_ n1_ n2_ n3_ n4_ n5_ n6_ n7_ n8_ n9_ n10_ n11_ n12_ n13_; (try clear hb); (try clear hb2); (try clear hk); (try clear hi)))
             go_meet
             case rel => exact ⟨_, ((t394 != t329)), eT, H', ⟨by have := HJ12.out; have := HJ67.out; first | omega | exact Nat.le_refl _⟩, ⟨by (with_reducible repeat (first | apply rA | apply rN | apply rD)); exact rM HO_331002.out (fun _ hk => ⟨hk.1.1.1, hk.2⟩)⟩, ⟨rQ HO_331003⟩, ⟨by (with_reducible repeat (first | apply rA | apply rN | apply rD)); exact rM HO_354002.out (fun _ hk => ⟨hk.1.1.1, hk.2⟩)⟩, ⟨rQ HO_354003⟩, ⟨by (with_reducible repeat (first | apply rA | apply rN | apply rD)); exact rM HO390.out (fun _ hk => ⟨hk.1.1.1.2, hk.1.1.2⟩)⟩, ⟨by (with_reducible repeat (first | apply rA | apply rN | apply rD)); exact rM HO393.out (fun _ hk => ⟨hk.1.2, hk.2⟩)⟩, ⟨kQ BK307⟩, ⟨kQ BK330⟩, ⟨kQ BK353⟩, ⟨kQ BK395⟩, ⟨by repeat (first | (with_reducible first | exact HB.out | apply bA | apply bN | apply bD | refine bS ?_ GE307.out | refine bS ?_ GE330.out | refine bS ?_ GE353.out | refine bS ?_ GE395.out) | exact HB.out)⟩⟩
            ·replace c134 := Bool.eq_false_iff.mpr c134
             subst c134
             have H1 : (laws_FnExactGrammarOf.j2 kj67 t370 true t344 t345 t371 t372) = some r := by rw [if_neg (show ¬ (false = true) by decide)] at H; exact H
             clear H
             have H := H1
             clear H1
             have H' := Aside0.mk H
             clear H
             have hnb143 := NB395_307.out
             have hnc143 := NB307_395.out
             have hnb144 := NB395_330.out
             have hnc144 := NB330_395.out
             have hnb145 := NB395_353.out
             have hnc145 := NB353_395.out
             obtain ⟨hcz146_0, hcz146_1, hcz146_2, hcz146_3⟩ := cZ4 BK395.out
             obtain ⟨hfz146_0, hfz146_1, hfz146_2, hfz146_3⟩ := fZ4 BK395.out
             have hnb147 := NB330_307.out
             have hnc147 := NB307_330.out
             have hnb148 := NB330_353.out
             have hnc148 := NB353_330.out
             obtain ⟨hcz149_0, hcz149_1, hcz149_2, hcz149_3⟩ := cZ4 BK330.out
             obtain ⟨hfz149_0, hfz149_1, hfz149_2, hfz149_3⟩ := fZ4 BK330.out
             go_wp2_with (first | ((with_reducible refine gC (f := 19) rfl ?_); refine goesL_ (some 91) rfl rfl Try.func19 (by kernel_rfl) rfl #[.agg #[.int .i64 t386, .int .i64 t387, .slice Ao131 t388.length co131, .slice Ao132 t391.length co132], .agg #[.int .i64 t321, .int .i64 t322, .slice Ao26 t323.length co26, .slice Ao27 t326.length co27]] rfl lQ ?_; (with_reducible refine (laws_eqGrammar.calls kj67 t386 t387 _ _ t388 _ _ t391 t321 t322 _ _ t323 _ _ t326 false _ ?side1 ?side2 ?side3 ?side4 ?side5 ?side6 ?side7 ?side8 A133.out).mono ?_); (case side1 => refine (Kd.R_reads' (e := 2) (base := w.heap.size) (ok := fun k_ => ((((True ∧ some k_ ≠ (.slice Ao26 t323.length co26 : Value).ownBlock) ∧ some k_ ≠ (.slice Ao43 t346.length co43 : Value).ownBlock) ∧ some k_ ≠ (.slice Ao122 t375.length co122 : Value).ownBlock) ∧ some k_ ≠ (.slice Ao123 t378.length co123 : Value).ownBlock)) (n := t388.length) (c := co131) ?_).2.2; exact (by (with_reducible repeat (first | apply rA | apply rN | apply rD)); exact (rM (Kd.R_far (p := ⟨gb395, 3, none⟩) (Kd.R_far (p := ⟨gb395, 2, none⟩) (Kd.R_far (p := ⟨gb395, 1, none⟩) (Kd.R_far (p := ⟨gb395, 0, none⟩) (Kd.R_types HO390.out BK395.out (by decide)) (fun _ hk => hk.2) (.int .i64 t386)) (fun _ hk => hk.2) (.int .i64 t387)) (fun _ hk => hk.2) (.slice Ao131 t388.length co131)) (fun _ hk => hk.2) (.slice Ao132 t391.length co132)) (fun _ h_ => h_.1)))); (case side2 => exact (Kd.R_reads' HO390.out).2.1); (case side3 => refine (Kd.R_reads' (e := 67) (base := w.heap.size) (ok := fun k_ => ((True ∧ some k_ ≠ (.slice Ao27 t326.length co27 : Value).ownBlock) ∧ some k_ ≠ (.slice Ao44 t349.length co44 : Value).ownBlock)) (n := t391.length) (c := co132) ?_).2.2; exact (by (with_reducible repeat (first | apply rA | apply rN | apply rD)); exact (rM (Kd.R_far (p := ⟨gb395, 3, none⟩) (Kd.R_far (p := ⟨gb395, 2, none⟩) (Kd.R_far (p := ⟨gb395, 1, none⟩) (Kd.R_far (p := ⟨gb395, 0, none⟩) (Kd.R_types HO393.out BK395.out (by decide)) (fun _ hk => hk.2) (.int .i64 t386)) (fun _ hk => hk.2) (.int .i64 t387)) (fun _ hk => hk.2) (.slice Ao131 t388.length co131)) (fun _ hk => hk.2) (.slice Ao132 t391.length co132)) (fun _ h_ => h_.1)))); (case side4 => exact (Kd.R_reads' HO393.out).2.1); (case side5 => refine (Kd.R_reads' (e := 2) (base := w.heap.size) (ok := fun k_ => (((some k_ ≠ (.slice Ao43 t346.length co43 : Value).ownBlock ∧ some k_ ≠ (.slice Ao122 t375.length co122 : Value).ownBlock) ∧ some k_ ≠ (.slice Ao123 t378.length co123 : Value).ownBlock) ∧ some k_ ≠ (.slice Ao131 t388.length co131 : Value).ownBlock)) (n := t323.length) (c := co26) ?_).2.2; exact (by (with_reducible repeat (first | apply rA | apply rN | apply rD)); exact (rM (Kd.R_far (p := ⟨gb395, 3, none⟩) (Kd.R_far (p := ⟨gb395, 2, none⟩) (Kd.R_far (p := ⟨gb395, 1, none⟩) (Kd.R_far (p := ⟨gb395, 0, none⟩) (Kd.R_types HO_331002.out BK395.out (by decide)) (fun _ hk => hk.2) (.int .i64 t386)) (fun _ hk => hk.2) (.int .i64 t387)) (fun _ hk => hk.2) (.slice Ao131 t388.length co131)) (fun _ hk => hk.2) (.slice Ao132 t391.length co132)) (fun _ h_ => h_.1)))); (case side6 => exact (Kd.R_reads' HO_331002.out).2.1); (case side7 => refine (Kd.R_reads' (e := 67) (base := w.heap.size) (ok := fun k_ => (some k_ ≠ (.slice Ao44 t349.length co44 : Value).ownBlock ∧ some k_ ≠ (.slice Ao132 t391.length co132 : Value).ownBlock)) (n := t326.length) (c := co27) ?_).2.2; exact (by (with_reducible repeat (first | apply rA | apply rN | apply rD)); exact (rM (Kd.R_far (p := ⟨gb395, 3, none⟩) (Kd.R_far (p := ⟨gb395, 2, none⟩) (Kd.R_far (p := ⟨gb395, 1, none⟩) (Kd.R_far (p := ⟨gb395, 0, none⟩) (Kd.R_types HO_331003.out BK395.out (by decide)) (fun _ hk => hk.2) (.int .i64 t386)) (fun _ hk => hk.2) (.int .i64 t387)) (fun _ hk => hk.2) (.slice Ao131 t388.length co131)) (fun _ hk => hk.2) (.slice Ao132 t391.length co132)) (fun _ h_ => h_.1)))); (case side8 => exact (Kd.R_reads' HO_331003.out).2.1); rintro e w150 ⟨rfl, hb⟩; refine ⟨_, rfl, ?_⟩; have n0_ := Aside0.mk (rB (by (with_reducible repeat (first | apply rA | apply rN | apply rD)); exact (rM (Kd.R_far (p := ⟨gb395, 3, none⟩) (Kd.R_far (p := ⟨gb395, 2, none⟩) (Kd.R_far (p := ⟨gb395, 1, none⟩) (Kd.R_far (p := ⟨gb395, 0, none⟩) (Kd.R_types HO_331002.out BK395.out (by decide)) (fun _ hk => hk.2) (.int .i64 t386)) (fun _ hk => hk.2) (.int .i64 t387)) (fun _ hk => hk.2) (.slice Ao131 t388.length co131)) (fun _ hk => hk.2) (.slice Ao132 t391.length co132)) (fun _ h_ => h_.1))) hb); have n1_ := Aside0.mk (rB (by (with_reducible repeat (first | apply rA | apply rN | apply rD)); exact (rM (Kd.R_far (p := ⟨gb395, 3, none⟩) (Kd.R_far (p := ⟨gb395, 2, none⟩) (Kd.R_far (p := ⟨gb395, 1, none⟩) (Kd.R_far (p := ⟨gb395, 0, none⟩) (Kd.R_types HO_331003.out BK395.out (by decide)) (fun _ hk => hk.2) (.int .i64 t386)) (fun _ hk => hk.2) (.int .i64 t387)) (fun _ hk => hk.2) (.slice Ao131 t388.length co131)) (fun _ hk => hk.2) (.slice Ao132 t391.length co132)) (fun _ h_ => h_.1))) hb); have n2_ := Aside0.mk (rB (by (with_reducible repeat (first | apply rA | apply rN | apply rD)); exact (rM (Kd.R_far (p := ⟨gb395, 3, none⟩) (Kd.R_far (p := ⟨gb395, 2, none⟩) (Kd.R_far (p := ⟨gb395, 1, none⟩) (Kd.R_far (p := ⟨gb395, 0, none⟩) (Kd.R_types HO_354002.out BK395.out (by decide)) (fun _ hk => hk.2) (.int .i64 t386)) (fun _ hk => hk.2) (.int .i64 t387)) (fun _ hk => hk.2) (.slice Ao131 t388.length co131)) (fun _ hk => hk.2) (.slice Ao132 t391.length co132)) (fun _ h_ => h_.1))) hb); have n3_ := Aside0.mk (rB (by (with_reducible repeat (first | apply rA | apply rN | apply rD)); exact (rM (Kd.R_far (p := ⟨gb395, 3, none⟩) (Kd.R_far (p := ⟨gb395, 2, none⟩) (Kd.R_far (p := ⟨gb395, 1, none⟩) (Kd.R_far (p := ⟨gb395, 0, none⟩) (Kd.R_types HO_354003.out BK395.out (by decide)) (fun _ hk => hk.2) (.int .i64 t386)) (fun _ hk => hk.2) (.int .i64 t387)) (fun _ hk => hk.2) (.slice Ao131 t388.length co131)) (fun _ hk => hk.2) (.slice Ao132 t391.length co132)) (fun _ h_ => h_.1))) hb); have n4_ := Aside0.mk (rB (by (with_reducible repeat (first | apply rA | apply rN | apply rD)); exact (rM (Kd.R_far (p := ⟨gb395, 3, none⟩) (Kd.R_far (p := ⟨gb395, 2, none⟩) (Kd.R_far (p := ⟨gb395, 1, none⟩) (Kd.R_far (p := ⟨gb395, 0, none⟩) (Kd.R_types HO377.out BK395.out (by decide)) (fun _ hk => hk.2) (.int .i64 t386)) (fun _ hk => hk.2) (.int .i64 t387)) (fun _ hk => hk.2) (.slice Ao131 t388.length co131)) (fun _ hk => hk.2) (.slice Ao132 t391.length co132)) (fun _ h_ => h_.1))) hb); have n5_ := Aside0.mk (rB (by (with_reducible repeat (first | apply rA | apply rN | apply rD)); exact (rM (Kd.R_far (p := ⟨gb395, 3, none⟩) (Kd.R_far (p := ⟨gb395, 2, none⟩) (Kd.R_far (p := ⟨gb395, 1, none⟩) (Kd.R_far (p := ⟨gb395, 0, none⟩) (Kd.R_types HO380.out BK395.out (by decide)) (fun _ hk => hk.2) (.int .i64 t386)) (fun _ hk => hk.2) (.int .i64 t387)) (fun _ hk => hk.2) (.slice Ao131 t388.length co131)) (fun _ hk => hk.2) (.slice Ao132 t391.length co132)) (fun _ h_ => h_.1))) hb); have n6_ := Aside0.mk (Kd.S_below (by (with_reducible repeat (first | apply Kd.S_alloc | apply Kd.S_drewN | apply Kd.S_drew)); exact (Kd.S_mono (Kd.S_far (p := ⟨gb395, 3, none⟩) (Kd.S_far (p := ⟨gb395, 2, none⟩) (Kd.S_far (p := ⟨gb395, 1, none⟩) (Kd.S_far (p := ⟨gb395, 0, none⟩) (Kd.S_types HO385.out BK395.out (by decide)) (fun _ hk => hk.2) (.int .i64 t386)) (fun _ hk => hk.2) (.int .i64 t387)) (fun _ hk => hk.2) (.slice Ao131 t388.length co131)) (fun _ hk => hk.2) (.slice Ao132 t391.length co132)) (fun _ h_ => h_.1))) hb); have n7_ := Aside0.mk (rB (by (with_reducible repeat (first | apply rA | apply rN | apply rD)); exact (rM (Kd.R_far (p := ⟨gb395, 3, none⟩) (Kd.R_far (p := ⟨gb395, 2, none⟩) (Kd.R_far (p := ⟨gb395, 1, none⟩) (Kd.R_far (p := ⟨gb395, 0, none⟩) (Kd.R_types HO390.out BK395.out (by decide)) (fun _ hk => hk.2) (.int .i64 t386)) (fun _ hk => hk.2) (.int .i64 t387)) (fun _ hk => hk.2) (.slice Ao131 t388.length co131)) (fun _ hk => hk.2) (.slice Ao132 t391.length co132)) (fun _ h_ => h_.1))) hb); have n8_ := Aside0.mk (rB (by (with_reducible repeat (first | apply rA | apply rN | apply rD)); exact (rM (Kd.R_far (p := ⟨gb395, 3, none⟩) (Kd.R_far (p := ⟨gb395, 2, none⟩) (Kd.R_far (p := ⟨gb395, 1, none⟩) (Kd.R_far (p := ⟨gb395, 0, none⟩) (Kd.R_types HO393.out BK395.out (by decide)) (fun _ hk => hk.2) (.int .i64 t386)) (fun _ hk => hk.2) (.int .i64 t387)) (fun _ hk => hk.2) (.slice Ao131 t388.length co131)) (fun _ hk => hk.2) (.slice Ao132 t391.length co132)) (fun _ h_ => h_.1))) hb); have n9_ := Aside0.mk (kB (g := gb307) (o := .cells #[.string a0_0, .slice A0_1 l0_1.length c0_1, .slice A0_2 l0_2.length c0_2, .int .i64 a0_3, .int .i64 a0_4, .slice A0_5 l0_5.length c0_5] 55 (0, 0)) (by (with_reducible repeat (first | refine kN ?_ _ | refine kD ?_ | refine kA ?_ _)); refine kF ?_ NB307_395.out _; (with_reducible repeat (first | refine kN ?_ _ | refine kD ?_ | refine kA ?_ _)); refine kF ?_ NB307_395.out _; (with_reducible repeat (first | refine kN ?_ _ | refine kD ?_ | refine kA ?_ _)); refine kF ?_ NB307_395.out _; (with_reducible repeat (first | refine kN ?_ _ | refine kD ?_ | refine kA ?_ _)); refine kF ?_ NB307_395.out _; (with_reducible repeat (first | refine kN ?_ _ | refine kD ?_ | refine kA ?_ _)); exact BK307.out) hb); have n10_ := Aside0.mk (kB (g := gb330) (o := .cells #[.int .i64 t321, .int .i64 t322, .slice Ao26 t323.length co26, .slice Ao27 t326.length co27] 30 (0, 0)) (by (with_reducible repeat (first | refine kN ?_ _ | refine kD ?_ | refine kA ?_ _)); refine kF ?_ NB330_395.out _; (with_reducible repeat (first | refine kN ?_ _ | refine kD ?_ | refine kA ?_ _)); refine kF ?_ NB330_395.out _; (with_reducible repeat (first | refine kN ?_ _ | refine kD ?_ | refine kA ?_ _)); refine kF ?_ NB330_395.out _; (with_reducible repeat (first | refine kN ?_ _ | refine kD ?_ | refine kA ?_ _)); refine kF ?_ NB330_395.out _; (with_reducible repeat (first | refine kN ?_ _ | refine kD ?_ | refine kA ?_ _)); exact BK330.out) hb); have n11_ := Aside0.mk (kB (g := gb353) (o := .cells #[.int .i64 t344, .int .i64 t345, .slice Ao43 t346.length co43, .slice Ao44 t349.length co44] 30 (0, 0)) (by (with_reducible repeat (first | refine kN ?_ _ | refine kD ?_ | refine kA ?_ _)); refine kF ?_ NB353_395.out _; (with_reducible repeat (first | refine kN ?_ _ | refine kD ?_ | refine kA ?_ _)); refine kF ?_ NB353_395.out _; (with_reducible repeat (first | refine kN ?_ _ | refine kD ?_ | refine kA ?_ _)); refine kF ?_ NB353_395.out _; (with_reducible repeat (first | refine kN ?_ _ | refine kD ?_ | refine kA ?_ _)); refine kF ?_ NB353_395.out _; (with_reducible repeat (first | refine kN ?_ _ | refine kD ?_ | refine kA ?_ _)); exact BK353.out) hb); have n12_ := Aside0.mk (kB (g := gb395) (o := .cells #[.int .i64 t386, .int .i64 t387, .slice Ao131 t388.length co131, .slice Ao132 t391.length co132] 30 (0, 0)) (by (with_reducible repeat (first | refine kN ?_ _ | refine kD ?_ | refine kA ?_ _)); refine blk_put (cs := #[.int .i64 t386, .int .i64 t387, .slice Ao131 t388.length co131, .slice none 0 0]) ?_ 3 _ rfl; (with_reducible repeat (first | refine kN ?_ _ | refine kD ?_ | refine kA ?_ _)); refine blk_put (cs := #[.int .i64 t386, .int .i64 t387, .slice none 0 0, .slice none 0 0]) ?_ 2 _ rfl; (with_reducible repeat (first | refine kN ?_ _ | refine kD ?_ | refine kA ?_ _)); refine blk_put (cs := #[.int .i64 t386, .int .i64 0, .slice none 0 0, .slice none 0 0]) ?_ 1 _ rfl; (with_reducible repeat (first | refine kN ?_ _ | refine kD ?_ | refine kA ?_ _)); refine blk_put (cs := #[.int .i64 0, .int .i64 0, .slice none 0 0, .slice none 0 0]) ?_ 0 _ rfl; (with_reducible repeat (first | refine kN ?_ _ | refine kD ?_ | refine kA ?_ _)); exact BK395.out) hb); have n13_ := Aside0.mk (bP (by repeat (first | (with_reducible first | exact HB.out | apply bA | apply bN | apply bD | refine bS ?_ GE307.out | refine bS ?_ GE330.out | refine bS ?_ GE353.out | refine bS ?_ GE395.out) | exact HB.out)) hb); clear HO_331002; clear HO_331003; clear HO_354002; clear HO_354003; clear HO377; clear HO380; clear HO385; clear HO390; clear HO393; clear BK307; clear BK330; clear BK353; clear BK395; clear HB; have HO_331002 := n0_; have HO_331003 := n1_; have HO_354002 := n2_; have HO_354003 := n3_; have HO377 := n4_; have HO380 := n5_; have HO385 := n6_; have HO390 := n7_; have HO393 := n8_; have BK307 := n9_; have BK330 := n10_; have BK353 := n11_; have BK395 := n12_; have HB := n13_; clear n0_ n1_ n2_ n3_ n4_ n5_ n6_ n7_ n8_ n9_ n10_ n11_ n12_ n13_; (try clear hb); (try clear hb2); (try clear hk); (try clear hi)))
             go_meet
             case rel => exact ⟨_, (true), eT, H', ⟨by have := HJ12.out; have := HJ67.out; first | omega | exact Nat.le_refl _⟩, ⟨by (with_reducible repeat (first | apply rA | apply rN | apply rD)); exact rM HO_331002.out (fun _ hk => ⟨hk.1.1.1, hk.2⟩)⟩, ⟨rQ HO_331003⟩, ⟨by (with_reducible repeat (first | apply rA | apply rN | apply rD)); exact rM HO_354002.out (fun _ hk => ⟨hk.1.1.1, hk.2⟩)⟩, ⟨rQ HO_354003⟩, ⟨by (with_reducible repeat (first | apply rA | apply rN | apply rD)); exact rM HO390.out (fun _ hk => ⟨hk.1.1.1.2, hk.1.1.2⟩)⟩, ⟨by (with_reducible repeat (first | apply rA | apply rN | apply rD)); exact rM HO393.out (fun _ hk => ⟨hk.1.2, hk.2⟩)⟩, ⟨kQ BK307⟩, ⟨kQ BK330⟩, ⟨kQ BK353⟩, ⟨kQ BK395⟩, ⟨by repeat (first | (with_reducible first | exact HB.out | apply bA | apply bN | apply bD | refine bS ?_ GE307.out | refine bS ?_ GE330.out | refine bS ?_ GE353.out | refine bS ?_ GE395.out) | exact HB.out)⟩⟩
           case rest =>
            clear HC112
            try clear c1
            try clear c2
            try clear p2
            try clear c3
            try clear c4
            try clear c5
            try clear c5b0
            try clear c6
            try clear c7
            try clear c8
            try clear c9
            try clear c10
            try clear c11
            try clear c12
            try clear c13
            try clear c14
            try clear c19
            try clear c24
            try clear c30
            try clear c31
            try clear c32
            try clear c39
            try clear c40
            try clear c41
            try clear c43
            try clear c44
            try clear c46
            try clear c47
            try clear c48
            try clear c49
            try clear c50
            try clear c51
            try clear c52
            try clear c55
            try clear c56
            try clear c57
            try clear c59
            try clear c60
            try clear c63
            try clear c66
            try clear c75
            try clear c76
            try clear c77
            try clear c80
            try clear c80b0
            try clear c82
            try clear c83
            try clear c84
            try clear c85
            try clear c87
            try clear c88
            try clear c91
            try clear c92
            try clear c93
            try clear c95
            try clear c96
            try clear c99
            try clear c102
            try clear c102b0
            try clear c103
            try clear c104
            try clear c109
            try clear c109b0
            try clear c109b1
            try clear c113
            try clear c114
            try clear c119
            try clear c127
            try clear c128
            try clear c129
            try clear c134
            try clear c135
            try clear c136
            try clear c137
            try clear c139
            try clear c140
            try clear c143
            try clear c144
            try clear c145
            try clear c147
            try clear c148
            try clear hcz105_0
            try clear hcz105_1
            try clear hcz105_2
            try clear hcz105_3
            try clear hcz107_0
            try clear hcz107_1
            try clear hcz107_2
            try clear hcz107_3
            try clear hcz115_0
            try clear hcz115_1
            try clear hcz115_2
            try clear hcz115_3
            try clear hcz117_0
            try clear hcz117_1
            try clear hcz117_2
            try clear hcz117_3
            try clear hcz120_0
            try clear hcz120_1
            try clear hcz120_2
            try clear hcz120_3
            try clear hcz120_4
            try clear hcz120_5
            try clear hcz130_0
            try clear hcz130_1
            try clear hcz130_2
            try clear hcz130_3
            try clear hcz138_0
            try clear hcz138_1
            try clear hcz138_2
            try clear hcz138_3
            try clear hcz141_0
            try clear hcz141_1
            try clear hcz141_2
            try clear hcz141_3
            try clear hcz146_0
            try clear hcz146_1
            try clear hcz146_2
            try clear hcz146_3
            try clear hcz149_0
            try clear hcz149_1
            try clear hcz149_2
            try clear hcz149_3
            try clear hcz15_0
            try clear hcz15_1
            try clear hcz15_2
            try clear hcz15_3
            try clear hcz15_4
            try clear hcz15_5
            try clear hcz17_0
            try clear hcz17_1
            try clear hcz17_2
            try clear hcz17_3
            try clear hcz17_4
            try clear hcz17_5
            try clear hcz25_0
            try clear hcz25_1
            try clear hcz25_2
            try clear hcz25_3
            try clear hcz28_0
            try clear hcz28_1
            try clear hcz28_2
            try clear hcz28_3
            try clear hcz28_4
            try clear hcz28_5
            try clear hcz33_0
            try clear hcz33_1
            try clear hcz33_2
            try clear hcz33_3
            try clear hcz33_4
            try clear hcz33_5
            try clear hcz42_0
            try clear hcz42_1
            try clear hcz42_2
            try clear hcz42_3
            try clear hcz50_0
            try clear hcz50_1
            try clear hcz50_2
            try clear hcz50_3
            try clear hcz53_0
            try clear hcz53_1
            try clear hcz53_2
            try clear hcz53_3
            try clear hcz58_0
            try clear hcz58_1
            try clear hcz58_2
            try clear hcz58_3
            try clear hcz61_0
            try clear hcz61_1
            try clear hcz61_2
            try clear hcz61_3
            try clear hcz78_0
            try clear hcz78_1
            try clear hcz78_2
            try clear hcz78_3
            try clear hcz78_4
            try clear hcz78_5
            try clear hcz7_0
            try clear hcz7_1
            try clear hcz7_2
            try clear hcz7_3
            try clear hcz7_4
            try clear hcz7_5
            try clear hcz86_0
            try clear hcz86_1
            try clear hcz86_2
            try clear hcz86_3
            try clear hcz89_0
            try clear hcz89_1
            try clear hcz89_2
            try clear hcz89_3
            try clear hcz94_0
            try clear hcz94_1
            try clear hcz94_2
            try clear hcz94_3
            try clear hcz97_0
            try clear hcz97_1
            try clear hcz97_2
            try clear hcz97_3
            try clear hfz105_0
            try clear hfz105_1
            try clear hfz105_2
            try clear hfz105_3
            try clear hfz107_0
            try clear hfz107_1
            try clear hfz107_2
            try clear hfz107_3
            try clear hfz115_0
            try clear hfz115_1
            try clear hfz115_2
            try clear hfz115_3
            try clear hfz117_0
            try clear hfz117_1
            try clear hfz117_2
            try clear hfz117_3
            try clear hfz120_0
            try clear hfz120_1
            try clear hfz120_2
            try clear hfz120_3
            try clear hfz120_4
            try clear hfz120_5
            try clear hfz130_0
            try clear hfz130_1
            try clear hfz130_2
            try clear hfz130_3
            try clear hfz138_0
            try clear hfz138_1
            try clear hfz138_2
            try clear hfz138_3
            try clear hfz141_0
            try clear hfz141_1
            try clear hfz141_2
            try clear hfz141_3
            try clear hfz146_0
            try clear hfz146_1
            try clear hfz146_2
            try clear hfz146_3
            try clear hfz149_0
            try clear hfz149_1
            try clear hfz149_2
            try clear hfz149_3
            try clear hfz15_0
            try clear hfz15_1
            try clear hfz15_2
            try clear hfz15_3
            try clear hfz15_4
            try clear hfz15_5
            try clear hfz17_0
            try clear hfz17_1
            try clear hfz17_2
            try clear hfz17_3
            try clear hfz17_4
            try clear hfz17_5
            try clear hfz25_0
            try clear hfz25_1
            try clear hfz25_2
            try clear hfz25_3
            try clear hfz28_0
            try clear hfz28_1
            try clear hfz28_2
            try clear hfz28_3
            try clear hfz28_4
            try clear hfz28_5
            try clear hfz33_0
            try clear hfz33_1
            try clear hfz33_2
            try clear hfz33_3
            try clear hfz33_4
            try clear hfz33_5
            try clear hfz42_0
            try clear hfz42_1
            try clear hfz42_2
            try clear hfz42_3
            try clear hfz50_0
            try clear hfz50_1
            try clear hfz50_2
            try clear hfz50_3
            try clear hfz53_0
            try clear hfz53_1
            try clear hfz53_2
            try clear hfz53_3
            try clear hfz58_0
            try clear hfz58_1
            try clear hfz58_2
            try clear hfz58_3
            try clear hfz61_0
            try clear hfz61_1
            try clear hfz61_2
            try clear hfz61_3
            try clear hfz78_0
            try clear hfz78_1
            try clear hfz78_2
            try clear hfz78_3
            try clear hfz78_4
            try clear hfz78_5
            try clear hfz7_0
            try clear hfz7_1
            try clear hfz7_2
            try clear hfz7_3
            try clear hfz7_4
            try clear hfz7_5
            try clear hfz86_0
            try clear hfz86_1
            try clear hfz86_2
            try clear hfz86_3
            try clear hfz89_0
            try clear hfz89_1
            try clear hfz89_2
            try clear hfz89_3
            try clear hfz94_0
            try clear hfz94_1
            try clear hfz94_2
            try clear hfz94_3
            try clear hfz97_0
            try clear hfz97_1
            try clear hfz97_2
            try clear hfz97_3
            try clear p2
            obtain ⟨kq, x97_111, rfl, HA, HJ111, HO_331002, HO_331003, HO_354002, HO_354003, HO_396002, HO_396003, BK307, BK330, BK353, BK395, HB⟩ := hcut
            have hl354002_111 := (Kd.R_reads' HO_354002.out).1
            rw [hl354002_111] at HO_354002
            (try simp only [hl354002_111])
            (try simp only [hl354002_111] at BK307)
            (try simp only [hl354002_111] at BK330)
            (try simp only [hl354002_111] at BK353)
            (try simp only [hl354002_111] at BK395)
            (try simp only [hl354002_111] at HO_331002)
            (try simp only [hl354002_111] at HO_331003)
            (try simp only [hl354002_111] at HO_354003)
            (try simp only [hl354002_111] at HO_396002)
            (try simp only [hl354002_111] at HO_396003)
            have hl354003_111 := (Kd.R_reads' HO_354003.out).1
            rw [hl354003_111] at HO_354003
            (try simp only [hl354003_111])
            (try simp only [hl354003_111] at BK307)
            (try simp only [hl354003_111] at BK330)
            (try simp only [hl354003_111] at BK353)
            (try simp only [hl354003_111] at BK395)
            (try simp only [hl354003_111] at HO_331002)
            (try simp only [hl354003_111] at HO_331003)
            (try simp only [hl354003_111] at HO_354002)
            (try simp only [hl354003_111] at HO_396002)
            (try simp only [hl354003_111] at HO_396003)
            cases kq with
            | zero => exact absurd HA.out (by simp [laws_FnExactGrammarOf.j2])
            | succ kj111 =>
             have H := HA.out
             clear HA
             simp only [laws_FnExactGrammarOf.j2] at H
             by_cases c151 : x97_111 = true
             ·subst c151
              have H1 : (some false) = some r := by rw [if_pos rfl] at H; exact H
              clear H
              have H := H1
              clear H1
              obtain rfl := Option.some.inj H
              go_wp2
              go_ret
              exact ⟨by first | rfl | (simp [errW_none, errW_some] <;> rfl) | (simp [*, errW_none, errW_some] <;> rfl), by repeat (first | (with_reducible first | exact HB.out | apply bA | apply bN | apply bD | refine bS ?_ GE307.out | refine bS ?_ GE330.out | refine bS ?_ GE353.out | refine bS ?_ GE395.out) | exact HB.out)⟩
             ·replace c151 := Bool.eq_false_iff.mpr c151
              subst c151
              have H1 : ((laws_heldGrammar.f kj111 t344 t345 t371 t372 1).bind fun t397 => (if t397 < 0 then (some false) else (if t397 = t370 then (some true) else (some false)))) = some r := by rw [if_neg (show ¬ (false = true) by decide)] at H; exact H
              clear H
              have H := H1
              clear H1
              replace H := Option.bind_eq_some_iff.mp H
              obtain ⟨t397, A1520, H⟩ := H
              replace H : (if t397 < 0 then (some false) else (if t397 = t370 then (some true) else (some false))) = some r := H
              have A152 := Aside0.mk A1520
              clear A1520
              by_cases c153 : t397 < 0
              ·rw [if_pos c153] at H
               have c153b0 : decide (t397 < 0) = true := decide_eq_true c153
               clear c153
               obtain rfl := Option.some.inj H
               have hnb154 := NB353_307.out
               have hnc154 := NB307_353.out
               have hnb155 := NB353_330.out
               have hnc155 := NB330_353.out
               have hnb156 := NB353_395.out
               have hnc156 := NB395_353.out
               obtain ⟨hcz157_0, hcz157_1, hcz157_2, hcz157_3⟩ := cZ4 BK353.out
               obtain ⟨hfz157_0, hfz157_1, hfz157_2, hfz157_3⟩ := fZ4 BK353.out
               go_wp2_with (first | ((with_reducible refine gC (f := 43) rfl ?_); refine goesL_ (some 100) rfl rfl Try.func43 (by kernel_rfl) rfl #[.agg #[.int .i64 t344, .int .i64 t345, .slice Ao43 t371.length co43, .slice Ao44 t372.length co44], .int .i64 1] rfl lQ ?_; (with_reducible refine (laws_heldGrammar.calls kj111 t344 t345 _ _ t371 _ _ t372 1 t397 _ ?side1 ?side2 ?side3 ?side4 A152.out).mono ?_); (case side1 => exact cP (Kd.R_reads' HO_354002.out).2.2); (case side2 => exact (Kd.R_reads' HO_354002.out).2.1); (case side3 => exact cP (Kd.R_reads' HO_354003.out).2.2); (case side4 => exact (Kd.R_reads' HO_354003.out).2.1); rintro e w158 ⟨rfl, hb⟩; refine ⟨_, rfl, ?_⟩; have n0_ := Aside0.mk (rB (rQ HO_331002) hb); have n1_ := Aside0.mk (rB (rQ HO_331003) hb); have n2_ := Aside0.mk (rB (rQ HO_354002) hb); have n3_ := Aside0.mk (rB (rQ HO_354003) hb); have n4_ := Aside0.mk (rB (rQ HO_396002) hb); have n5_ := Aside0.mk (rB (rQ HO_396003) hb); have n6_ := Aside0.mk (kB (kQ BK307) hb); have n7_ := Aside0.mk (kB (kQ BK330) hb); have n8_ := Aside0.mk (kB (kQ BK353) hb); have n9_ := Aside0.mk (kB (kQ BK395) hb); have n10_ := Aside0.mk (bP (by repeat (first | (with_reducible first | exact HB.out | apply bA | apply bN | apply bD | refine bS ?_ GE307.out | refine bS ?_ GE330.out | refine bS ?_ GE353.out | refine bS ?_ GE395.out) | exact HB.out)) hb); clear HO_331002; clear HO_331003; clear HO_354002; clear HO_354003; clear HO_396002; clear HO_396003; clear BK307; clear BK330; clear BK353; clear BK395; clear HB; have HO_331002 := n0_; have HO_331003 := n1_; have HO_354002 := n2_; have HO_354003 := n3_; have HO_396002 := n4_; have HO_396003 := n5_; have BK307 := n6_; have BK330 := n7_; have BK353 := n8_; have BK395 := n9_; have HB := n10_; clear n0_ n1_ n2_ n3_ n4_ n5_ n6_ n7_ n8_ n9_ n10_; (try clear hb); (try clear hb2); (try clear hk); (try clear hi)))
               go_ret
               exact ⟨by first | rfl | (simp [errW_none, errW_some] <;> rfl) | (simp [*, errW_none, errW_some] <;> rfl), by repeat (first | (with_reducible first | exact HB.out | apply bA | apply bN | apply bD | refine bS ?_ GE307.out | refine bS ?_ GE330.out | refine bS ?_ GE353.out | refine bS ?_ GE395.out) | exact HB.out)⟩
              ·rw [if_neg c153] at H
               have c153b0 : decide (t397 < 0) = false := decide_eq_false c153
               clear c153
               by_cases c159 : t397 = t370
               ·rw [if_pos c159] at H
                have c159b0 : (t397 == t370) = true := beq_iff_eq.mpr c159
                have c159b1 : (t397 != t370) = false := bne_eq_false_iff_eq.mpr c159
                clear c159
                obtain rfl := Option.some.inj H
                have hnb160 := NB353_307.out
                have hnc160 := NB307_353.out
                have hnb161 := NB353_330.out
                have hnc161 := NB330_353.out
                have hnb162 := NB353_395.out
                have hnc162 := NB395_353.out
                obtain ⟨hcz163_0, hcz163_1, hcz163_2, hcz163_3⟩ := cZ4 BK353.out
                obtain ⟨hfz163_0, hfz163_1, hfz163_2, hfz163_3⟩ := fZ4 BK353.out
                go_wp2_with (first | ((with_reducible refine gC (f := 43) rfl ?_); refine goesL_ (some 100) rfl rfl Try.func43 (by kernel_rfl) rfl #[.agg #[.int .i64 t344, .int .i64 t345, .slice Ao43 t371.length co43, .slice Ao44 t372.length co44], .int .i64 1] rfl lQ ?_; (with_reducible refine (laws_heldGrammar.calls kj111 t344 t345 _ _ t371 _ _ t372 1 t397 _ ?side1 ?side2 ?side3 ?side4 A152.out).mono ?_); (case side1 => exact cP (Kd.R_reads' HO_354002.out).2.2); (case side2 => exact (Kd.R_reads' HO_354002.out).2.1); (case side3 => exact cP (Kd.R_reads' HO_354003.out).2.2); (case side4 => exact (Kd.R_reads' HO_354003.out).2.1); rintro e w164 ⟨rfl, hb⟩; refine ⟨_, rfl, ?_⟩; have n0_ := Aside0.mk (rB (rQ HO_331002) hb); have n1_ := Aside0.mk (rB (rQ HO_331003) hb); have n2_ := Aside0.mk (rB (rQ HO_354002) hb); have n3_ := Aside0.mk (rB (rQ HO_354003) hb); have n4_ := Aside0.mk (rB (rQ HO_396002) hb); have n5_ := Aside0.mk (rB (rQ HO_396003) hb); have n6_ := Aside0.mk (kB (kQ BK307) hb); have n7_ := Aside0.mk (kB (kQ BK330) hb); have n8_ := Aside0.mk (kB (kQ BK353) hb); have n9_ := Aside0.mk (kB (kQ BK395) hb); have n10_ := Aside0.mk (bP (by repeat (first | (with_reducible first | exact HB.out | apply bA | apply bN | apply bD | refine bS ?_ GE307.out | refine bS ?_ GE330.out | refine bS ?_ GE353.out | refine bS ?_ GE395.out) | exact HB.out)) hb); clear HO_331002; clear HO_331003; clear HO_354002; clear HO_354003; clear HO_396002; clear HO_396003; clear BK307; clear BK330; clear BK353; clear BK395; clear HB; have HO_331002 := n0_; have HO_331003 := n1_; have HO_354002 := n2_; have HO_354003 := n3_; have HO_396002 := n4_; have HO_396003 := n5_; have BK307 := n6_; have BK330 := n7_; have BK353 := n8_; have BK395 := n9_; have HB := n10_; clear n0_ n1_ n2_ n3_ n4_ n5_ n6_ n7_ n8_ n9_ n10_; (try clear hb); (try clear hb2); (try clear hk); (try clear hi)))
                go_ret
                exact ⟨by first | rfl | (simp [errW_none, errW_some] <;> rfl) | (simp [*, errW_none, errW_some] <;> rfl), by repeat (first | (with_reducible first | exact HB.out | apply bA | apply bN | apply bD | refine bS ?_ GE307.out | refine bS ?_ GE330.out | refine bS ?_ GE353.out | refine bS ?_ GE395.out) | exact HB.out)⟩
               ·rw [if_neg c159] at H
                have c159b0 : (t397 == t370) = false := beq_eq_false_iff_ne.mpr c159
                have c159b1 : (t397 != t370) = true := bne_iff_ne.mpr c159
                obtain rfl := Option.some.inj H
                have hnb165 := NB353_307.out
                have hnc165 := NB307_353.out
                have hnb166 := NB353_330.out
                have hnc166 := NB330_353.out
                have hnb167 := NB353_395.out
                have hnc167 := NB395_353.out
                obtain ⟨hcz168_0, hcz168_1, hcz168_2, hcz168_3⟩ := cZ4 BK353.out
                obtain ⟨hfz168_0, hfz168_1, hfz168_2, hfz168_3⟩ := fZ4 BK353.out
                go_wp2_with (first | ((with_reducible refine gC (f := 43) rfl ?_); refine goesL_ (some 100) rfl rfl Try.func43 (by kernel_rfl) rfl #[.agg #[.int .i64 t344, .int .i64 t345, .slice Ao43 t371.length co43, .slice Ao44 t372.length co44], .int .i64 1] rfl lQ ?_; (with_reducible refine (laws_heldGrammar.calls kj111 t344 t345 _ _ t371 _ _ t372 1 t397 _ ?side1 ?side2 ?side3 ?side4 A152.out).mono ?_); (case side1 => exact cP (Kd.R_reads' HO_354002.out).2.2); (case side2 => exact (Kd.R_reads' HO_354002.out).2.1); (case side3 => exact cP (Kd.R_reads' HO_354003.out).2.2); (case side4 => exact (Kd.R_reads' HO_354003.out).2.1); rintro e w169 ⟨rfl, hb⟩; refine ⟨_, rfl, ?_⟩; have n0_ := Aside0.mk (rB (rQ HO_331002) hb); have n1_ := Aside0.mk (rB (rQ HO_331003) hb); have n2_ := Aside0.mk (rB (rQ HO_354002) hb); have n3_ := Aside0.mk (rB (rQ HO_354003) hb); have n4_ := Aside0.mk (rB (rQ HO_396002) hb); have n5_ := Aside0.mk (rB (rQ HO_396003) hb); have n6_ := Aside0.mk (kB (kQ BK307) hb); have n7_ := Aside0.mk (kB (kQ BK330) hb); have n8_ := Aside0.mk (kB (kQ BK353) hb); have n9_ := Aside0.mk (kB (kQ BK395) hb); have n10_ := Aside0.mk (bP (by repeat (first | (with_reducible first | exact HB.out | apply bA | apply bN | apply bD | refine bS ?_ GE307.out | refine bS ?_ GE330.out | refine bS ?_ GE353.out | refine bS ?_ GE395.out) | exact HB.out)) hb); clear HO_331002; clear HO_331003; clear HO_354002; clear HO_354003; clear HO_396002; clear HO_396003; clear BK307; clear BK330; clear BK353; clear BK395; clear HB; have HO_331002 := n0_; have HO_331003 := n1_; have HO_354002 := n2_; have HO_354003 := n3_; have HO_396002 := n4_; have HO_396003 := n5_; have BK307 := n6_; have BK330 := n7_; have BK353 := n8_; have BK395 := n9_; have HB := n10_; clear n0_ n1_ n2_ n3_ n4_ n5_ n6_ n7_ n8_ n9_ n10_; (try clear hb); (try clear hb2); (try clear hk); (try clear hi)))
                go_ret
                exact ⟨by first | rfl | (simp [errW_none, errW_some] <;> rfl) | (simp [*, errW_none, errW_some] <;> rfl), by repeat (first | (with_reducible first | exact HB.out | apply bA | apply bN | apply bD | refine bS ?_ GE307.out | refine bS ?_ GE330.out | refine bS ?_ GE353.out | refine bS ?_ GE395.out) | exact HB.out)⟩
          ·rw [if_neg c109] at H
           have c109b0 : (t373 == t370) = false := beq_eq_false_iff_ne.mpr c109
           have c109b1 : (t373 != t370) = true := bne_iff_ne.mpr c109
           obtain rfl := Option.some.inj H
           have hnb170 := NB353_307.out
           have hnc170 := NB307_353.out
           have hnb171 := NB353_330.out
           have hnc171 := NB330_353.out
           obtain ⟨hcz172_0, hcz172_1, hcz172_2, hcz172_3⟩ := cZ4 BK353.out
           obtain ⟨hfz172_0, hfz172_1, hfz172_2, hfz172_3⟩ := fZ4 BK353.out
           go_wp2_with (first | ((with_reducible refine gC (f := 30) rfl ?_); refine goesL_ (some 72) rfl rfl Try.func30 (by kernel_rfl) rfl #[.agg #[.int .i64 t344, .int .i64 t345, .slice Ao43 t346.length co43, .slice Ao44 t349.length co44], .int .i64 1] rfl lQ ?_; (with_reducible refine (laws_markGrammar.calls kj67 t344 t345 (fun k_ => some k_ = (.slice Ao43 t346.length co43 : Value).ownBlock) (.slice Ao43 t346.length co43) t346 (fun k_ => some k_ = (.slice Ao44 t349.length co44 : Value).ownBlock) (.slice Ao44 t349.length co44) t349 1 t370 t371 t372 w _ ?side1 ?side2 ?side3 A100.out).mono ?_); (case side1 => repeat (first | (with_reducible first | exact HB.out | apply bA | apply bN | apply bD | refine bS ?_ GE307.out | refine bS ?_ GE330.out | refine bS ?_ GE353.out) | exact HB.out)); (case side2 => exact Kd.R_tight rfl HO_354002.out); (case side3 => exact Kd.R_tight rfl HO_354003.out); rintro e w173 ⟨rfl, hy0, hy1, hb, hkp⟩; refine ⟨_, rfl, ?_⟩; have n0_ := Aside0.mk (rM (ok' := fun k_ => some k_ ≠ (.slice Ao43 t346.length co43 : Value).ownBlock) (Kd.R_keptB ((Kd.R_apart' HO_331002.out (Kd.R_typed HO_354003.out) (by decide))) hkp (fun k_ hk_ hs_ => Or.elim hs_ (fun e_ => (hk_.1) e_) (fun e_ => (hk_.2) e_))) (fun k_ hk_ => hk_.1.1)); have n1_ := Aside0.mk (rM (ok' := fun k_ => some k_ ≠ (.slice Ao44 t349.length co44 : Value).ownBlock) (Kd.R_keptB ((Kd.R_apart' HO_331003.out (Kd.R_typed HO_354002.out) (by decide))) hkp (fun k_ hk_ hs_ => Or.elim hs_ (fun e_ => (hk_.2) e_) (fun e_ => (hk_.1) e_))) (fun k_ hk_ => hk_.1.1)); have n2_ := Aside0.mk (Kd.R_reok rfl hy0 (fun k_ e_ => HO_354002.out.1 k_ e_)); have n3_ := Aside0.mk (Kd.R_reok rfl hy1 (fun k_ e_ => HO_354003.out.1 k_ e_)); have n4_ := Aside0.mk (blk_kept (kQ BK307) hkp (fun hs_ => Or.elim hs_ (fun e_ => (fun e_ => (Kd.R_ne HO_354002.out BK307.out (by decide)) e_) e_) (fun e_ => (fun e_ => (Kd.R_ne HO_354003.out BK307.out (by decide)) e_) e_))); have n5_ := Aside0.mk (blk_kept (kQ BK330) hkp (fun hs_ => Or.elim hs_ (fun e_ => (fun e_ => (Kd.R_ne HO_354002.out BK330.out (by decide)) e_) e_) (fun e_ => (fun e_ => (Kd.R_ne HO_354003.out BK330.out (by decide)) e_) e_))); have n6_ := Aside0.mk (blk_kept (kQ BK353) hkp (fun hs_ => Or.elim hs_ (fun e_ => (fun e_ => (Kd.R_ne HO_354002.out BK353.out (by decide)) e_) e_) (fun e_ => (fun e_ => (Kd.R_ne HO_354003.out BK353.out (by decide)) e_) e_))); have n7_ := Aside0.mk (hb); clear HO_331002; clear HO_331003; clear HO_354002; clear HO_354003; clear BK307; clear BK330; clear BK353; clear HB; have HO_331002 := n0_; have HO_331003 := n1_; have HO_354002 := n2_; have HO_354003 := n3_; have BK307 := n4_; have BK330 := n5_; have BK353 := n6_; have HB := n7_; clear n0_ n1_ n2_ n3_ n4_ n5_ n6_ n7_; (try clear hb); (try clear hkp); (try clear hy0); (try clear hy1); obtain ⟨hcz174_0, hcz174_1, hcz174_2, hcz174_3⟩ := cZ4 BK353.out; obtain ⟨hfz174_0, hfz174_1, hfz174_2, hfz174_3⟩ := fZ4 BK353.out) | ((with_reducible refine gC (f := 43) rfl ?_); refine goesL_ (some 75) rfl rfl Try.func43 (by kernel_rfl) rfl #[.agg #[.int .i64 t344, .int .i64 t345, .slice Ao43 t371.length co43, .slice Ao44 t372.length co44], .int .i64 1] rfl (by (try simp only [List.map_toArray, List.map_cons, List.map_nil]); first | done | (rw [show t371.length = t346.length from (Kd.R_reads' HO_354002.out).1.symm, show t372.length = t349.length from (Kd.R_reads' HO_354003.out).1.symm] <;> rfl) | rfl | (simp only [List.length_drop, List.length_take]; rfl)) ?_; (with_reducible refine (laws_heldGrammar.calls kj67 t344 t345 _ _ t371 _ _ t372 1 t373 _ ?side1 ?side2 ?side3 ?side4 A101.out).mono ?_); (case side1 => exact cP (Kd.R_reads' HO_354002.out).2.2); (case side2 => rw [show t371.length = t346.length from (Kd.R_reads' HO_354002.out).1.symm]; exact (Kd.R_reads' HO_354002.out).2.1); (case side3 => exact cP (Kd.R_reads' HO_354003.out).2.2); (case side4 => rw [show t372.length = t349.length from (Kd.R_reads' HO_354003.out).1.symm]; exact (Kd.R_reads' HO_354003.out).2.1); rintro e w175 ⟨rfl, hb⟩; refine ⟨_, rfl, ?_⟩; have n0_ := Aside0.mk (rB (rQ HO_331002) hb); have n1_ := Aside0.mk (rB (rQ HO_331003) hb); have n2_ := Aside0.mk (rB (rQ HO_354002) hb); have n3_ := Aside0.mk (rB (rQ HO_354003) hb); have n4_ := Aside0.mk (kB (kQ BK307) hb); have n5_ := Aside0.mk (kB (kQ BK330) hb); have n6_ := Aside0.mk (kB (kQ BK353) hb); have n7_ := Aside0.mk (bP (by repeat (first | (with_reducible first | exact HB.out | apply bA | apply bN | apply bD | refine bS ?_ GE307.out | refine bS ?_ GE330.out | refine bS ?_ GE353.out) | exact HB.out)) hb); clear HO_331002; clear HO_331003; clear HO_354002; clear HO_354003; clear BK307; clear BK330; clear BK353; clear HB; have HO_331002 := n0_; have HO_331003 := n1_; have HO_354002 := n2_; have HO_354003 := n3_; have BK307 := n4_; have BK330 := n5_; have BK353 := n6_; have HB := n7_; clear n0_ n1_ n2_ n3_ n4_ n5_ n6_ n7_; (try clear hb); (try clear hb2); (try clear hk); (try clear hi)))
           go_ret
           exact ⟨by first | rfl | (simp [errW_none, errW_some] <;> rfl) | (simp [*, errW_none, errW_some] <;> rfl), by repeat (first | (with_reducible first | exact HB.out | apply bA | apply bN | apply bD | refine bS ?_ GE307.out | refine bS ?_ GE330.out | refine bS ?_ GE353.out) | exact HB.out)⟩
     ·replace c66 := Bool.eq_false_iff.mpr c66
      subst c66
      have H1 : (some false) = some r := by rw [if_neg (show ¬ (false = true) by decide)] at H; exact H
      clear H
      have H := H1
      clear H1
      obtain rfl := Option.some.inj H
      try go_wp2
      have n0_ := Aside0.mk (rD HO_331002.out)
      have n1_ := Aside0.mk (rD HO_331003.out)
      have n2_ := Aside0.mk (rD HO_344001.out)
      have n3_ := Aside0.mk (rD HO_344002.out)
      have n4_ := Aside0.mk (Kd.S_drew HO_344005.out)
      have n5_ := Aside0.mk (rD HO_354002.out)
      have n6_ := Aside0.mk (rD HO_354003.out)
      have n7_ := Aside0.mk (kD BK307.out)
      have n8_ := Aside0.mk (kD BK330.out)
      have n9_ := Aside0.mk (kD BK343.out)
      have n10_ := Aside0.mk (kD BK353.out)
      have n11_ := Aside0.mk (bD HB.out)
      clear HO_331002
      clear HO_331003
      clear HO_344001
      clear HO_344002
      clear HO_344005
      clear HO_354002
      clear HO_354003
      clear BK307
      clear BK330
      clear BK343
      clear BK353
      clear HB
      have HO_331002 := n0_
      have HO_331003 := n1_
      have HO_344001 := n2_
      have HO_344002 := n3_
      have HO_344005 := n4_
      have HO_354002 := n5_
      have HO_354003 := n6_
      have BK307 := n7_
      have BK330 := n8_
      have BK343 := n9_
      have BK353 := n10_
      have HB := n11_
      clear n0_ n1_ n2_ n3_ n4_ n5_ n6_ n7_ n8_ n9_ n10_ n11_
      refine start_ (n := 5) (S := fun w' => w'.cell? ⟨gb343, 0, none⟩ = some (.string t331) ∧ w'.cell? ⟨gb343, 1, none⟩ = some (.slice Ao34 t332.length co34) ∧ w'.cell? ⟨gb343, 2, none⟩ = some (.slice Ao35 t335.length co35) ∧ w'.cell? ⟨gb343, 3, none⟩ = some (.int .i64 t338) ∧ w'.cell? ⟨gb343, 4, none⟩ = some (.int .i64 t339) ∧ w'.cell? ⟨gb343, 5, none⟩ = some (.slice Ao36 t340.length co36) ∧ w'.cell? ⟨gb307, 0, none⟩ = some (.string a0_0) ∧ w'.cell? ⟨gb307, 1, none⟩ = some (.slice A0_1 l0_1.length c0_1) ∧ w'.cell? ⟨gb307, 2, none⟩ = some (.slice A0_2 l0_2.length c0_2) ∧ w'.cell? ⟨gb307, 3, none⟩ = some (.int .i64 a0_3) ∧ w'.cell? ⟨gb307, 4, none⟩ = some (.int .i64 a0_4) ∧ w'.cell? ⟨gb307, 5, none⟩ = some (.slice A0_5 l0_5.length c0_5)) (ds := []) #[F,F,F,F,F] (by kernel_rfl) rfl rfl ⟨(kC BK343.out 0).trans rfl, (kC BK343.out 1).trans rfl, (kC BK343.out 2).trans rfl, (kC BK343.out 3).trans rfl, (kC BK343.out 4).trans rfl, (kC BK343.out 5).trans rfl, (kC BK307.out 0).trans rfl, (kC BK307.out 1).trans rfl, (kC BK307.out 2).trans rfl, (kC BK307.out 3).trans rfl, (kC BK307.out 4).trans rfl, (kC BK307.out 5).trans rfl⟩ (fun hHeld => ?_)
      generalize wc.drew = w176 at HO_331002 HO_331003 HO_344001 HO_344002 HO_344005 HO_354002 HO_354003 BK307 BK330 BK343 BK353 HB hHeld ⊢
      refine take_ (i := 0) (N := some 49) (v := ?_) (a' := ?_) #[T,F,F,F,F] rfl rfl (by kernel_rfl) (fun _ _ _ h => h) (Or.inl ⟨by rfl, ?_⟩) hHeld ?_ ?_; rotate_left; (·rintro w' ⟨s0, s1, s2, s3, s4, s5, s6, s7, s8, s9, s10, s11⟩; go_simp; with_reducible rfl); rotate_left; (·simp only [Act.put, sI, sZ, sS, iW, jW]; rfl)
      refine take_ (i := 1) (N := some 50) (v := ?_) (a' := ?_) #[T,T,F,F,F] rfl rfl (by kernel_rfl) (fun _ _ _ h => h) (Or.inl ⟨by rfl, ?_⟩) hHeld ?_ ?_; rotate_left; (·rintro w' ⟨s0, s1, s2, s3, s4, s5, s6, s7, s8, s9, s10, s11⟩; go_simp; with_reducible rfl); rotate_left; (·simp only [Act.put, sI, sZ, sS, iW, jW]; rfl)
      refine one_ (i := 2) (N := some 51) #[T,T,T,F,F] rfl rfl (by kernel_rfl) (by decide) (fun K hK => ?_)
      refine goes_ Try.func46 (by kernel_rfl) rfl #[.agg #[.string a0_0, .slice A0_1 l0_1.length c0_1, .slice A0_2 l0_2.length c0_2, .int .i64 a0_3, .int .i64 a0_4, .slice A0_5 l0_5.length c0_5]] (by rfl) rfl rfl lQ ?_
      with_reducible refine (laws_toRaga.calls kj12 a0_0 _ _ l0_1 _ _ l0_2 a0_3 a0_4 _ _ l0_5 t355 t356 t359 t362 t363 t364 _ ?side1 ?side2 ?side3 ?side4 ?side5 ?side6 A64.out).mono ?_
      (case side1 => exact cP (cB HR0_1.out HB.out))
      (case side2 => exact HC0_1.out)
      (case side3 => exact cP (cB HR0_2.out HB.out))
      (case side4 => exact HC0_2.out)
      (case side5 => exact cP (cB HR0_5.out HB.out))
      (case side6 => exact HC0_5.out)
      rintro e w177 ⟨v357, v360, v365, rfl, ho0, ho1, ho2, hb⟩
      refine ⟨_, rfl, ?_⟩
      have z_ := bX hb (by repeat (first | (with_reducible first | exact HB.out | apply bA | apply bN | apply bD | refine bS ?_ GE307.out | refine bS ?_ GE330.out | refine bS ?_ GE343.out | refine bS ?_ GE353.out) | exact HB.out))
      have n0_ := Aside0.mk (rM (Kd.R_told (Kd.R_told (Kd.R_old (rQ HO_331002) hb) (Kd.R_base ho0)) (Kd.R_base ho1)) (fun _ h_ => h_.1))
      have n1_ := Aside0.mk (rB (rQ HO_331003) hb)
      have n2_ := Aside0.mk (rM (Kd.R_told (Kd.R_told (Kd.R_old (rQ HO_344001) hb) (Kd.R_base ho0)) (Kd.R_base ho1)) (fun _ h_ => h_.1))
      have n3_ := Aside0.mk (rM (Kd.R_told (Kd.R_told (Kd.R_old (rQ HO_344002) hb) (Kd.R_base ho0)) (Kd.R_base ho1)) (fun _ h_ => h_.1))
      have n4_ := Aside0.mk (Kd.S_mono (Kd.S_told (Kd.S_told (Kd.S_told (Kd.S_old (by (with_reducible repeat (first | apply Kd.S_alloc | apply Kd.S_drewN | apply Kd.S_drew)); exact HO_344005.out) hb) (Kd.R_base ho0)) (Kd.R_base ho1)) (Kd.S_base ho2)) (fun _ h_ => h_.1))
      have n5_ := Aside0.mk (rM (Kd.R_told (Kd.R_told (Kd.R_old (rQ HO_354002) hb) (Kd.R_base ho0)) (Kd.R_base ho1)) (fun _ h_ => h_.1))
      have n6_ := Aside0.mk (rB (rQ HO_354003) hb)
      have n7_ := Aside0.mk (rL (rW (rW (rW (rW ho0 (rT (rQ HO_331002))) (rT (rQ HO_344001))) (rT (rQ HO_344002))) (rT (rQ HO_354002))) (bZ z_))
      have n8_ := Aside0.mk (rL (rW (rW (rW (rW ho1 (rT (rQ HO_331002))) (rT (rQ HO_344001))) (rT (rQ HO_344002))) (rT (rQ HO_354002))) (bZ z_))
      have n9_ := Aside0.mk (Kd.S_lower (Kd.S_new' (Kd.S_new' (Kd.S_new' (Kd.S_new' (Kd.S_new' ho2 (rT (rQ HO_331002))) (rT (rQ HO_344001))) (rT (rQ HO_344002))) (Kd.S_lt (by (with_reducible repeat (first | apply Kd.S_alloc | apply Kd.S_drewN | apply Kd.S_drew)); exact HO_344005.out))) (rT (rQ HO_354002))) (bZ z_))
      have n10_ := Aside0.mk (kB (kQ BK307) hb)
      have n11_ := Aside0.mk (kB (kQ BK330) hb)
      have n12_ := Aside0.mk (kB (kQ BK343) hb)
      have n13_ := Aside0.mk (kB (kQ BK353) hb)
      have n14_ := Aside0.mk (bP z_ hb)
      clear HO_331002
      clear HO_331003
      clear HO_344001
      clear HO_344002
      clear HO_344005
      clear HO_354002
      clear HO_354003
      clear BK307
      clear BK330
      clear BK343
      clear BK353
      clear HB
      have HO_331002 := n0_
      have HO_331003 := n1_
      have HO_344001 := n2_
      have HO_344002 := n3_
      have HO_344005 := n4_
      have HO_354002 := n5_
      have HO_354003 := n6_
      have HO358 := n7_
      have HO361 := n8_
      have HO366 := n9_
      have BK307 := n10_
      have BK330 := n11_
      have BK343 := n12_
      have BK353 := n13_
      have HB := n14_
      clear z_ n0_ n1_ n2_ n3_ n4_ n5_ n6_ n7_ n8_ n9_ n10_ n11_ n12_ n13_ n14_
      (try clear hb)
      (try clear hb2)
      (try clear hk)
      (try clear hi)
      (try clear ho0)
      (try clear ho1)
      (try clear ho2)
      obtain ⟨Ao178, co178, eo178⟩ := Kd.R_slice HO358.out
      (first | subst eo178 | (injection eo178 with f1_ f2_ f3_; have f4_ := f1_.symm; have f5_ := f3_.symm; clear f1_ f2_ f3_; subst f4_; subst f5_))
      obtain ⟨Ao179, co179, eo179⟩ := Kd.R_slice HO361.out
      (first | subst eo179 | (injection eo179 with f1_ f2_ f3_; have f4_ := f1_.symm; have f5_ := f3_.symm; clear f1_ f2_ f3_; subst f4_; subst f5_))
      obtain ⟨Ao180, co180, eo180⟩ := Kd.S_slice HO366.out
      (first | subst eo180 | (injection eo180 with f1_ f2_ f3_; have f4_ := f1_.symm; have f5_ := f3_.symm; clear f1_ f2_ f3_; subst f4_; subst f5_))
      refine hK.out _ _ ⟨(kC BK343.out 0).trans rfl, (kC BK343.out 1).trans rfl, (kC BK343.out 2).trans rfl, (kC BK343.out 3).trans rfl, (kC BK343.out 4).trans rfl, (kC BK343.out 5).trans rfl, (kC BK307.out 0).trans rfl, (kC BK307.out 1).trans rfl, (kC BK307.out 2).trans rfl, (kC BK307.out 3).trans rfl, (kC BK307.out 4).trans rfl, (kC BK307.out 5).trans rfl⟩ (fun hHeld => ?_)
      clear hK K
      refine norm_ (a' := ?_) ?_ ?_
      rotate_left
      ·show Act.put _ (some 51) _ = _
       simp only [Act.put, sI, sZ, sS, iW, jW]
       rfl
      refine one_ (i := 3) (N := some 52) #[T,T,T,T,F] rfl rfl (by kernel_rfl) (by decide) (fun K hK => ?_)
      refine goes_ Try.func48 (by kernel_rfl) rfl #[.agg #[.string t331, .slice Ao34 t332.length co34, .slice Ao35 t335.length co35, .int .i64 t338, .int .i64 t339, .slice Ao36 t340.length co36], .agg #[.string t355, .slice Ao178 t356.length co178, .slice Ao179 t359.length co179, .int .i64 t362, .int .i64 t363, .slice Ao180 t364.length co180]] (by rfl) rfl rfl lQ ?_
      with_reducible refine (laws_eqRaga.calls kj12 t331 _ _ t332 _ _ t335 t338 t339 _ _ t340 t355 _ _ t356 _ _ t359 t362 t363 _ _ t364 false _ ?side1 ?side2 ?side3 ?side4 ?side5 ?side6 ?side7 ?side8 ?side9 ?side10 ?side11 ?side12 A65.out).mono ?_
      (case side1 => exact cP (Kd.R_reads' HO_344001.out).2.2)
      (case side2 => exact (Kd.R_reads' HO_344001.out).2.1)
      (case side3 => exact cP (Kd.R_reads' HO_344002.out).2.2)
      (case side4 => exact (Kd.R_reads' HO_344002.out).2.1)
      (case side5 => exact cP (Kd.S_reads' HO_344005.out).2.2)
      (case side6 => exact (Kd.S_reads' HO_344005.out).2.1)
      (case side7 => exact cP (Kd.R_reads' HO358.out).2.2)
      (case side8 => exact (Kd.R_reads' HO358.out).2.1)
      (case side9 => exact cP (Kd.R_reads' HO361.out).2.2)
      (case side10 => exact (Kd.R_reads' HO361.out).2.1)
      (case side11 => exact cP (Kd.S_reads' HO366.out).2.2)
      (case side12 => exact (Kd.S_reads' HO366.out).2.1)
      rintro e w181 ⟨rfl, hb⟩
      refine ⟨_, rfl, ?_⟩
      have n0_ := Aside0.mk (rB (rQ HO_331002) hb)
      have n1_ := Aside0.mk (rB (rQ HO_331003) hb)
      have n2_ := Aside0.mk (rB (rQ HO_344001) hb)
      have n3_ := Aside0.mk (rB (rQ HO_344002) hb)
      have n4_ := Aside0.mk (Kd.S_below (by (with_reducible repeat (first | apply Kd.S_alloc | apply Kd.S_drewN | apply Kd.S_drew)); exact HO_344005.out) hb)
      have n5_ := Aside0.mk (rB (rQ HO_354002) hb)
      have n6_ := Aside0.mk (rB (rQ HO_354003) hb)
      have n7_ := Aside0.mk (rB (rQ HO358) hb)
      have n8_ := Aside0.mk (rB (rQ HO361) hb)
      have n9_ := Aside0.mk (Kd.S_below (by (with_reducible repeat (first | apply Kd.S_alloc | apply Kd.S_drewN | apply Kd.S_drew)); exact HO366.out) hb)
      have n10_ := Aside0.mk (kB (kQ BK307) hb)
      have n11_ := Aside0.mk (kB (kQ BK330) hb)
      have n12_ := Aside0.mk (kB (kQ BK343) hb)
      have n13_ := Aside0.mk (kB (kQ BK353) hb)
      have n14_ := Aside0.mk (bP (by repeat (first | (with_reducible first | exact HB.out | apply bA | apply bN | apply bD | refine bS ?_ GE307.out | refine bS ?_ GE330.out | refine bS ?_ GE343.out | refine bS ?_ GE353.out) | exact HB.out)) hb)
      clear HO_331002
      clear HO_331003
      clear HO_344001
      clear HO_344002
      clear HO_344005
      clear HO_354002
      clear HO_354003
      clear HO358
      clear HO361
      clear HO366
      clear BK307
      clear BK330
      clear BK343
      clear BK353
      clear HB
      have HO_331002 := n0_
      have HO_331003 := n1_
      have HO_344001 := n2_
      have HO_344002 := n3_
      have HO_344005 := n4_
      have HO_354002 := n5_
      have HO_354003 := n6_
      have HO358 := n7_
      have HO361 := n8_
      have HO366 := n9_
      have BK307 := n10_
      have BK330 := n11_
      have BK343 := n12_
      have BK353 := n13_
      have HB := n14_
      clear n0_ n1_ n2_ n3_ n4_ n5_ n6_ n7_ n8_ n9_ n10_ n11_ n12_ n13_ n14_
      (try clear hb)
      (try clear hb2)
      (try clear hk)
      (try clear hi)
      refine hK.out _ _ ⟨(kC BK343.out 0).trans rfl, (kC BK343.out 1).trans rfl, (kC BK343.out 2).trans rfl, (kC BK343.out 3).trans rfl, (kC BK343.out 4).trans rfl, (kC BK343.out 5).trans rfl, (kC BK307.out 0).trans rfl, (kC BK307.out 1).trans rfl, (kC BK307.out 2).trans rfl, (kC BK307.out 3).trans rfl, (kC BK307.out 4).trans rfl, (kC BK307.out 5).trans rfl⟩ (fun hHeld => ?_)
      clear hK K
      refine norm_ (a' := ?_) ?_ ?_
      rotate_left
      ·show Act.put _ (some 52) _ = _
       simp only [Act.put, sI, sZ, sS, iW, jW]
       rfl
      refine pure_ (i := 4) (N := some 53) (v := ?_) (a' := ?_) #[T,T,T,T,T] rfl rfl (by kernel_rfl) (fun _ _ _ h => h) (Or.inl ⟨by rfl, ?_⟩) ?_ ?_; rotate_left; (·intro w'; go_simp; with_reducible rfl); rotate_left; (·simp only [Act.put, sI, sZ, sS, iW, jW]; rfl)
      refine done_ (by kernel_rfl) ?_
      try go_wp2
      go_ret
      exact ⟨by first | rfl | (simp [errW_none, errW_some] <;> rfl) | (simp [*, errW_none, errW_some] <;> rfl), by repeat (first | (with_reducible first | exact HB.out | apply bA | apply bN | apply bD | refine bS ?_ GE307.out | refine bS ?_ GE330.out | refine bS ?_ GE343.out | refine bS ?_ GE353.out) | exact HB.out)⟩

/-- THE ONE PURE STATEMENT of laws_FnExactGrammarOf. -/
def laws_FnExactGrammarOf.Pure : Prop := ∀ (a0_0 : ByteArray) (l0_1 : List Int) (l0_2 : List Int) (a0_3 : Int) (a0_4 : Int) (l0_5 : List (List Int)) (a1 : Int) (a2 : Int), a0_0.size ≤ maxLen → (l0_1.length ≤ maxLen ∧ ∀ x ∈ l0_1, (Lit.int .i64 x).wf = true) → (l0_2.length ≤ maxLen ∧ ∀ x ∈ l0_2, (Lit.int .i64 x).wf = true) → (Lit.int .i64 a0_3).wf = true → (Lit.int .i64 a0_4).wf = true → (l0_5.length ≤ maxLen ∧ ∀ x ∈ l0_5, (x.length ≤ maxLen ∧ ∀ y ∈ x, (Lit.int .i64 y).wf = true)) → (Lit.int .i64 a1).wf = true → (Lit.int .i64 a2).wf = true → ∃ k, laws_FnExactGrammarOf.f k a0_0 l0_1 l0_2 a0_3 a0_4 l0_5 a1 a2 = some true

end Go.Proofs.Ytijbhcalknfijaa.M7
-- shrunk
-- tight
-- tight2
-- tight3
