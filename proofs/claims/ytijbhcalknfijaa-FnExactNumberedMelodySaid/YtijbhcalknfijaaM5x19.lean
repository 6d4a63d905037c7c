/- What functions of the given program compute, as plain Lean functions, and that the code comes to just that; by a program of this session over the kit's print. No condition. -/
import Derived.Test.YtijbhcalknfijaaTight
import Derived.Test.YtijbhcalknfijaaM5x0
import Derived.Test.YtijbhcalknfijaaM5x1
import Derived.Test.YtijbhcalknfijaaM5x2
import Derived.Test.YtijbhcalknfijaaM5x3
import Derived.Test.YtijbhcalknfijaaM5x5
import Derived.Test.YtijbhcalknfijaaM5x6
import Derived.Test.YtijbhcalknfijaaM5x11
import Derived.Test.YtijbhcalknfijaaM5x18
namespace Go.Proofs.Ytijbhcalknfijaa.M5
open Go.RowKit Go.Proofs.YtijbhcalknfijaaW.PrintWords Go.Proofs.YtijbhcalknfijaaW.PrintLast Go.Proofs.YtijbhcalknfijaaW.PrintMore
open Go.Proofs.YtijbhcalknfijaaW.PrintWords renaming below_alloc → bA, pw_below_drewN → bN, below_drew1 → bD, below_set → bS, blk_drewN → kN, blk_drew → kD, blk_alloc → kA, blk_below → kB, below_size → bZ, below_step → bP, blk_far → kF, blk_lt → kL, gate_callee → gC, box_event → bE, blk_cell → kC
open Go.Proofs.YtijbhcalknfijaaW.PrintLast renaming i64_w → iW, i32_w → jW
open Go.Proofs.YtijbhcalknfijaaW.PrintWords.Kd renaming R_alloc → rA, R_drewN → rN, R_drew → rD, C_alloc → cA, C_drewN → cN, C_drew → cD, C_below → cB, R_lower → rL, R_below → rB, R_elder' → rE, R_new' → rW, R_lt → rT, R_mono → rM
open List renaming setIfInBounds_toArray → sI, set_cons_zero → sZ, set_cons_succ → sS
open Bool renaming true → T, false → F
attribute [local go_sem] max2_int min2_int max_two min_two max_three min_three max_four min_four   -- for this text's walks alone
set_option linter.unusedVariables false
set_option linter.unusedSimpArgs false

/-! ### laws_FnExactNumberedMelody: function 8 -/
mutual
def laws_FnExactNumberedMelody.j0 : Nat → Int → Int → List Int → Int → List Int → Int → Bool → Int → Int → List Int → List (S108) → Int → Int → List Int → List (S67) → Option (Bool)
 | 0, _, _, _, _, _, _, _, _, _, _, _, _, _, _, _ => none
 | k + 1, x1, x2, x8, x9, x11, x12, x48, x292000, x292001, x292002, x292003, x314000, x314001, x314002, x314003 => if x48 = true then (some false) else ((laws_toGrammar.f k x292000 x292001 x292002 x292003).bind fun bt319 => ((laws_eqGrammar.f k x314000 x314001 x314002 x314003 bt319.1 bt319.2.1 bt319.2.2.1 bt319.2.2.2).bind fun t327 => (if t327 = true then ((laws_markGrammar.f k x314000 x314001 x314002 x314003 1).bind fun bt328 => (if bt328.1 < 0 then (laws_FnExactNumberedMelody.j1 k x1 x2 x8 x9 x11 true x292000 x292001 x292002 x292003) else ((laws_eqInt64S.f k x11 x8).bind fun t331 => (if t331 = true then (laws_FnExactNumberedMelody.j1 k x1 x2 x8 x9 x11 (x12 != x9) x292000 x292001 x292002 x292003) else (laws_FnExactNumberedMelody.j1 k x1 x2 x8 x9 x11 true x292000 x292001 x292002 x292003))))) else (some false))))
def laws_FnExactNumberedMelody.j1 : Nat → Int → Int → List Int → Int → List Int → Bool → Int → Int → List Int → List (S108) → Option (Bool)
 | 0, _, _, _, _, _, _, _, _, _, _ => none
 | k + 1, x1, x2, x8, x9, x11, x69, x292000, x292001, x292002, x292003 => if x69 = true then (some false) else ((laws_markInt64S.f k x11 1).bind fun bt332 => ((laws_heldInt64S.f k bt332.2 1).bind fun t334 => (if t334 < 0 then (some false) else (if t334 = bt332.1 then ((laws_toGrammar.f k x292000 x292001 x292002 x292003).bind fun bt335 => ((impl_NumberedMelody.f k bt335.1 bt335.2.1 bt335.2.2.1 bt335.2.2.2 x1 x2).bind fun bt343 => ((laws_eqInt64S.f k bt343.1 x8).bind fun t347 => (if t347 = true then (laws_FnExactNumberedMelody.j2 k bt332.2 bt332.1 (bt343.2 != x9)) else (laws_FnExactNumberedMelody.j2 k bt332.2 bt332.1 true))))) else (some false)))))
def laws_FnExactNumberedMelody.j2 : Nat → List Int → Int → Bool → Option (Bool)
 | 0, _, _, _ => none
 | k + 1, x11, x14, x97 => if x97 = true then (some false) else ((laws_heldInt64S.f k x11 1).bind fun t348 => (if t348 < 0 then (some false) else (if t348 = x14 then (some true) else (some false))))
end
def laws_FnExactNumberedMelody.f (k : Nat) (a0_0 : Int) (a0_1 : Int) (l0_2 : List Int) (l0_3 : List (S108)) (a1 : Int) (a2 : Int) : Option (Bool) := (laws_szGrammar.f a0_0 a0_1 l0_2 l0_3 1048576).bind fun t292 => (if t292 < 0 then (some true) else ((laws_toGrammar.f k a0_0 a0_1 l0_2 l0_3).bind fun bt293 => ((spec_NumberedMelody.f k bt293.1 bt293.2.1 bt293.2.2.1 bt293.2.2.2 a1 a2).bind fun bt301 => ((laws_toGrammar.f k a0_0 a0_1 l0_2 l0_3).bind fun bt305 => ((impl_NumberedMelody.f k bt305.1 bt305.2.1 bt305.2.2.1 bt305.2.2.2 a1 a2).bind fun bt314 => ((laws_eqInt64S.f k bt314.1 bt301.1).bind fun t318 => (if t318 = true then (laws_FnExactNumberedMelody.j0 k a1 a2 bt301.1 bt301.2 bt314.1 bt314.2 (bt314.2 != bt301.2) a0_0 a0_1 l0_2 l0_3 bt305.1 bt305.2.1 bt305.2.2.1 bt305.2.2.2) else (laws_FnExactNumberedMelody.j0 k a1 a2 bt301.1 bt301.2 bt314.1 bt314.2 true a0_0 a0_1 l0_2 l0_3 bt305.1 bt305.2.1 bt305.2.2.1 bt305.2.2.2))))))))
theorem laws_FnExactNumberedMelody.mono_l : ∀ k, (∀ y0 y1 y2 y3 y4 y5 y6 y7 y8 y9 y10 y11 y12 y13 y14, LeO (laws_FnExactNumberedMelody.j0 k y0 y1 y2 y3 y4 y5 y6 y7 y8 y9 y10 y11 y12 y13 y14) (laws_FnExactNumberedMelody.j0 (k + 1) y0 y1 y2 y3 y4 y5 y6 y7 y8 y9 y10 y11 y12 y13 y14)) ∧ (∀ y0 y1 y2 y3 y4 y5 y6 y7 y8 y9, LeO (laws_FnExactNumberedMelody.j1 k y0 y1 y2 y3 y4 y5 y6 y7 y8 y9) (laws_FnExactNumberedMelody.j1 (k + 1) y0 y1 y2 y3 y4 y5 y6 y7 y8 y9)) ∧ (∀ y0 y1 y2, LeO (laws_FnExactNumberedMelody.j2 k y0 y1 y2) (laws_FnExactNumberedMelody.j2 (k + 1) y0 y1 y2))
 | 0 => ⟨fun _ _ _ _ _ _ _ _ _ _ _ _ _ _ _ r h => by simp [laws_FnExactNumberedMelody.j0] at h, fun _ _ _ _ _ _ _ _ _ _ r h => by simp [laws_FnExactNumberedMelody.j1] at h, fun _ _ _ r h => by simp [laws_FnExactNumberedMelody.j2] at h⟩
 | k + 1 => by
  obtain ⟨ih0, ih1, ih2⟩ := laws_FnExactNumberedMelody.mono_l k
  refine ⟨?_, ?_, ?_⟩
  ·intro y0 y1 y2 y3 y4 y5 y6 y7 y8 y9 y10 y11 y12 y13 y14
   unfold laws_FnExactNumberedMelody.j0
   repeat' first
   | (with_reducible exact ih0 _ _ _ _ _ _ _ _ _ _ _ _ _ _ _)
   | (with_reducible exact ih1 _ _ _ _ _ _ _ _ _ _)
   | (with_reducible exact ih2 _ _ _)
   | (with_reducible exact impl_NumberedMelody.mono _ _ _ _ _ _ _)
   | (with_reducible exact laws_eqGrammar.mono _ _ _ _ _ _ _ _ _)
   | (with_reducible exact laws_eqInt64S.mono _ _ _)
   | (with_reducible exact laws_heldInt64S.mono _ _ _)
   | (with_reducible exact laws_markGrammar.mono _ _ _ _ _ _)
   | (with_reducible exact laws_markInt64S.mono _ _ _)
   | (with_reducible exact laws_toGrammar.mono _ _ _ _ _)
   | (with_reducible exact spec_NumberedMelody.mono _ _ _ _ _ _ _)
   | (with_reducible exact LeO.refl _)
   | (with_reducible exact LeO.none _)
   | (with_reducible refine LeO.ite ?_ ?_)
   | (with_reducible refine LeO.bind ?_ (fun _ => ?_))
   | exact ih0 _ _ _ _ _ _ _ _ _ _ _ _ _ _ _
   | exact ih1 _ _ _ _ _ _ _ _ _ _
   | exact ih2 _ _ _
   | exact impl_NumberedMelody.mono _ _ _ _ _ _ _
   | exact laws_eqGrammar.mono _ _ _ _ _ _ _ _ _
   | exact laws_eqInt64S.mono _ _ _
   | exact laws_heldInt64S.mono _ _ _
   | exact laws_markGrammar.mono _ _ _ _ _ _
   | exact laws_markInt64S.mono _ _ _
   | exact laws_toGrammar.mono _ _ _ _ _
   | exact spec_NumberedMelody.mono _ _ _ _ _ _ _
   | exact LeO.none _
   | refine LeO.ite ?_ ?_
   | refine LeO.bind ?_ (fun _ => ?_)
  ·intro y0 y1 y2 y3 y4 y5 y6 y7 y8 y9
   unfold laws_FnExactNumberedMelody.j1
   repeat' first
   | (with_reducible exact ih0 _ _ _ _ _ _ _ _ _ _ _ _ _ _ _)
   | (with_reducible exact ih1 _ _ _ _ _ _ _ _ _ _)
   | (with_reducible exact ih2 _ _ _)
   | (with_reducible exact impl_NumberedMelody.mono _ _ _ _ _ _ _)
   | (with_reducible exact laws_eqGrammar.mono _ _ _ _ _ _ _ _ _)
   | (with_reducible exact laws_eqInt64S.mono _ _ _)
   | (with_reducible exact laws_heldInt64S.mono _ _ _)
   | (with_reducible exact laws_markGrammar.mono _ _ _ _ _ _)
   | (with_reducible exact laws_markInt64S.mono _ _ _)
   | (with_reducible exact laws_toGrammar.mono _ _ _ _ _)
   | (with_reducible exact spec_NumberedMelody.mono _ _ _ _ _ _ _)
   | (with_reducible exact LeO.refl _)
   | (with_reducible exact LeO.none _)
   | (with_reducible refine LeO.ite ?_ ?_)
   | (with_reducible refine LeO.bind ?_ (fun _ => ?_))
   | exact ih0 _ _ _ _ _ _ _ _ _ _ _ _ _ _ _
   | exact ih1 _ _ _ _ _ _ _ _ _ _
   | exact ih2 _ _ _
   | exact impl_NumberedMelody.mono _ _ _ _ _ _ _
   | exact laws_eqGrammar.mono _ _ _ _ _ _ _ _ _
   | exact laws_eqInt64S.mono _ _ _
   | exact laws_heldInt64S.mono _ _ _
   | exact laws_markGrammar.mono _ _ _ _ _ _
   | exact laws_markInt64S.mono _ _ _
   | exact laws_toGrammar.mono _ _ _ _ _
   | exact spec_NumberedMelody.mono _ _ _ _ _ _ _
   | exact LeO.none _
   | refine LeO.ite ?_ ?_
   | refine LeO.bind ?_ (fun _ => ?_)
  ·intro y0 y1 y2
   unfold laws_FnExactNumberedMelody.j2
   repeat' first
   | (with_reducible exact ih0 _ _ _ _ _ _ _ _ _ _ _ _ _ _ _)
   | (with_reducible exact ih1 _ _ _ _ _ _ _ _ _ _)
   | (with_reducible exact ih2 _ _ _)
   | (with_reducible exact impl_NumberedMelody.mono _ _ _ _ _ _ _)
   | (with_reducible exact laws_eqGrammar.mono _ _ _ _ _ _ _ _ _)
   | (with_reducible exact laws_eqInt64S.mono _ _ _)
   | (with_reducible exact laws_heldInt64S.mono _ _ _)
   | (with_reducible exact laws_markGrammar.mono _ _ _ _ _ _)
   | (with_reducible exact laws_markInt64S.mono _ _ _)
   | (with_reducible exact laws_toGrammar.mono _ _ _ _ _)
   | (with_reducible exact spec_NumberedMelody.mono _ _ _ _ _ _ _)
   | (with_reducible exact LeO.refl _)
   | (with_reducible exact LeO.none _)
   | (with_reducible refine LeO.ite ?_ ?_)
   | (with_reducible refine LeO.bind ?_ (fun _ => ?_))
   | exact ih0 _ _ _ _ _ _ _ _ _ _ _ _ _ _ _
   | exact ih1 _ _ _ _ _ _ _ _ _ _
   | exact ih2 _ _ _
   | exact impl_NumberedMelody.mono _ _ _ _ _ _ _
   | exact laws_eqGrammar.mono _ _ _ _ _ _ _ _ _
   | exact laws_eqInt64S.mono _ _ _
   | exact laws_heldInt64S.mono _ _ _
   | exact laws_markGrammar.mono _ _ _ _ _ _
   | exact laws_markInt64S.mono _ _ _
   | exact laws_toGrammar.mono _ _ _ _ _
   | exact spec_NumberedMelody.mono _ _ _ _ _ _ _
   | exact LeO.none _
   | refine LeO.ite ?_ ?_
   | refine LeO.bind ?_ (fun _ => ?_)
theorem laws_FnExactNumberedMelody.mono : ∀ a0 a1 a2 a3 a4 a5 k, LeO (laws_FnExactNumberedMelody.f k a0 a1 a2 a3 a4 a5) (laws_FnExactNumberedMelody.f (k + 1) a0 a1 a2 a3 a4 a5) := by
 intro a0 a1 a2 a3 a4 a5 k
 obtain ⟨ih0, ih1, ih2⟩ := laws_FnExactNumberedMelody.mono_l k
 unfold laws_FnExactNumberedMelody.f
 repeat' first
   | (with_reducible exact ih0 _ _ _ _ _ _ _ _ _ _ _ _ _ _ _)
   | (with_reducible exact ih1 _ _ _ _ _ _ _ _ _ _)
   | (with_reducible exact ih2 _ _ _)
   | (with_reducible exact impl_NumberedMelody.mono _ _ _ _ _ _ _)
   | (with_reducible exact laws_eqGrammar.mono _ _ _ _ _ _ _ _ _)
   | (with_reducible exact laws_eqInt64S.mono _ _ _)
   | (with_reducible exact laws_heldInt64S.mono _ _ _)
   | (with_reducible exact laws_markGrammar.mono _ _ _ _ _ _)
   | (with_reducible exact laws_markInt64S.mono _ _ _)
   | (with_reducible exact laws_toGrammar.mono _ _ _ _ _)
   | (with_reducible exact spec_NumberedMelody.mono _ _ _ _ _ _ _)
   | (with_reducible exact LeO.refl _)
   | (with_reducible exact LeO.none _)
   | (with_reducible refine LeO.ite ?_ ?_)
   | (with_reducible refine LeO.bind ?_ (fun _ => ?_))
   | exact ih0 _ _ _ _ _ _ _ _ _ _ _ _ _ _ _
   | exact ih1 _ _ _ _ _ _ _ _ _ _
   | exact ih2 _ _ _
   | exact impl_NumberedMelody.mono _ _ _ _ _ _ _
   | exact laws_eqGrammar.mono _ _ _ _ _ _ _ _ _
   | exact laws_eqInt64S.mono _ _ _
   | exact laws_heldInt64S.mono _ _ _
   | exact laws_markGrammar.mono _ _ _ _ _ _
   | exact laws_markInt64S.mono _ _ _
   | exact laws_toGrammar.mono _ _ _ _ _
   | exact spec_NumberedMelody.mono _ _ _ _ _ _ _
   | exact LeO.none _
   | refine LeO.ite ?_ ?_
   | refine LeO.bind ?_ (fun _ => ?_)
set_option maxHeartbeats 8000000 in
set_option maxRecDepth 100000 in
theorem laws_FnExactNumberedMelody.calls (k : Nat) (a0_0 : Int) (a0_1 : Int) (A0_2 : Option Addr) (c0_2 : Nat) (l0_2 : List Int) (A0_3 : Option Addr) (c0_3 : Nat) (l0_3 : List (S108)) (a1 : Int) (a2 : Int) (r : Bool) (w : World) (hr0_2 : Kd.C (Kd.int .i64) w A0_2 l0_2.length l0_2) (hc0_2 : l0_2.length ≤ c0_2) (hr0_3 : Kd.C k108 w A0_3 l0_3.length l0_3) (hc0_3 : l0_3.length ≤ c0_3) (h : laws_FnExactNumberedMelody.f k a0_0 a0_1 l0_2 l0_3 a1 a2 = some r) :
  Calls Try.prog 8 #[.agg #[.int .i64 a0_0, .int .i64 a0_1, .slice A0_2 l0_2.length c0_2, .slice A0_3 l0_3.length c0_3], .int .i64 a1, .int .i64 a2] w fun e w' => e = .returned (.bool r) ∧ Below w.heap.size w w' := by
 have hu25 := Try.underlying25
 have hu30 := Try.underlying30
 have HR0_2 := Aside0.mk hr0_2
 have HC0_2 := Aside0.mk hc0_2
 clear hr0_2 hc0_2
 have HR0_3 := Aside0.mk hr0_3
 have HC0_3 := Aside0.mk hc0_3
 clear hr0_3 hc0_3
 have HB := Aside0.mk (Below.refl w.heap.size w)
 have H : ((laws_szGrammar.f a0_0 a0_1 l0_2 l0_3 1048576).bind fun t292 => (if t292 < 0 then (some true) else ((laws_toGrammar.f k a0_0 a0_1 l0_2 l0_3).bind fun bt293 => ((spec_NumberedMelody.f k bt293.1 bt293.2.1 bt293.2.2.1 bt293.2.2.2 a1 a2).bind fun bt301 => ((laws_toGrammar.f k a0_0 a0_1 l0_2 l0_3).bind fun bt305 => ((impl_NumberedMelody.f k bt305.1 bt305.2.1 bt305.2.2.1 bt305.2.2.2 a1 a2).bind fun bt314 => ((laws_eqInt64S.f k bt314.1 bt301.1).bind fun t318 => (if t318 = true then (laws_FnExactNumberedMelody.j0 k a1 a2 bt301.1 bt301.2 bt314.1 bt314.2 (bt314.2 != bt301.2) a0_0 a0_1 l0_2 l0_3 bt305.1 bt305.2.1 bt305.2.2.1 bt305.2.2.2) else (laws_FnExactNumberedMelody.j0 k a1 a2 bt301.1 bt301.2 bt314.1 bt314.2 true a0_0 a0_1 l0_2 l0_3 bt305.1 bt305.2.1 bt305.2.2.1 bt305.2.2.2))))))))) = some r := h
 clear h
 replace H := Option.bind_eq_some_iff.mp H
 obtain ⟨t292, A40, H⟩ := H
 replace H : (if t292 < 0 then (some true) else ((laws_toGrammar.f k a0_0 a0_1 l0_2 l0_3).bind fun bt293 => ((spec_NumberedMelody.f k bt293.1 bt293.2.1 bt293.2.2.1 bt293.2.2.2 a1 a2).bind fun bt301 => ((laws_toGrammar.f k a0_0 a0_1 l0_2 l0_3).bind fun bt305 => ((impl_NumberedMelody.f k bt305.1 bt305.2.1 bt305.2.2.1 bt305.2.2.2 a1 a2).bind fun bt314 => ((laws_eqInt64S.f k bt314.1 bt301.1).bind fun t318 => (if t318 = true then (laws_FnExactNumberedMelody.j0 k a1 a2 bt301.1 bt301.2 bt314.1 bt314.2 (bt314.2 != bt301.2) a0_0 a0_1 l0_2 l0_3 bt305.1 bt305.2.1 bt305.2.2.1 bt305.2.2.2) else (laws_FnExactNumberedMelody.j0 k a1 a2 bt301.1 bt301.2 bt314.1 bt314.2 true a0_0 a0_1 l0_2 l0_3 bt305.1 bt305.2.1 bt305.2.2.1 bt305.2.2.2)))))))) = some r := H
 have A4 := Aside0.mk A40
 clear A40
 by_cases c5 : t292 < 0
 ·rw [if_pos c5] at H
  have c5b0 : decide (t292 < 0) = true := decide_eq_true c5
  clear c5
  obtain rfl := Option.some.inj H
  go_enter Try.func8, Try.ntmps8
  go_wp2_with (first | ((with_reducible refine gate_dst (N := 3) rfl ?_); refine bE ?hg (N := 3) ?hd (cs := #[.int .i64 a0_0, .int .i64 a0_1, .slice A0_2 l0_2.length c0_2, .slice A0_3 l0_3.length c0_3]) (t := 25) ?hr ?_; (case hd => rfl); (case hg => rfl); (case hr => first | (go_simp; done) | (go_simp; rfl)); intro gb291 hg w6 hbox hb; have z_ := bX hb (by repeat (first | (with_reducible first | exact HB.out | apply bA | apply bN | apply bD) | exact HB.out)); have n0_ := Aside0.mk (bP z_ hb); have n1_ := Aside0.mk (hbox); have n2_ := Aside0.mk ((by rw [hg]; exact (bZ z_) : w.heap.size ≤ gb291)); have n3_ := Aside0.mk ((by rw [hg]; exact (bZ z_) : w.heap.size ≤ gb291)); clear HB; have HB := n0_; have BK291 := n1_; have GW291 := n2_; have GE291 := n3_; clear z_ n0_ n1_ n2_ n3_; clear hb hbox hg; have hcz7_0 : w6.cell? ⟨gb291, 0, none⟩ = some (.int .i64 a0_0) := (kC BK291.out 0).trans rfl; have hcz7_1 : w6.cell? ⟨gb291, 1, none⟩ = some (.int .i64 a0_1) := (kC BK291.out 1).trans rfl; have hcz7_2 : w6.cell? ⟨gb291, 2, none⟩ = some (.slice A0_2 l0_2.length c0_2) := (kC BK291.out 2).trans rfl; have hcz7_3 : w6.cell? ⟨gb291, 3, none⟩ = some (.slice A0_3 l0_3.length c0_3) := (kC BK291.out 3).trans rfl; have hfz7_0 := blk_frozen BK291.out 0; have hfz7_1 := blk_frozen BK291.out 1; have hfz7_2 := blk_frozen BK291.out 2; have hfz7_3 := blk_frozen BK291.out 3) | ((with_reducible refine gC (f := 15) rfl ?_); refine goesL_ (some 20) rfl rfl Try.func15 (by kernel_rfl) rfl #[.agg #[.int .i64 a0_0, .int .i64 a0_1, .slice A0_2 l0_2.length c0_2, .slice A0_3 l0_3.length c0_3], .int .i64 1048576] rfl lQ ?_; (with_reducible refine (laws_szGrammar.calls a0_0 a0_1 _ _ l0_2 _ _ l0_3 1048576 t292 _ ?side1 ?side2 ?side3 ?side4 A4.out).mono ?_); (case side1 => repeat (first | exact (cB HR0_2.out HB.out) | (with_reducible refine cA ?_ _) | (with_reducible refine cN ?_ _) | (with_reducible refine cD ?_))); (case side2 => exact HC0_2.out); (case side3 => repeat (first | exact (cB HR0_3.out HB.out) | (with_reducible refine cA ?_ _) | (with_reducible refine cN ?_ _) | (with_reducible refine cD ?_))); (case side4 => exact HC0_3.out); rintro e w8 ⟨rfl, hb⟩; refine ⟨_, rfl, ?_⟩; have n0_ := Aside0.mk (kB (kQ BK291) hb); have n1_ := Aside0.mk (bP (by repeat (first | (with_reducible first | exact HB.out | apply bA | apply bN | apply bD | refine bS ?_ GE291.out) | exact HB.out)) hb); clear BK291; clear HB; have BK291 := n0_; have HB := n1_; clear n0_ n1_; (try clear hb); (try clear hb2); (try clear hk); (try clear hi)))
  go_ret
  exact ⟨by first | rfl | (simp [errW_none, errW_some] <;> rfl) | (simp [*, errW_none, errW_some] <;> rfl), by repeat (first | (with_reducible first | exact HB.out | apply bA | apply bN | apply bD | refine bS ?_ GE291.out) | exact HB.out)⟩
 ·rw [if_neg c5] at H
  have c5b0 : decide (t292 < 0) = false := decide_eq_false c5
  clear c5
  replace H := Option.bind_eq_some_iff.mp H
  obtain ⟨⟨t293, t294, t295, t298⟩, A90, H⟩ := H
  replace H : ((spec_NumberedMelody.f k t293 t294 t295 t298 a1 a2).bind fun bt301 => ((laws_toGrammar.f k a0_0 a0_1 l0_2 l0_3).bind fun bt305 => ((impl_NumberedMelody.f k bt305.1 bt305.2.1 bt305.2.2.1 bt305.2.2.2 a1 a2).bind fun bt314 => ((laws_eqInt64S.f k bt314.1 bt301.1).bind fun t318 => (if t318 = true then (laws_FnExactNumberedMelody.j0 k a1 a2 bt301.1 bt301.2 bt314.1 bt314.2 (bt314.2 != bt301.2) a0_0 a0_1 l0_2 l0_3 bt305.1 bt305.2.1 bt305.2.2.1 bt305.2.2.2) else (laws_FnExactNumberedMelody.j0 k a1 a2 bt301.1 bt301.2 bt314.1 bt314.2 true a0_0 a0_1 l0_2 l0_3 bt305.1 bt305.2.1 bt305.2.2.1 bt305.2.2.2)))))) = some r := H
  have A9 := Aside0.mk A90
  clear A90
  replace H := Option.bind_eq_some_iff.mp H
  obtain ⟨⟨t301, t304⟩, A100, H⟩ := H
  replace H : ((laws_toGrammar.f k a0_0 a0_1 l0_2 l0_3).bind fun bt305 => ((impl_NumberedMelody.f k bt305.1 bt305.2.1 bt305.2.2.1 bt305.2.2.2 a1 a2).bind fun bt314 => ((laws_eqInt64S.f k bt314.1 t301).bind fun t318 => (if t318 = true then (laws_FnExactNumberedMelody.j0 k a1 a2 t301 t304 bt314.1 bt314.2 (bt314.2 != t304) a0_0 a0_1 l0_2 l0_3 bt305.1 bt305.2.1 bt305.2.2.1 bt305.2.2.2) else (laws_FnExactNumberedMelody.j0 k a1 a2 t301 t304 bt314.1 bt314.2 true a0_0 a0_1 l0_2 l0_3 bt305.1 bt305.2.1 bt305.2.2.1 bt305.2.2.2))))) = some r := H
  have A10 := Aside0.mk A100
  clear A100
  replace H := Option.bind_eq_some_iff.mp H
  obtain ⟨⟨t305, t306, t307, t310⟩, A110, H⟩ := H
  replace H : ((impl_NumberedMelody.f k t305 t306 t307 t310 a1 a2).bind fun bt314 => ((laws_eqInt64S.f k bt314.1 t301).bind fun t318 => (if t318 = true then (laws_FnExactNumberedMelody.j0 k a1 a2 t301 t304 bt314.1 bt314.2 (bt314.2 != t304) a0_0 a0_1 l0_2 l0_3 t305 t306 t307 t310) else (laws_FnExactNumberedMelody.j0 k a1 a2 t301 t304 bt314.1 bt314.2 true a0_0 a0_1 l0_2 l0_3 t305 t306 t307 t310)))) = some r := H
  have A11 := Aside0.mk A110
  clear A110
  replace H := Option.bind_eq_some_iff.mp H
  obtain ⟨⟨t314, t317⟩, A120, H⟩ := H
  replace H : ((laws_eqInt64S.f k t314 t301).bind fun t318 => (if t318 = true then (laws_FnExactNumberedMelody.j0 k a1 a2 t301 t304 t314 t317 (t317 != t304) a0_0 a0_1 l0_2 l0_3 t305 t306 t307 t310) else (laws_FnExactNumberedMelody.j0 k a1 a2 t301 t304 t314 t317 true a0_0 a0_1 l0_2 l0_3 t305 t306 t307 t310))) = some r := H
  have A12 := Aside0.mk A120
  clear A120
  have HC13 := Aside0.mk H
  clear H
  go_enter Try.func8, Try.ntmps8
  go_upto_region 8 with (first | ((with_reducible refine gate_dst (N := 3) rfl ?_); refine bE ?hg (N := 3) ?hd (cs := #[.int .i64 a0_0, .int .i64 a0_1, .slice A0_2 l0_2.length c0_2, .slice A0_3 l0_3.length c0_3]) (t := 25) ?hr ?_; (case hd => rfl); (case hg => rfl); (case hr => first | (go_simp; done) | (go_simp; rfl)); intro gb291 hg w14 hbox hb; have z_ := bX hb (by repeat (first | (with_reducible first | exact HB.out | apply bA | apply bN | apply bD) | exact HB.out)); have n0_ := Aside0.mk (bP z_ hb); have n1_ := Aside0.mk (hbox); have n2_ := Aside0.mk ((by rw [hg]; exact (bZ z_) : w.heap.size ≤ gb291)); have n3_ := Aside0.mk ((by rw [hg]; exact (bZ z_) : w.heap.size ≤ gb291)); clear HB; have HB := n0_; have BK291 := n1_; have GW291 := n2_; have GE291 := n3_; clear z_ n0_ n1_ n2_ n3_; clear hb hbox hg; have hcz15_0 : w14.cell? ⟨gb291, 0, none⟩ = some (.int .i64 a0_0) := (kC BK291.out 0).trans rfl; have hcz15_1 : w14.cell? ⟨gb291, 1, none⟩ = some (.int .i64 a0_1) := (kC BK291.out 1).trans rfl; have hcz15_2 : w14.cell? ⟨gb291, 2, none⟩ = some (.slice A0_2 l0_2.length c0_2) := (kC BK291.out 2).trans rfl; have hcz15_3 : w14.cell? ⟨gb291, 3, none⟩ = some (.slice A0_3 l0_3.length c0_3) := (kC BK291.out 3).trans rfl; have hfz15_0 := blk_frozen BK291.out 0; have hfz15_1 := blk_frozen BK291.out 1; have hfz15_2 := blk_frozen BK291.out 2; have hfz15_3 := blk_frozen BK291.out 3) | ((with_reducible refine gC (f := 15) rfl ?_); refine goesL_ (some 20) rfl rfl Try.func15 (by kernel_rfl) rfl #[.agg #[.int .i64 a0_0, .int .i64 a0_1, .slice A0_2 l0_2.length c0_2, .slice A0_3 l0_3.length c0_3], .int .i64 1048576] rfl lQ ?_; (with_reducible refine (laws_szGrammar.calls a0_0 a0_1 _ _ l0_2 _ _ l0_3 1048576 t292 _ ?side1 ?side2 ?side3 ?side4 A4.out).mono ?_); (case side1 => repeat (first | exact (cB HR0_2.out HB.out) | (with_reducible refine cA ?_ _) | (with_reducible refine cN ?_ _) | (with_reducible refine cD ?_))); (case side2 => exact HC0_2.out); (case side3 => repeat (first | exact (cB HR0_3.out HB.out) | (with_reducible refine cA ?_ _) | (with_reducible refine cN ?_ _) | (with_reducible refine cD ?_))); (case side4 => exact HC0_3.out); rintro e w16 ⟨rfl, hb⟩; refine ⟨_, rfl, ?_⟩; have n0_ := Aside0.mk (kB (kQ BK291) hb); have n1_ := Aside0.mk (bP (by repeat (first | (with_reducible first | exact HB.out | apply bA | apply bN | apply bD | refine bS ?_ GE291.out) | exact HB.out)) hb); clear BK291; clear HB; have BK291 := n0_; have HB := n1_; clear n0_ n1_; (try clear hb); (try clear hb2); (try clear hk); (try clear hi); have hcz17_0 : w16.cell? ⟨gb291, 0, none⟩ = some (.int .i64 a0_0) := (kC BK291.out 0).trans rfl; have hcz17_1 : w16.cell? ⟨gb291, 1, none⟩ = some (.int .i64 a0_1) := (kC BK291.out 1).trans rfl; have hcz17_2 : w16.cell? ⟨gb291, 2, none⟩ = some (.slice A0_2 l0_2.length c0_2) := (kC BK291.out 2).trans rfl; have hcz17_3 : w16.cell? ⟨gb291, 3, none⟩ = some (.slice A0_3 l0_3.length c0_3) := (kC BK291.out 3).trans rfl; have hfz17_0 := blk_frozen BK291.out 0; have hfz17_1 := blk_frozen BK291.out 1; have hfz17_2 := blk_frozen BK291.out 2; have hfz17_3 := blk_frozen BK291.out 3) | ((with_reducible refine gC (f := 17) rfl ?_); refine goesL_ (some 25) rfl rfl Try.func17 (by kernel_rfl) rfl #[.agg #[.int .i64 a0_0, .int .i64 a0_1, .slice A0_2 l0_2.length c0_2, .slice A0_3 l0_3.length c0_3]] rfl lQ ?_; (with_reducible refine (laws_toGrammar.calls k a0_0 a0_1 _ _ l0_2 _ _ l0_3 t293 t294 t295 t298 _ ?side1 ?side2 ?side3 ?side4 A9.out).mono ?_); (case side1 => repeat (first | exact (cB HR0_2.out HB.out) | (with_reducible refine cA ?_ _) | (with_reducible refine cN ?_ _) | (with_reducible refine cD ?_))); (case side2 => exact HC0_2.out); (case side3 => repeat (first | exact (cB HR0_3.out HB.out) | (with_reducible refine cA ?_ _) | (with_reducible refine cN ?_ _) | (with_reducible refine cD ?_))); (case side4 => exact HC0_3.out); rintro e w18 ⟨v296, v299, rfl, ho0, ho1, hb⟩; refine ⟨_, rfl, ?_⟩; have z_ := bX hb (by repeat (first | (with_reducible first | exact HB.out | apply bA | apply bN | apply bD | refine bS ?_ GE291.out) | exact HB.out)); have n0_ := Aside0.mk (rL ho0 (bZ z_)); have n1_ := Aside0.mk (rL ho1 (bZ z_)); have n2_ := Aside0.mk (kB (kQ BK291) hb); have n3_ := Aside0.mk (bP z_ hb); clear BK291; clear HB; have HO297 := n0_; have HO300 := n1_; have BK291 := n2_; have HB := n3_; clear z_ n0_ n1_ n2_ n3_; (try clear hb); (try clear hb2); (try clear hk); (try clear hi); (try clear ho0); (try clear ho1); obtain ⟨Ao19, co19, eo19⟩ := Kd.R_slice HO297.out; subst eo19; obtain ⟨Ao20, co20, eo20⟩ := Kd.R_slice HO300.out; subst eo20) | ((with_reducible refine gC (f := 33) rfl ?_); refine goesL_ (some 28) rfl rfl Try.func33 (by kernel_rfl) rfl #[.agg #[.int .i64 t293, .int .i64 t294, .slice Ao19 t295.length co19, .slice Ao20 t298.length co20], .int .i64 a1, .int .i64 a2] rfl lQ ?_; (with_reducible refine (spec_NumberedMelody.calls k t293 t294 _ _ t295 _ _ t298 a1 a2 t301 t304 _ ?side1 ?side2 ?side3 ?side4 A10.out).mono ?_); (case side1 => repeat (first | exact (Kd.R_reads' HO297.out).2.2 | (with_reducible refine cA ?_ _) | (with_reducible refine cN ?_ _) | (with_reducible refine cD ?_))); (case side2 => exact (Kd.R_reads' HO297.out).2.1); (case side3 => repeat (first | exact (Kd.R_reads' HO300.out).2.2 | (with_reducible refine cA ?_ _) | (with_reducible refine cN ?_ _) | (with_reducible refine cD ?_))); (case side4 => exact (Kd.R_reads' HO300.out).2.1); rintro e w21 ⟨v302, rfl, ho0, hb⟩; refine ⟨_, rfl, ?_⟩; have z_ := bX hb (by repeat (first | (with_reducible first | exact HB.out | apply bA | apply bN | apply bD | refine bS ?_ GE291.out) | exact HB.out)); have n0_ := Aside0.mk (rE (rQ HO297) (Kd.R_base ho0) hb); have n1_ := Aside0.mk (rB (rQ HO300) hb); have n2_ := Aside0.mk (rL (rW ho0 (rT (rQ HO297))) (bZ z_)); have n3_ := Aside0.mk (kB (kQ BK291) hb); have n4_ := Aside0.mk (bP z_ hb); clear HO297; clear HO300; clear BK291; clear HB; have HO297 := n0_; have HO300 := n1_; have HO303 := n2_; have BK291 := n3_; have HB := n4_; clear z_ n0_ n1_ n2_ n3_ n4_; (try clear hb); (try clear hb2); (try clear hk); (try clear hi); (try clear ho0); have hcz22_0 : w21.cell? ⟨gb291, 0, none⟩ = some (.int .i64 a0_0) := (kC BK291.out 0).trans rfl; have hcz22_1 : w21.cell? ⟨gb291, 1, none⟩ = some (.int .i64 a0_1) := (kC BK291.out 1).trans rfl; have hcz22_2 : w21.cell? ⟨gb291, 2, none⟩ = some (.slice A0_2 l0_2.length c0_2) := (kC BK291.out 2).trans rfl; have hcz22_3 : w21.cell? ⟨gb291, 3, none⟩ = some (.slice A0_3 l0_3.length c0_3) := (kC BK291.out 3).trans rfl; have hfz22_0 := blk_frozen BK291.out 0; have hfz22_1 := blk_frozen BK291.out 1; have hfz22_2 := blk_frozen BK291.out 2; have hfz22_3 := blk_frozen BK291.out 3) | ((with_reducible refine gC (f := 17) rfl ?_); refine goesL_ (some 32) rfl rfl Try.func17 (by kernel_rfl) rfl #[.agg #[.int .i64 a0_0, .int .i64 a0_1, .slice A0_2 l0_2.length c0_2, .slice A0_3 l0_3.length c0_3]] rfl lQ ?_; (with_reducible refine (laws_toGrammar.calls k a0_0 a0_1 _ _ l0_2 _ _ l0_3 t305 t306 t307 t310 _ ?side1 ?side2 ?side3 ?side4 A11.out).mono ?_); (case side1 => repeat (first | exact (cB HR0_2.out HB.out) | (with_reducible refine cA ?_ _) | (with_reducible refine cN ?_ _) | (with_reducible refine cD ?_))); (case side2 => exact HC0_2.out); (case side3 => repeat (first | exact (cB HR0_3.out HB.out) | (with_reducible refine cA ?_ _) | (with_reducible refine cN ?_ _) | (with_reducible refine cD ?_))); (case side4 => exact HC0_3.out); rintro e w23 ⟨v308, v311, rfl, ho0, ho1, hb⟩; refine ⟨_, rfl, ?_⟩; have z_ := bX hb (by repeat (first | (with_reducible first | exact HB.out | apply bA | apply bN | apply bD | refine bS ?_ GE291.out) | exact HB.out)); have n0_ := Aside0.mk (rE (rQ HO297) (Kd.R_base ho0) hb); have n1_ := Aside0.mk (rE (rQ HO300) (Kd.R_base ho1) hb); have n2_ := Aside0.mk (rE (rQ HO303) (Kd.R_base ho0) hb); have n3_ := Aside0.mk (rL (rW (rW ho0 (rT (rQ HO297))) (rT (rQ HO303))) (bZ z_)); have n4_ := Aside0.mk (rL (rW ho1 (rT (rQ HO300))) (bZ z_)); have n5_ := Aside0.mk (kB (kQ BK291) hb); have n6_ := Aside0.mk (bP z_ hb); clear HO297; clear HO300; clear HO303; clear BK291; clear HB; have HO297 := n0_; have HO300 := n1_; have HO303 := n2_; have HO309 := n3_; have HO312 := n4_; have BK291 := n5_; have HB := n6_; clear z_ n0_ n1_ n2_ n3_ n4_ n5_ n6_; (try clear hb); (try clear hb2); (try clear hk); (try clear hi); (try clear ho0); (try clear ho1)) | ((with_reducible refine gate_dst (N := 10) rfl ?_); refine bE ?hg (N := 10) ?hd (cs := #[.int .i64 0, .int .i64 0, .slice none 0 0, .slice none 0 0]) (t := 30) ?hr ?_; (case hd => rfl); (case hg => rfl); (case hr => first | (go_simp; done) | (go_simp; rfl)); intro gb313 hg w24 hbox hb; have z_ := bX hb (by repeat (first | (with_reducible first | exact HB.out | apply bA | apply bN | apply bD | refine bS ?_ GE291.out) | exact HB.out)); have n0_ := Aside0.mk (rB (rQ HO297) hb); have n1_ := Aside0.mk (rB (rQ HO300) hb); have n2_ := Aside0.mk (rB (rQ HO303) hb); have n3_ := Aside0.mk (rB (rQ HO309) hb); have n4_ := Aside0.mk (rB (rQ HO312) hb); have n5_ := Aside0.mk (kB (kQ BK291) hb); have n6_ := Aside0.mk (bP z_ hb); have n7_ := Aside0.mk (hbox); have n8_ := Aside0.mk ((by rw [hg]; exact (bZ z_) : w.heap.size ≤ gb313)); have n9_ := Aside0.mk ((by rw [hg]; exact (bZ z_) : w.heap.size ≤ gb313)); have n10_ := Aside0.mk ((by rw [hg]; exact Nat.ne_of_lt (kL (kQ BK291)) : gb291 ≠ gb313)); have n11_ := Aside0.mk ((by rw [hg]; exact Nat.ne_of_gt (kL (kQ BK291)) : gb313 ≠ gb291)); clear HO297; clear HO300; clear HO303; clear HO309; clear HO312; clear BK291; clear HB; have HO297 := n0_; have HO300 := n1_; have HO303 := n2_; have HO309 := n3_; have HO312 := n4_; have BK291 := n5_; have HB := n6_; have BK313 := n7_; have GW313 := n8_; have GE313 := n9_; have NB291_313 := n10_; have NB313_291 := n11_; clear z_ n0_ n1_ n2_ n3_ n4_ n5_ n6_ n7_ n8_ n9_ n10_ n11_; clear hb hbox hg; have hnb25 := NB313_291.out; have hnc25 := NB291_313.out; have hcz26_0 : w24.cell? ⟨gb313, 0, none⟩ = some (.int .i64 0) := (kC BK313.out 0).trans rfl; have hcz26_1 : w24.cell? ⟨gb313, 1, none⟩ = some (.int .i64 0) := (kC BK313.out 1).trans rfl; have hcz26_2 : w24.cell? ⟨gb313, 2, none⟩ = some (.slice none 0 0) := (kC BK313.out 2).trans rfl; have hcz26_3 : w24.cell? ⟨gb313, 3, none⟩ = some (.slice none 0 0) := (kC BK313.out 3).trans rfl; have hfz26_0 := blk_frozen BK313.out 0; have hfz26_1 := blk_frozen BK313.out 1; have hfz26_2 := blk_frozen BK313.out 2; have hfz26_3 := blk_frozen BK313.out 3; obtain ⟨Ao27, co27, eo27⟩ := Kd.R_slice HO309.out; subst eo27; obtain ⟨Ao28, co28, eo28⟩ := Kd.R_slice HO312.out; subst eo28) | ((with_reducible refine gC (f := 34) rfl ?_); refine goesL_ (some 37) rfl rfl Try.func34 (by kernel_rfl) rfl #[.agg #[.int .i64 t305, .int .i64 t306, .slice Ao27 t307.length co27, .slice Ao28 t310.length co28], .int .i64 a1, .int .i64 a2] rfl lQ ?_; (with_reducible refine (impl_NumberedMelody.calls k t305 t306 _ _ t307 _ _ t310 a1 a2 t314 t317 _ ?side1 ?side2 ?side3 ?side4 A12.out).mono ?_); (case side1 => refine (Kd.R_reads' (e := 2) (base := w.heap.size) (ok := fun k_ => ((True ∧ some k_ ≠ (.slice Ao19 t295.length co19 : Value).ownBlock) ∧ some k_ ≠ (v302 : Value).ownBlock)) (n := t307.length) (c := co27) ?_).2.2; exact (by (with_reducible repeat (first | apply rA | apply rN | apply rD)); exact (rM (Kd.R_far (p := ⟨gb313, 3, none⟩) (Kd.R_far (p := ⟨gb313, 2, none⟩) (Kd.R_far (p := ⟨gb313, 1, none⟩) (Kd.R_far (p := ⟨gb313, 0, none⟩) (Kd.R_types HO309.out BK313.out (by decide)) (fun _ hk => hk.2) (.int .i64 t305)) (fun _ hk => hk.2) (.int .i64 t306)) (fun _ hk => hk.2) (.slice Ao27 t307.length co27)) (fun _ hk => hk.2) (.slice Ao28 t310.length co28)) (fun _ h_ => h_.1)))); (case side2 => exact (Kd.R_reads' HO309.out).2.1); (case side3 => refine (Kd.R_reads' (e := 67) (base := w.heap.size) (ok := fun k_ => (True ∧ some k_ ≠ (.slice Ao20 t298.length co20 : Value).ownBlock)) (n := t310.length) (c := co28) ?_).2.2; exact (by (with_reducible repeat (first | apply rA | apply rN | apply rD)); exact (rM (Kd.R_far (p := ⟨gb313, 3, none⟩) (Kd.R_far (p := ⟨gb313, 2, none⟩) (Kd.R_far (p := ⟨gb313, 1, none⟩) (Kd.R_far (p := ⟨gb313, 0, none⟩) (Kd.R_types HO312.out BK313.out (by decide)) (fun _ hk => hk.2) (.int .i64 t305)) (fun _ hk => hk.2) (.int .i64 t306)) (fun _ hk => hk.2) (.slice Ao27 t307.length co27)) (fun _ hk => hk.2) (.slice Ao28 t310.length co28)) (fun _ h_ => h_.1)))); (case side4 => exact (Kd.R_reads' HO312.out).2.1); rintro e w29 ⟨v315, rfl, ho0, hb⟩; refine ⟨_, rfl, ?_⟩; have z_ := bX hb (by repeat (first | (with_reducible first | exact HB.out | apply bA | apply bN | apply bD | refine bS ?_ GE291.out | refine bS ?_ GE313.out) | exact HB.out)); have n0_ := Aside0.mk (rE (by (with_reducible repeat (first | apply rA | apply rN | apply rD)); exact (rM (Kd.R_far (p := ⟨gb313, 3, none⟩) (Kd.R_far (p := ⟨gb313, 2, none⟩) (Kd.R_far (p := ⟨gb313, 1, none⟩) (Kd.R_far (p := ⟨gb313, 0, none⟩) (Kd.R_types HO297.out BK313.out (by decide)) (fun _ hk => hk.2) (.int .i64 t305)) (fun _ hk => hk.2) (.int .i64 t306)) (fun _ hk => hk.2) (.slice Ao27 t307.length co27)) (fun _ hk => hk.2) (.slice Ao28 t310.length co28)) (fun _ h_ => h_.1))) (Kd.R_base ho0) hb); have n1_ := Aside0.mk (rB (by (with_reducible repeat (first | apply rA | apply rN | apply rD)); exact (rM (Kd.R_far (p := ⟨gb313, 3, none⟩) (Kd.R_far (p := ⟨gb313, 2, none⟩) (Kd.R_far (p := ⟨gb313, 1, none⟩) (Kd.R_far (p := ⟨gb313, 0, none⟩) (Kd.R_types HO300.out BK313.out (by decide)) (fun _ hk => hk.2) (.int .i64 t305)) (fun _ hk => hk.2) (.int .i64 t306)) (fun _ hk => hk.2) (.slice Ao27 t307.length co27)) (fun _ hk => hk.2) (.slice Ao28 t310.length co28)) (fun _ h_ => h_.1))) hb); have n2_ := Aside0.mk (rE (by (with_reducible repeat (first | apply rA | apply rN | apply rD)); exact (rM (Kd.R_far (p := ⟨gb313, 3, none⟩) (Kd.R_far (p := ⟨gb313, 2, none⟩) (Kd.R_far (p := ⟨gb313, 1, none⟩) (Kd.R_far (p := ⟨gb313, 0, none⟩) (Kd.R_types HO303.out BK313.out (by decide)) (fun _ hk => hk.2) (.int .i64 t305)) (fun _ hk => hk.2) (.int .i64 t306)) (fun _ hk => hk.2) (.slice Ao27 t307.length co27)) (fun _ hk => hk.2) (.slice Ao28 t310.length co28)) (fun _ h_ => h_.1))) (Kd.R_base ho0) hb); have n3_ := Aside0.mk (rE (by (with_reducible repeat (first | apply rA | apply rN | apply rD)); exact (rM (Kd.R_far (p := ⟨gb313, 3, none⟩) (Kd.R_far (p := ⟨gb313, 2, none⟩) (Kd.R_far (p := ⟨gb313, 1, none⟩) (Kd.R_far (p := ⟨gb313, 0, none⟩) (Kd.R_types HO309.out BK313.out (by decide)) (fun _ hk => hk.2) (.int .i64 t305)) (fun _ hk => hk.2) (.int .i64 t306)) (fun _ hk => hk.2) (.slice Ao27 t307.length co27)) (fun _ hk => hk.2) (.slice Ao28 t310.length co28)) (fun _ h_ => h_.1))) (Kd.R_base ho0) hb); have n4_ := Aside0.mk (rB (by (with_reducible repeat (first | apply rA | apply rN | apply rD)); exact (rM (Kd.R_far (p := ⟨gb313, 3, none⟩) (Kd.R_far (p := ⟨gb313, 2, none⟩) (Kd.R_far (p := ⟨gb313, 1, none⟩) (Kd.R_far (p := ⟨gb313, 0, none⟩) (Kd.R_types HO312.out BK313.out (by decide)) (fun _ hk => hk.2) (.int .i64 t305)) (fun _ hk => hk.2) (.int .i64 t306)) (fun _ hk => hk.2) (.slice Ao27 t307.length co27)) (fun _ hk => hk.2) (.slice Ao28 t310.length co28)) (fun _ h_ => h_.1))) hb); have n5_ := Aside0.mk (rL (rW (rW (rW ho0 (rT (by (with_reducible repeat (first | apply rA | apply rN | apply rD)); exact (rM (Kd.R_far (p := ⟨gb313, 3, none⟩) (Kd.R_far (p := ⟨gb313, 2, none⟩) (Kd.R_far (p := ⟨gb313, 1, none⟩) (Kd.R_far (p := ⟨gb313, 0, none⟩) (Kd.R_types HO297.out BK313.out (by decide)) (fun _ hk => hk.2) (.int .i64 t305)) (fun _ hk => hk.2) (.int .i64 t306)) (fun _ hk => hk.2) (.slice Ao27 t307.length co27)) (fun _ hk => hk.2) (.slice Ao28 t310.length co28)) (fun _ h_ => h_.1))))) (rT (by (with_reducible repeat (first | apply rA | apply rN | apply rD)); exact (rM (Kd.R_far (p := ⟨gb313, 3, none⟩) (Kd.R_far (p := ⟨gb313, 2, none⟩) (Kd.R_far (p := ⟨gb313, 1, none⟩) (Kd.R_far (p := ⟨gb313, 0, none⟩) (Kd.R_types HO303.out BK313.out (by decide)) (fun _ hk => hk.2) (.int .i64 t305)) (fun _ hk => hk.2) (.int .i64 t306)) (fun _ hk => hk.2) (.slice Ao27 t307.length co27)) (fun _ hk => hk.2) (.slice Ao28 t310.length co28)) (fun _ h_ => h_.1))))) (rT (by (with_reducible repeat (first | apply rA | apply rN | apply rD)); exact (rM (Kd.R_far (p := ⟨gb313, 3, none⟩) (Kd.R_far (p := ⟨gb313, 2, none⟩) (Kd.R_far (p := ⟨gb313, 1, none⟩) (Kd.R_far (p := ⟨gb313, 0, none⟩) (Kd.R_types HO309.out BK313.out (by decide)) (fun _ hk => hk.2) (.int .i64 t305)) (fun _ hk => hk.2) (.int .i64 t306)) (fun _ hk => hk.2) (.slice Ao27 t307.length co27)) (fun _ hk => hk.2) (.slice Ao28 t310.length co28)) (fun _ h_ => h_.1))))) (bZ z_)); have n6_ := Aside0.mk (kB (g := gb291) (o := .cells #[.int .i64 a0_0, .int .i64 a0_1, .slice A0_2 l0_2.length c0_2, .slice A0_3 l0_3.length c0_3] 25 (0, 0)) (by (with_reducible repeat (first | refine kN ?_ _ | refine kD ?_ | refine kA ?_ _)); refine kF ?_ NB291_313.out _; (with_reducible repeat (first | refine kN ?_ _ | refine kD ?_ | refine kA ?_ _)); refine kF ?_ NB291_313.out _; (with_reducible repeat (first | refine kN ?_ _ | refine kD ?_ | refine kA ?_ _)); refine kF ?_ NB291_313.out _; (with_reducible repeat (first | refine kN ?_ _ | refine kD ?_ | refine kA ?_ _)); refine kF ?_ NB291_313.out _; (with_reducible repeat (first | refine kN ?_ _ | refine kD ?_ | refine kA ?_ _)); exact BK291.out) hb); have n7_ := Aside0.mk (kB (g := gb313) (o := .cells #[.int .i64 t305, .int .i64 t306, .slice Ao27 t307.length co27, .slice Ao28 t310.length co28] 30 (0, 0)) (by (with_reducible repeat (first | refine kN ?_ _ | refine kD ?_ | refine kA ?_ _)); refine blk_put (cs := #[.int .i64 t305, .int .i64 t306, .slice Ao27 t307.length co27, .slice none 0 0]) ?_ 3 _ rfl; (with_reducible repeat (first | refine kN ?_ _ | refine kD ?_ | refine kA ?_ _)); refine blk_put (cs := #[.int .i64 t305, .int .i64 t306, .slice none 0 0, .slice none 0 0]) ?_ 2 _ rfl; (with_reducible repeat (first | refine kN ?_ _ | refine kD ?_ | refine kA ?_ _)); refine blk_put (cs := #[.int .i64 t305, .int .i64 0, .slice none 0 0, .slice none 0 0]) ?_ 1 _ rfl; (with_reducible repeat (first | refine kN ?_ _ | refine kD ?_ | refine kA ?_ _)); refine blk_put (cs := #[.int .i64 0, .int .i64 0, .slice none 0 0, .slice none 0 0]) ?_ 0 _ rfl; (with_reducible repeat (first | refine kN ?_ _ | refine kD ?_ | refine kA ?_ _)); exact BK313.out) hb); have n8_ := Aside0.mk (bP z_ hb); clear HO297; clear HO300; clear HO303; clear HO309; clear HO312; clear BK291; clear BK313; clear HB; have HO297 := n0_; have HO300 := n1_; have HO303 := n2_; have HO309 := n3_; have HO312 := n4_; have HO316 := n5_; have BK291 := n6_; have BK313 := n7_; have HB := n8_; clear z_ n0_ n1_ n2_ n3_ n4_ n5_ n6_ n7_ n8_; (try clear hb); (try clear hb2); (try clear hk); (try clear hi); (try clear ho0)))
  (try simp only [Act.put, sI, sZ, sS])
  go_cut [48] (fun v48 wc => ∃ (kq : Nat) (x48_12 : Bool), v48 = .bool x48_12 ∧ Aside0 (laws_FnExactNumberedMelody.j0 kq a1 a2 t301 t304 t314 t317 x48_12 a0_0 a0_1 l0_2 l0_3 t305 t306 t307 t310 = some r) ∧ Aside0 (kq ≤ k) ∧ Aside0 (Kd.R (Kd.int .i64) 2 wc w.heap.size (fun k_ => some k_ ≠ (v315 : Value).ownBlock ∧ some k_ ≠ ((.slice Ao27 t307.length co27) : Value).ownBlock) v302 t301) ∧ Aside0 (Kd.R (Kd.int .i64) 2 wc w.heap.size (fun k_ => some k_ ≠ (v302 : Value).ownBlock ∧ some k_ ≠ ((.slice Ao27 t307.length co27) : Value).ownBlock) v315 t314) ∧ Aside0 (Kd.R (Kd.int .i64) 2 wc w.heap.size (fun k_ => some k_ ≠ (v302 : Value).ownBlock ∧ some k_ ≠ (v315 : Value).ownBlock) (.slice Ao27 t307.length co27) t307) ∧ Aside0 (Kd.R k67 67 wc w.heap.size (fun _ => True) (.slice Ao28 t310.length co28) t310) ∧ Aside0 (wc.heap[gb291]? = some (.cells #[.int .i64 a0_0, .int .i64 a0_1, (.slice A0_2 l0_2.length c0_2), (.slice A0_3 l0_3.length c0_3)] 25 (0, 0))) ∧ Aside0 (wc.heap[gb313]? = some (.cells #[.int .i64 t305, .int .i64 t306, (.slice Ao27 t307.length co27), (.slice Ao28 t310.length co28)] 30 (0, 0))) ∧ Aside0 (Below w.heap.size w wc))
  case first =>
   have H := HC13.out
   clear HC13
   replace H := Option.bind_eq_some_iff.mp H
   obtain ⟨t318, A300, H⟩ := H
   replace H : (if t318 = true then (laws_FnExactNumberedMelody.j0 k a1 a2 t301 t304 t314 t317 (t317 != t304) a0_0 a0_1 l0_2 l0_3 t305 t306 t307 t310) else (laws_FnExactNumberedMelody.j0 k a1 a2 t301 t304 t314 t317 true a0_0 a0_1 l0_2 l0_3 t305 t306 t307 t310)) = some r := H
   have A30 := Aside0.mk A300
   clear A300
   by_cases c31 : t318 = true
   ·subst c31
    have H1 : (laws_FnExactNumberedMelody.j0 k a1 a2 t301 t304 t314 t317 (t317 != t304) a0_0 a0_1 l0_2 l0_3 t305 t306 t307 t310) = some r := by rw [if_pos rfl] at H; exact H
    clear H
    have H := H1
    clear H1
    have H' := Aside0.mk H
    clear H
    obtain ⟨Ao32, co32, eo32⟩ := Kd.R_slice HO316.out
    subst eo32
    obtain ⟨Ao33, co33, eo33⟩ := Kd.R_slice HO303.out
    subst eo33
    go_wp2_with (first | ((with_reducible refine gC (f := 27) rfl ?_); refine goesL_ (some 42) rfl rfl Try.func27 (by kernel_rfl) rfl #[.slice Ao32 t314.length co32, .slice Ao33 t301.length co33] rfl lQ ?_; (with_reducible refine (laws_eqInt64S.calls k _ _ t314 _ _ t301 true _ ?side1 ?side2 ?side3 ?side4 A30.out).mono ?_); (case side1 => repeat (first | exact (Kd.R_reads' HO316.out).2.2 | (with_reducible refine cA ?_ _) | (with_reducible refine cN ?_ _) | (with_reducible refine cD ?_))); (case side2 => exact (Kd.R_reads' HO316.out).2.1); (case side3 => repeat (first | exact (Kd.R_reads' HO303.out).2.2 | (with_reducible refine cA ?_ _) | (with_reducible refine cN ?_ _) | (with_reducible refine cD ?_))); (case side4 => exact (Kd.R_reads' HO303.out).2.1); rintro e w' ⟨rfl, ⟨nd, rfl⟩⟩; refine ⟨_, rfl, ?_⟩))
    go_meet
    case rel => exact ⟨_, ((t317 != t304)), (by first | rfl | (simp; done) | (simp [*]; done)), H', ⟨by first | omega | exact Nat.le_refl _⟩, ⟨by (with_reducible repeat (first | apply rA | apply rN | apply rD)); exact rM HO303.out (fun _ hk => ⟨hk.2, hk.1.2⟩)⟩, ⟨by (with_reducible repeat (first | apply rA | apply rN | apply rD)); exact rM HO316.out (fun _ hk => ⟨hk.1.2, hk.2⟩)⟩, ⟨by (with_reducible repeat (first | apply rA | apply rN | apply rD)); exact rM HO309.out (fun _ hk => ⟨hk.1.2, hk.2⟩)⟩, ⟨by (with_reducible repeat (first | apply rA | apply rN | apply rD)); exact rM HO312.out (fun _ hk => trivial)⟩, ⟨by (with_reducible repeat (first | refine kN ?_ _ | refine kD ?_ | refine kA ?_ _)); exact BK291.out⟩, ⟨by (with_reducible repeat (first | refine kN ?_ _ | refine kD ?_ | refine kA ?_ _)); exact BK313.out⟩, ⟨by repeat (first | (with_reducible first | exact HB.out | apply bA | apply bN | apply bD | refine bS ?_ GE291.out | refine bS ?_ GE313.out) | exact HB.out)⟩⟩
   ·replace c31 := Bool.eq_false_iff.mpr c31
    subst c31
    have H1 : (laws_FnExactNumberedMelody.j0 k a1 a2 t301 t304 t314 t317 true a0_0 a0_1 l0_2 l0_3 t305 t306 t307 t310) = some r := by rw [if_neg (show ¬ (false = true) by decide)] at H; exact H
    clear H
    have H := H1
    clear H1
    have H' := Aside0.mk H
    clear H
    obtain ⟨Ao34, co34, eo34⟩ := Kd.R_slice HO316.out
    subst eo34
    obtain ⟨Ao35, co35, eo35⟩ := Kd.R_slice HO303.out
    subst eo35
    go_wp2_with (first | ((with_reducible refine gC (f := 27) rfl ?_); refine goesL_ (some 42) rfl rfl Try.func27 (by kernel_rfl) rfl #[.slice Ao34 t314.length co34, .slice Ao35 t301.length co35] rfl lQ ?_; (with_reducible refine (laws_eqInt64S.calls k _ _ t314 _ _ t301 false _ ?side1 ?side2 ?side3 ?side4 A30.out).mono ?_); (case side1 => repeat (first | exact (Kd.R_reads' HO316.out).2.2 | (with_reducible refine cA ?_ _) | (with_reducible refine cN ?_ _) | (with_reducible refine cD ?_))); (case side2 => exact (Kd.R_reads' HO316.out).2.1); (case side3 => repeat (first | exact (Kd.R_reads' HO303.out).2.2 | (with_reducible refine cA ?_ _) | (with_reducible refine cN ?_ _) | (with_reducible refine cD ?_))); (case side4 => exact (Kd.R_reads' HO303.out).2.1); rintro e w' ⟨rfl, ⟨nd, rfl⟩⟩; refine ⟨_, rfl, ?_⟩))
    go_meet
    case rel => exact ⟨_, (true), (by first | rfl | (simp; done) | (simp [*]; done)), H', ⟨by first | omega | exact Nat.le_refl _⟩, ⟨by (with_reducible repeat (first | apply rA | apply rN | apply rD)); exact rM HO303.out (fun _ hk => ⟨hk.2, hk.1.2⟩)⟩, ⟨by (with_reducible repeat (first | apply rA | apply rN | apply rD)); exact rM HO316.out (fun _ hk => ⟨hk.1.2, hk.2⟩)⟩, ⟨by (with_reducible repeat (first | apply rA | apply rN | apply rD)); exact rM HO309.out (fun _ hk => ⟨hk.1.2, hk.2⟩)⟩, ⟨by (with_reducible repeat (first | apply rA | apply rN | apply rD)); exact rM HO312.out (fun _ hk => trivial)⟩, ⟨by (with_reducible repeat (first | refine kN ?_ _ | refine kD ?_ | refine kA ?_ _)); exact BK291.out⟩, ⟨by (with_reducible repeat (first | refine kN ?_ _ | refine kD ?_ | refine kA ?_ _)); exact BK313.out⟩, ⟨by repeat (first | (with_reducible first | exact HB.out | apply bA | apply bN | apply bD | refine bS ?_ GE291.out | refine bS ?_ GE313.out) | exact HB.out)⟩⟩
  case rest =>
   clear HC13
   try clear c1
   try clear c2
   try clear p2
   try clear c3
   try clear c5
   try clear c5b0
   try clear c8
   try clear c15
   try clear c17
   try clear c25
   try clear c27
   try clear c31
   try clear c33
   try clear c34
   try clear hcz15_0
   try clear hcz15_1
   try clear hcz15_2
   try clear hcz15_3
   try clear hcz17_0
   try clear hcz17_1
   try clear hcz17_2
   try clear hcz17_3
   try clear hcz22_0
   try clear hcz22_1
   try clear hcz22_2
   try clear hcz22_3
   try clear hcz26_0
   try clear hcz26_1
   try clear hcz26_2
   try clear hcz26_3
   try clear hcz7_0
   try clear hcz7_1
   try clear hcz7_2
   try clear hcz7_3
   try clear hfz15_0
   try clear hfz15_1
   try clear hfz15_2
   try clear hfz15_3
   try clear hfz17_0
   try clear hfz17_1
   try clear hfz17_2
   try clear hfz17_3
   try clear hfz22_0
   try clear hfz22_1
   try clear hfz22_2
   try clear hfz22_3
   try clear hfz26_0
   try clear hfz26_1
   try clear hfz26_2
   try clear hfz26_3
   try clear hfz7_0
   try clear hfz7_1
   try clear hfz7_2
   try clear hfz7_3
   obtain ⟨kq, x48_12, rfl, HA, HJ12, HO_8, HO_11, HO_314002, HO_314003, BK291, BK313, HB⟩ := hcut
   cases kq with
   | zero => exact absurd HA.out (by simp [laws_FnExactNumberedMelody.j0])
   | succ kj12 =>
    have H := HA.out
    clear HA
    simp only [laws_FnExactNumberedMelody.j0] at H
    by_cases c36 : x48_12 = true
    ·subst c36
     have H1 : (some false) = some r := by rw [if_pos rfl] at H; exact H
     clear H
     have H := H1
     clear H1
     obtain rfl := Option.some.inj H
     go_wp2
     go_ret
     exact ⟨by first | rfl | (simp [errW_none, errW_some] <;> rfl) | (simp [*, errW_none, errW_some] <;> rfl), by repeat (first | (with_reducible first | exact HB.out | apply bA | apply bN | apply bD | refine bS ?_ GE291.out | refine bS ?_ GE313.out) | exact HB.out)⟩
    ·replace c36 := Bool.eq_false_iff.mpr c36
     subst c36
     have H1 : ((laws_toGrammar.f kj12 a0_0 a0_1 l0_2 l0_3).bind fun bt319 => ((laws_eqGrammar.f kj12 t305 t306 t307 t310 bt319.1 bt319.2.1 bt319.2.2.1 bt319.2.2.2).bind fun t327 => (if t327 = true then ((laws_markGrammar.f kj12 t305 t306 t307 t310 1).bind fun bt328 => (if bt328.1 < 0 then (laws_FnExactNumberedMelody.j1 kj12 a1 a2 t301 t304 t314 true a0_0 a0_1 l0_2 l0_3) else ((laws_eqInt64S.f kj12 t314 t301).bind fun t331 => (if t331 = true then (laws_FnExactNumberedMelody.j1 kj12 a1 a2 t301 t304 t314 (t317 != t304) a0_0 a0_1 l0_2 l0_3) else (laws_FnExactNumberedMelody.j1 kj12 a1 a2 t301 t304 t314 true a0_0 a0_1 l0_2 l0_3))))) else (some false)))) = some r := by rw [if_neg (show ¬ (false = true) by decide)] at H; exact H
     clear H
     have H := H1
     clear H1
     replace H := Option.bind_eq_some_iff.mp H
     obtain ⟨⟨t319, t320, t321, t324⟩, A370, H⟩ := H
     replace H : ((laws_eqGrammar.f kj12 t305 t306 t307 t310 t319 t320 t321 t324).bind fun t327 => (if t327 = true then ((laws_markGrammar.f kj12 t305 t306 t307 t310 1).bind fun bt328 => (if bt328.1 < 0 then (laws_FnExactNumberedMelody.j1 kj12 a1 a2 t301 t304 t314 true a0_0 a0_1 l0_2 l0_3) else ((laws_eqInt64S.f kj12 t314 t301).bind fun t331 => (if t331 = true then (laws_FnExactNumberedMelody.j1 kj12 a1 a2 t301 t304 t314 (t317 != t304) a0_0 a0_1 l0_2 l0_3) else (laws_FnExactNumberedMelody.j1 kj12 a1 a2 t301 t304 t314 true a0_0 a0_1 l0_2 l0_3))))) else (some false))) = some r := H
     have A37 := Aside0.mk A370
     clear A370
     replace H := Option.bind_eq_some_iff.mp H
     obtain ⟨t327, A380, H⟩ := H
     replace H : (if t327 = true then ((laws_markGrammar.f kj12 t305 t306 t307 t310 1).bind fun bt328 => (if bt328.1 < 0 then (laws_FnExactNumberedMelody.j1 kj12 a1 a2 t301 t304 t314 true a0_0 a0_1 l0_2 l0_3) else ((laws_eqInt64S.f kj12 t314 t301).bind fun t331 => (if t331 = true then (laws_FnExactNumberedMelody.j1 kj12 a1 a2 t301 t304 t314 (t317 != t304) a0_0 a0_1 l0_2 l0_3) else (laws_FnExactNumberedMelody.j1 kj12 a1 a2 t301 t304 t314 true a0_0 a0_1 l0_2 l0_3))))) else (some false)) = some r := H
     have A38 := Aside0.mk A380
     clear A380
     by_cases c39 : t327 = true
     ·subst c39
      have H1 : ((laws_markGrammar.f kj12 t305 t306 t307 t310 1).bind fun bt328 => (if bt328.1 < 0 then (laws_FnExactNumberedMelody.j1 kj12 a1 a2 t301 t304 t314 true a0_0 a0_1 l0_2 l0_3) else ((laws_eqInt64S.f kj12 t314 t301).bind fun t331 => (if t331 = true then (laws_FnExactNumberedMelody.j1 kj12 a1 a2 t301 t304 t314 (t317 != t304) a0_0 a0_1 l0_2 l0_3) else (laws_FnExactNumberedMelody.j1 kj12 a1 a2 t301 t304 t314 true a0_0 a0_1 l0_2 l0_3))))) = some r := by rw [if_pos rfl] at H; exact H
      clear H
      have H := H1
      clear H1
      replace H := Option.bind_eq_some_iff.mp H
      obtain ⟨⟨t328, t329, t330⟩, A400, H⟩ := H
      replace H : (if t328 < 0 then (laws_FnExactNumberedMelody.j1 kj12 a1 a2 t301 t304 t314 true a0_0 a0_1 l0_2 l0_3) else ((laws_eqInt64S.f kj12 t314 t301).bind fun t331 => (if t331 = true then (laws_FnExactNumberedMelody.j1 kj12 a1 a2 t301 t304 t314 (t317 != t304) a0_0 a0_1 l0_2 l0_3) else (laws_FnExactNumberedMelody.j1 kj12 a1 a2 t301 t304 t314 true a0_0 a0_1 l0_2 l0_3)))) = some r := H
      have A40 := Aside0.mk A400
      clear A400
      have HC41 := Aside0.mk H
      clear H
      try go_wp2
      have n0_ := Aside0.mk (rD HO_8.out)
      have n1_ := Aside0.mk (rD HO_11.out)
      have n2_ := Aside0.mk (rD HO_314002.out)
      have n3_ := Aside0.mk (rD HO_314003.out)
      have n4_ := Aside0.mk (kD BK291.out)
      have n5_ := Aside0.mk (kD BK313.out)
      have n6_ := Aside0.mk (bD HB.out)
      clear HO_8
      clear HO_11
      clear HO_314002
      clear HO_314003
      clear BK291
      clear BK313
      clear HB
      have HO_8 := n0_
      have HO_11 := n1_
      have HO_314002 := n2_
      have HO_314003 := n3_
      have BK291 := n4_
      have BK313 := n5_
      have HB := n6_
      clear n0_ n1_ n2_ n3_ n4_ n5_ n6_
      refine start_ (n := 5) (S := fun w' => w'.cell? ⟨gb313, 0, none⟩ = some (.int .i64 t305) ∧ w'.cell? ⟨gb313, 1, none⟩ = some (.int .i64 t306) ∧ w'.cell? ⟨gb313, 2, none⟩ = some (.slice Ao27 t307.length co27) ∧ w'.cell? ⟨gb313, 3, none⟩ = some (.slice Ao28 t310.length co28) ∧ w'.cell? ⟨gb291, 0, none⟩ = some (.int .i64 a0_0) ∧ w'.cell? ⟨gb291, 1, none⟩ = some (.int .i64 a0_1) ∧ w'.cell? ⟨gb291, 2, none⟩ = some (.slice A0_2 l0_2.length c0_2) ∧ w'.cell? ⟨gb291, 3, none⟩ = some (.slice A0_3 l0_3.length c0_3)) (ds := []) #[F,F,F,F,F] (by kernel_rfl) rfl rfl ⟨(kC BK313.out 0).trans rfl, (kC BK313.out 1).trans rfl, (kC BK313.out 2).trans rfl, (kC BK313.out 3).trans rfl, (kC BK291.out 0).trans rfl, (kC BK291.out 1).trans rfl, (kC BK291.out 2).trans rfl, (kC BK291.out 3).trans rfl⟩ (fun hHeld => ?_)
      generalize wc.drew = w42 at HO_8 HO_11 HO_314002 HO_314003 BK291 BK313 HB hHeld ⊢
      refine take_ (i := 0) (N := some 49) (v := ?_) (a' := ?_) #[T,F,F,F,F] rfl rfl (by kernel_rfl) (fun _ _ _ h => h) (Or.inl ⟨by rfl, ?_⟩) hHeld ?_ ?_; rotate_left; (·rintro w' ⟨s0, s1, s2, s3, s4, s5, s6, s7⟩; go_simp; with_reducible rfl); rotate_left; (·simp only [Act.put, sI, sZ, sS, iW, jW]; rfl)
      refine take_ (i := 1) (N := some 50) (v := ?_) (a' := ?_) #[T,T,F,F,F] rfl rfl (by kernel_rfl) (fun _ _ _ h => h) (Or.inl ⟨by rfl, ?_⟩) hHeld ?_ ?_; rotate_left; (·rintro w' ⟨s0, s1, s2, s3, s4, s5, s6, s7⟩; go_simp; with_reducible rfl); rotate_left; (·simp only [Act.put, sI, sZ, sS, iW, jW]; rfl)
      refine one_ (i := 2) (N := some 51) #[T,T,T,F,F] rfl rfl (by kernel_rfl) (by decide) (fun K hK => ?_)
      refine goes_ Try.func17 (by kernel_rfl) rfl #[.agg #[.int .i64 a0_0, .int .i64 a0_1, .slice A0_2 l0_2.length c0_2, .slice A0_3 l0_3.length c0_3]] (by rfl) rfl rfl lQ ?_
      with_reducible refine (laws_toGrammar.calls kj12 a0_0 a0_1 _ _ l0_2 _ _ l0_3 t319 t320 t321 t324 _ ?side1 ?side2 ?side3 ?side4 A37.out).mono ?_
      (case side1 => repeat (first | exact (cB HR0_2.out HB.out) | (with_reducible refine cA ?_ _) | (with_reducible refine cN ?_ _) | (with_reducible refine cD ?_)))
      (case side2 => exact HC0_2.out)
      (case side3 => repeat (first | exact (cB HR0_3.out HB.out) | (with_reducible refine cA ?_ _) | (with_reducible refine cN ?_ _) | (with_reducible refine cD ?_)))
      (case side4 => exact HC0_3.out)
      rintro e w43 ⟨v322, v325, rfl, ho0, ho1, hb⟩
      refine ⟨_, rfl, ?_⟩
      have z_ := bX hb (by repeat (first | (with_reducible first | exact HB.out | apply bA | apply bN | apply bD | refine bS ?_ GE291.out | refine bS ?_ GE313.out) | exact HB.out))
      have n0_ := Aside0.mk (rE (rQ HO_8) (Kd.R_base ho0) hb)
      have n1_ := Aside0.mk (rE (rQ HO_11) (Kd.R_base ho0) hb)
      have n2_ := Aside0.mk (rE (rQ HO_314002) (Kd.R_base ho0) hb)
      have n3_ := Aside0.mk (rE (rQ HO_314003) (Kd.R_base ho1) hb)
      have n4_ := Aside0.mk (rL (rW (rW (rW ho0 (rT (rQ HO_8))) (rT (rQ HO_11))) (rT (rQ HO_314002))) (bZ z_))
      have n5_ := Aside0.mk (rL (rW ho1 (rT (rQ HO_314003))) (bZ z_))
      have n6_ := Aside0.mk (kB (kQ BK291) hb)
      have n7_ := Aside0.mk (kB (kQ BK313) hb)
      have n8_ := Aside0.mk (bP z_ hb)
      clear HO_8
      clear HO_11
      clear HO_314002
      clear HO_314003
      clear BK291
      clear BK313
      clear HB
      have HO_8 := n0_
      have HO_11 := n1_
      have HO_314002 := n2_
      have HO_314003 := n3_
      have HO323 := n4_
      have HO326 := n5_
      have BK291 := n6_
      have BK313 := n7_
      have HB := n8_
      clear z_ n0_ n1_ n2_ n3_ n4_ n5_ n6_ n7_ n8_
      (try clear hb)
      (try clear hb2)
      (try clear hk)
      (try clear hi)
      (try clear ho0)
      (try clear ho1)
      obtain ⟨Ao44, co44, eo44⟩ := Kd.R_slice HO323.out
      (first | subst eo44 | (injection eo44 with f1_ f2_ f3_; have f4_ := f1_.symm; have f5_ := f3_.symm; clear f1_ f2_ f3_; subst f4_; subst f5_))
      obtain ⟨Ao45, co45, eo45⟩ := Kd.R_slice HO326.out
      (first | subst eo45 | (injection eo45 with f1_ f2_ f3_; have f4_ := f1_.symm; have f5_ := f3_.symm; clear f1_ f2_ f3_; subst f4_; subst f5_))
      refine hK.out _ _ ⟨(kC BK313.out 0).trans rfl, (kC BK313.out 1).trans rfl, (kC BK313.out 2).trans rfl, (kC BK313.out 3).trans rfl, (kC BK291.out 0).trans rfl, (kC BK291.out 1).trans rfl, (kC BK291.out 2).trans rfl, (kC BK291.out 3).trans rfl⟩ (fun hHeld => ?_)
      clear hK K
      refine norm_ (a' := ?_) ?_ ?_
      rotate_left
      ·show Act.put _ (some 51) _ = _
       simp only [Act.put, sI, sZ, sS, iW, jW]
       rfl
      refine one_ (i := 3) (N := some 52) #[T,T,T,T,F] rfl rfl (by kernel_rfl) (by decide) (fun K hK => ?_)
      refine goes_ Try.func19 (by kernel_rfl) rfl #[.agg #[.int .i64 t305, .int .i64 t306, .slice Ao27 t307.length co27, .slice Ao28 t310.length co28], .agg #[.int .i64 t319, .int .i64 t320, .slice Ao44 t321.length co44, .slice Ao45 t324.length co45]] (by rfl) rfl rfl lQ ?_
      with_reducible refine (laws_eqGrammar.calls kj12 t305 t306 _ _ t307 _ _ t310 t319 t320 _ _ t321 _ _ t324 true _ ?side1 ?side2 ?side3 ?side4 ?side5 ?side6 ?side7 ?side8 A38.out).mono ?_
      (case side1 => repeat (first | exact (Kd.R_reads' HO_314002.out).2.2 | (with_reducible refine cA ?_ _) | (with_reducible refine cN ?_ _) | (with_reducible refine cD ?_)))
      (case side2 => exact (Kd.R_reads' HO_314002.out).2.1)
      (case side3 => repeat (first | exact (Kd.R_reads' HO_314003.out).2.2 | (with_reducible refine cA ?_ _) | (with_reducible refine cN ?_ _) | (with_reducible refine cD ?_)))
      (case side4 => exact (Kd.R_reads' HO_314003.out).2.1)
      (case side5 => repeat (first | exact (Kd.R_reads' HO323.out).2.2 | (with_reducible refine cA ?_ _) | (with_reducible refine cN ?_ _) | (with_reducible refine cD ?_)))
      (case side6 => exact (Kd.R_reads' HO323.out).2.1)
      (case side7 => repeat (first | exact (Kd.R_reads' HO326.out).2.2 | (with_reducible refine cA ?_ _) | (with_reducible refine cN ?_ _) | (with_reducible refine cD ?_)))
      (case side8 => exact (Kd.R_reads' HO326.out).2.1)
      rintro e w46 ⟨rfl, hb⟩
      refine ⟨_, rfl, ?_⟩
      have n0_ := Aside0.mk (rB (rQ HO_8) hb)
      have n1_ := Aside0.mk (rB (rQ HO_11) hb)
      have n2_ := Aside0.mk (rB (rQ HO_314002) hb)
      have n3_ := Aside0.mk (rB (rQ HO_314003) hb)
      have n4_ := Aside0.mk (rB (rQ HO323) hb)
      have n5_ := Aside0.mk (rB (rQ HO326) hb)
      have n6_ := Aside0.mk (kB (kQ BK291) hb)
      have n7_ := Aside0.mk (kB (kQ BK313) hb)
      have n8_ := Aside0.mk (bP (by repeat (first | (with_reducible first | exact HB.out | apply bA | apply bN | apply bD | refine bS ?_ GE291.out | refine bS ?_ GE313.out) | exact HB.out)) hb)
      clear HO_8
      clear HO_11
      clear HO_314002
      clear HO_314003
      clear HO323
      clear HO326
      clear BK291
      clear BK313
      clear HB
      have HO_8 := n0_
      have HO_11 := n1_
      have HO_314002 := n2_
      have HO_314003 := n3_
      have HO323 := n4_
      have HO326 := n5_
      have BK291 := n6_
      have BK313 := n7_
      have HB := n8_
      clear n0_ n1_ n2_ n3_ n4_ n5_ n6_ n7_ n8_
      (try clear hb)
      (try clear hb2)
      (try clear hk)
      (try clear hi)
      refine hK.out _ _ ⟨(kC BK313.out 0).trans rfl, (kC BK313.out 1).trans rfl, (kC BK313.out 2).trans rfl, (kC BK313.out 3).trans rfl, (kC BK291.out 0).trans rfl, (kC BK291.out 1).trans rfl, (kC BK291.out 2).trans rfl, (kC BK291.out 3).trans rfl⟩ (fun hHeld => ?_)
      clear hK K
      refine norm_ (a' := ?_) ?_ ?_
      rotate_left
      ·show Act.put _ (some 52) _ = _
       simp only [Act.put, sI, sZ, sS, iW, jW]
       rfl
      refine pure_ (i := 4) (N := some 53) (v := ?_) (a' := ?_) #[T,T,T,T,T] rfl rfl (by kernel_rfl) (fun _ _ _ h => h) (Or.inl ⟨by rfl, ?_⟩) ?_ ?_; rotate_left; (·intro w'; go_simp; with_reducible rfl); rotate_left; (·simp only [Act.put, sI, sZ, sS, iW, jW]; rfl)
      refine done_ (by kernel_rfl) ?_
      have hnb47 := NB313_291.out
      have hnc47 := NB291_313.out
      have hcz48_0 : w46.cell? ⟨gb313, 0, none⟩ = some (.int .i64 t305) := (kC BK313.out 0).trans rfl
      have hcz48_1 : w46.cell? ⟨gb313, 1, none⟩ = some (.int .i64 t306) := (kC BK313.out 1).trans rfl
      have hcz48_2 : w46.cell? ⟨gb313, 2, none⟩ = some (.slice Ao27 t307.length co27) := (kC BK313.out 2).trans rfl
      have hcz48_3 : w46.cell? ⟨gb313, 3, none⟩ = some (.slice Ao28 t310.length co28) := (kC BK313.out 3).trans rfl
      have hfz48_0 := blk_frozen BK313.out 0
      have hfz48_1 := blk_frozen BK313.out 1
      have hfz48_2 := blk_frozen BK313.out 2
      have hfz48_3 := blk_frozen BK313.out 3
      go_upto_region 14 with (first | ((with_reducible refine gC (f := 30) rfl ?_); refine goesL_ (some 56) rfl rfl Try.func30 (by kernel_rfl) rfl #[.agg #[.int .i64 t305, .int .i64 t306, .slice Ao27 t307.length co27, .slice Ao28 t310.length co28], .int .i64 1] rfl lQ ?_; (with_reducible refine (laws_markGrammar.calls kj12 t305 t306 (fun k_ => some k_ = (.slice Ao27 t307.length co27 : Value).ownBlock) (.slice Ao27 t307.length co27) t307 (fun k_ => some k_ = (.slice Ao28 t310.length co28 : Value).ownBlock) (.slice Ao28 t310.length co28) t310 1 t328 t329 t330 w _ ?side1 ?side2 ?side3 A40.out).mono ?_); (case side1 => repeat (first | (with_reducible first | exact HB.out | apply bA | apply bN | apply bD | refine bS ?_ GE291.out | refine bS ?_ GE313.out) | exact HB.out)); (case side2 => exact Kd.R_tight rfl HO_314002.out); (case side3 => exact Kd.R_tight rfl HO_314003.out); rintro e w49 ⟨rfl, hy0, hy1, hb, hkp⟩; refine ⟨_, rfl, ?_⟩; have n0_ := Aside0.mk (rM (ok' := fun k_ => some k_ ≠ (v315 : Value).ownBlock ∧ some k_ ≠ (.slice Ao27 t307.length co27 : Value).ownBlock ∧ some k_ ≠ (.slice Ao44 t321.length co44 : Value).ownBlock) (Kd.R_keptB ((Kd.R_apart' HO_8.out (Kd.R_typed HO_314003.out) (by decide))) hkp (fun k_ hk_ hs_ => Or.elim hs_ (fun e_ => (hk_.1.1.2) e_) (fun e_ => (hk_.2) e_))) (fun k_ hk_ => ⟨hk_.1.1.1.1, hk_.1.1.1.2, hk_.1.1.2⟩)); have n1_ := Aside0.mk (rM (ok' := fun k_ => some k_ ≠ (v302 : Value).ownBlock ∧ some k_ ≠ (.slice Ao27 t307.length co27 : Value).ownBlock ∧ some k_ ≠ (.slice Ao44 t321.length co44 : Value).ownBlock) (Kd.R_keptB ((Kd.R_apart' HO_11.out (Kd.R_typed HO_314003.out) (by decide))) hkp (fun k_ hk_ hs_ => Or.elim hs_ (fun e_ => (hk_.1.1.2) e_) (fun e_ => (hk_.2) e_))) (fun k_ hk_ => ⟨hk_.1.1.1.1, hk_.1.1.1.2, hk_.1.1.2⟩)); have n2_ := Aside0.mk (Kd.R_reok rfl hy0 (fun k_ e_ => HO_314002.out.1 k_ e_)); have n3_ := Aside0.mk (Kd.R_reok rfl hy1 (fun k_ e_ => HO_314003.out.1 k_ e_)); have n4_ := Aside0.mk (blk_kept (kQ BK291) hkp (fun hs_ => Or.elim hs_ (fun e_ => (fun e_ => (Kd.R_ne HO_314002.out BK291.out (by decide)) e_) e_) (fun e_ => (fun e_ => (Kd.R_ne HO_314003.out BK291.out (by decide)) e_) e_))); have n5_ := Aside0.mk (blk_kept (kQ BK313) hkp (fun hs_ => Or.elim hs_ (fun e_ => (fun e_ => (Kd.R_ne HO_314002.out BK313.out (by decide)) e_) e_) (fun e_ => (fun e_ => (Kd.R_ne HO_314003.out BK313.out (by decide)) e_) e_))); have n6_ := Aside0.mk (rM (ok' := fun k_ => some k_ ≠ (v302 : Value).ownBlock ∧ some k_ ≠ (v315 : Value).ownBlock ∧ some k_ ≠ (.slice Ao27 t307.length co27 : Value).ownBlock) (Kd.R_keptB ((Kd.R_apart' HO323.out (Kd.R_typed HO_314003.out) (by decide))) hkp (fun k_ hk_ hs_ => Or.elim hs_ (fun e_ => (hk_.1.2) e_) (fun e_ => (hk_.2) e_))) (fun k_ hk_ => ⟨hk_.1.1.1.1.2, hk_.1.1.1.2, hk_.1.1.2⟩)); have n7_ := Aside0.mk (rM (ok' := fun k_ => some k_ ≠ (.slice Ao28 t310.length co28 : Value).ownBlock) (Kd.R_keptB ((Kd.R_apart' HO326.out (Kd.R_typed HO_314002.out) (by decide))) hkp (fun k_ hk_ hs_ => Or.elim hs_ (fun e_ => (hk_.2) e_) (fun e_ => (hk_.1.2) e_))) (fun k_ hk_ => hk_.1.1.2)); have n8_ := Aside0.mk (hb); clear HO_8; clear HO_11; clear HO_314002; clear HO_314003; clear BK291; clear BK313; clear HO323; clear HO326; clear HB; have HO_8 := n0_; have HO_11 := n1_; have HO_314002 := n2_; have HO_314003 := n3_; have BK291 := n4_; have BK313 := n5_; have HO323 := n6_; have HO326 := n7_; have HB := n8_; clear n0_ n1_ n2_ n3_ n4_ n5_ n6_ n7_ n8_; (try clear hb); (try clear hkp); (try clear hy0); (try clear hy1)))
      (try simp only [Act.put, sI, sZ, sS])
      go_cut [69] (fun v69 wc => ∃ (kq : Nat) (x69_40 : Bool), v69 = .bool x69_40 ∧ Aside0 (laws_FnExactNumberedMelody.j1 kq a1 a2 t301 t304 t314 x69_40 a0_0 a0_1 l0_2 l0_3 = some r) ∧ Aside0 (kq ≤ kj12) ∧ Aside0 (Kd.R (Kd.int .i64) 2 wc w.heap.size (fun k_ => some k_ ≠ (v315 : Value).ownBlock ∧ some k_ ≠ ((.slice Ao27 t307.length co27) : Value).ownBlock) v302 t301) ∧ Aside0 (Kd.R (Kd.int .i64) 2 wc w.heap.size (fun k_ => some k_ ≠ (v302 : Value).ownBlock ∧ some k_ ≠ ((.slice Ao27 t307.length co27) : Value).ownBlock) v315 t314) ∧ Aside0 (Kd.R (Kd.int .i64) 2 wc w.heap.size (fun k_ => some k_ ≠ (v302 : Value).ownBlock ∧ some k_ ≠ (v315 : Value).ownBlock) (.slice Ao27 t307.length co27) t329) ∧ Aside0 (Kd.R k67 67 wc w.heap.size (fun _ => True) (.slice Ao28 t310.length co28) t330) ∧ Aside0 (wc.heap[gb291]? = some (.cells #[.int .i64 a0_0, .int .i64 a0_1, (.slice A0_2 l0_2.length c0_2), (.slice A0_3 l0_3.length c0_3)] 25 (0, 0))) ∧ Aside0 (wc.heap[gb313]? = some (.cells #[.int .i64 t305, .int .i64 t306, (.slice Ao27 t307.length co27), (.slice Ao28 t310.length co28)] 30 (0, 0))) ∧ Aside0 (Below w.heap.size w wc))
      case first =>
       have H := HC41.out
       clear HC41
       by_cases c50 : t328 < 0
       ·rw [if_pos c50] at H
        have c50b0 : decide (t328 < 0) = true := decide_eq_true c50
        clear c50
        (first | rw [c50b0] | (simp only [iW, jW]; rw [c50b0]) | skip)
        have H' := Aside0.mk H
        clear H
        go_wp2
        go_meet
        case rel => exact ⟨_, (true), (by first | rfl | (simp; done) | (simp [*]; done)), H', ⟨by have := HJ12.out; first | omega | exact Nat.le_refl _⟩, ⟨by (with_reducible repeat (first | apply rA | apply rN | apply rD)); exact rM HO_8.out (fun _ hk => ⟨hk.1, hk.2.1⟩)⟩, ⟨by (with_reducible repeat (first | apply rA | apply rN | apply rD)); exact rM HO_11.out (fun _ hk => ⟨hk.1, hk.2.1⟩)⟩, ⟨by (with_reducible repeat (first | apply rA | apply rN | apply rD)); exact rM HO_314002.out (fun _ hk => ⟨hk.1.1, hk.1.2⟩)⟩, ⟨by (with_reducible repeat (first | apply rA | apply rN | apply rD)); exact rM HO_314003.out (fun _ hk => trivial)⟩, ⟨by (with_reducible repeat (first | refine kN ?_ _ | refine kD ?_ | refine kA ?_ _)); exact BK291.out⟩, ⟨by (with_reducible repeat (first | refine kN ?_ _ | refine kD ?_ | refine kA ?_ _)); exact BK313.out⟩, ⟨by repeat (first | (with_reducible first | exact HB.out | apply bA | apply bN | apply bD | refine bS ?_ GE291.out | refine bS ?_ GE313.out) | exact HB.out)⟩⟩
       ·rw [if_neg c50] at H
        have c50b0 : decide (t328 < 0) = false := decide_eq_false c50
        clear c50
        (first | rw [c50b0] | (simp only [iW, jW]; rw [c50b0]) | skip)
        replace H := Option.bind_eq_some_iff.mp H
        obtain ⟨t331, A510, H⟩ := H
        replace H : (if t331 = true then (laws_FnExactNumberedMelody.j1 kj12 a1 a2 t301 t304 t314 (t317 != t304) a0_0 a0_1 l0_2 l0_3) else (laws_FnExactNumberedMelody.j1 kj12 a1 a2 t301 t304 t314 true a0_0 a0_1 l0_2 l0_3)) = some r := H
        have A51 := Aside0.mk A510
        clear A510
        by_cases c52 : t331 = true
        ·subst c52
         have H1 : (laws_FnExactNumberedMelody.j1 kj12 a1 a2 t301 t304 t314 (t317 != t304) a0_0 a0_1 l0_2 l0_3) = some r := by rw [if_pos rfl] at H; exact H
         clear H
         have H := H1
         clear H1
         have H' := Aside0.mk H
         clear H
         obtain ⟨Ao53, co53, eo53⟩ := Kd.R_slice HO_11.out
         subst eo53
         obtain ⟨Ao54, co54, eo54⟩ := Kd.R_slice HO_8.out
         subst eo54
         go_wp2_with (first | (go_at_call 27; (with_reducible refine (laws_eqInt64S.calls kj12 _ _ t314 _ _ t301 true _ ?side1 ?side2 ?side3 ?side4 A51.out).mono ?_); (case side1 => repeat (first | exact (Kd.R_reads' HO_11.out).2.2 | (with_reducible refine cA ?_ _) | (with_reducible refine cN ?_ _) | (with_reducible refine cD ?_))); (case side2 => exact (Kd.R_reads' HO_11.out).2.1); (case side3 => repeat (first | exact (Kd.R_reads' HO_8.out).2.2 | (with_reducible refine cA ?_ _) | (with_reducible refine cN ?_ _) | (with_reducible refine cD ?_))); (case side4 => exact (Kd.R_reads' HO_8.out).2.1); rintro e w' ⟨rfl, ⟨nd, rfl⟩⟩))
         go_meet
         case rel => exact ⟨_, ((t317 != t304)), (by first | rfl | (simp; done) | (simp [*]; done)), H', ⟨by have := HJ12.out; first | omega | exact Nat.le_refl _⟩, ⟨by (with_reducible repeat (first | apply rA | apply rN | apply rD)); exact rM HO_8.out (fun _ hk => ⟨hk.1, hk.2.1⟩)⟩, ⟨by (with_reducible repeat (first | apply rA | apply rN | apply rD)); exact rM HO_11.out (fun _ hk => ⟨hk.1, hk.2.1⟩)⟩, ⟨by (with_reducible repeat (first | apply rA | apply rN | apply rD)); exact rM HO_314002.out (fun _ hk => ⟨hk.1.1, hk.1.2⟩)⟩, ⟨by (with_reducible repeat (first | apply rA | apply rN | apply rD)); exact rM HO_314003.out (fun _ hk => trivial)⟩, ⟨by (with_reducible repeat (first | refine kN ?_ _ | refine kD ?_ | refine kA ?_ _)); exact BK291.out⟩, ⟨by (with_reducible repeat (first | refine kN ?_ _ | refine kD ?_ | refine kA ?_ _)); exact BK313.out⟩, ⟨by repeat (first | (with_reducible first | exact HB.out | apply bA | apply bN | apply bD | refine bS ?_ GE291.out | refine bS ?_ GE313.out) | exact HB.out)⟩⟩
        ·replace c52 := Bool.eq_false_iff.mpr c52
         subst c52
         have H1 : (laws_FnExactNumberedMelody.j1 kj12 a1 a2 t301 t304 t314 true a0_0 a0_1 l0_2 l0_3) = some r := by rw [if_neg (show ¬ (false = true) by decide)] at H; exact H
         clear H
         have H := H1
         clear H1
         have H' := Aside0.mk H
         clear H
         obtain ⟨Ao55, co55, eo55⟩ := Kd.R_slice HO_11.out
         subst eo55
         obtain ⟨Ao56, co56, eo56⟩ := Kd.R_slice HO_8.out
         subst eo56
         go_wp2_with (first | (go_at_call 27; (with_reducible refine (laws_eqInt64S.calls kj12 _ _ t314 _ _ t301 false _ ?side1 ?side2 ?side3 ?side4 A51.out).mono ?_); (case side1 => repeat (first | exact (Kd.R_reads' HO_11.out).2.2 | (with_reducible refine cA ?_ _) | (with_reducible refine cN ?_ _) | (with_reducible refine cD ?_))); (case side2 => exact (Kd.R_reads' HO_11.out).2.1); (case side3 => repeat (first | exact (Kd.R_reads' HO_8.out).2.2 | (with_reducible refine cA ?_ _) | (with_reducible refine cN ?_ _) | (with_reducible refine cD ?_))); (case side4 => exact (Kd.R_reads' HO_8.out).2.1); rintro e w' ⟨rfl, ⟨nd, rfl⟩⟩))
         go_meet
         case rel => exact ⟨_, (true), (by first | rfl | (simp; done) | (simp [*]; done)), H', ⟨by have := HJ12.out; first | omega | exact Nat.le_refl _⟩, ⟨by (with_reducible repeat (first | apply rA | apply rN | apply rD)); exact rM HO_8.out (fun _ hk => ⟨hk.1, hk.2.1⟩)⟩, ⟨by (with_reducible repeat (first | apply rA | apply rN | apply rD)); exact rM HO_11.out (fun _ hk => ⟨hk.1, hk.2.1⟩)⟩, ⟨by (with_reducible repeat (first | apply rA | apply rN | apply rD)); exact rM HO_314002.out (fun _ hk => ⟨hk.1.1, hk.1.2⟩)⟩, ⟨by (with_reducible repeat (first | apply rA | apply rN | apply rD)); exact rM HO_314003.out (fun _ hk => trivial)⟩, ⟨by (with_reducible repeat (first | refine kN ?_ _ | refine kD ?_ | refine kA ?_ _)); exact BK291.out⟩, ⟨by (with_reducible repeat (first | refine kN ?_ _ | refine kD ?_ | refine kA ?_ _)); exact BK313.out⟩, ⟨by repeat (first | (with_reducible first | exact HB.out | apply bA | apply bN | apply bD | refine bS ?_ GE291.out | refine bS ?_ GE313.out) | exact HB.out)⟩⟩
      case rest =>
       clear HC41
       try clear c1
       try clear c2
       try clear p2
       try clear c3
       try clear c4
       try clear c5
       try clear c5b0
       try clear c8
       try clear c15
       try clear c17
       try clear c19
       try clear c25
       try clear c27
       try clear c30
       try clear c31
       try clear c33
       try clear c34
       try clear c36
       try clear c39
       try clear c47
       try clear c50
       try clear c50b0
       try clear c52
       try clear hcz15_0
       try clear hcz15_1
       try clear hcz15_2
       try clear hcz15_3
       try clear hcz17_0
       try clear hcz17_1
       try clear hcz17_2
       try clear hcz17_3
       try clear hcz22_0
       try clear hcz22_1
       try clear hcz22_2
       try clear hcz22_3
       try clear hcz26_0
       try clear hcz26_1
       try clear hcz26_2
       try clear hcz26_3
       try clear hcz48_0
       try clear hcz48_1
       try clear hcz48_2
       try clear hcz48_3
       try clear hcz7_0
       try clear hcz7_1
       try clear hcz7_2
       try clear hcz7_3
       try clear hfz15_0
       try clear hfz15_1
       try clear hfz15_2
       try clear hfz15_3
       try clear hfz17_0
       try clear hfz17_1
       try clear hfz17_2
       try clear hfz17_3
       try clear hfz22_0
       try clear hfz22_1
       try clear hfz22_2
       try clear hfz22_3
       try clear hfz26_0
       try clear hfz26_1
       try clear hfz26_2
       try clear hfz26_3
       try clear hfz48_0
       try clear hfz48_1
       try clear hfz48_2
       try clear hfz48_3
       try clear hfz7_0
       try clear hfz7_1
       try clear hfz7_2
       try clear hfz7_3
       try clear p2
       obtain ⟨kq, x69_40, rfl, HA, HJ40, HO_8, HO_11, HO_314002, HO_314003, BK291, BK313, HB⟩ := hcut
       have hl314002_40 := (Kd.R_reads' HO_314002.out).1
       rw [hl314002_40] at HO_314002
       (try simp only [hl314002_40])
       (try simp only [hl314002_40] at BK291)
       (try simp only [hl314002_40] at BK313)
       (try simp only [hl314002_40] at HO_8)
       (try simp only [hl314002_40] at HO_11)
       (try simp only [hl314002_40] at HO_314003)
       have hl314003_40 := (Kd.R_reads' HO_314003.out).1
       rw [hl314003_40] at HO_314003
       (try simp only [hl314003_40])
       (try simp only [hl314003_40] at BK291)
       (try simp only [hl314003_40] at BK313)
       (try simp only [hl314003_40] at HO_8)
       (try simp only [hl314003_40] at HO_11)
       (try simp only [hl314003_40] at HO_314002)
       cases kq with
       | zero => exact absurd HA.out (by simp [laws_FnExactNumberedMelody.j1])
       | succ kj40 =>
        have H := HA.out
        clear HA
        simp only [laws_FnExactNumberedMelody.j1] at H
        by_cases c57 : x69_40 = true
        ·subst c57
         have H1 : (some false) = some r := by rw [if_pos rfl] at H; exact H
         clear H
         have H := H1
         clear H1
         obtain rfl := Option.some.inj H
         go_wp2
         go_ret
         exact ⟨by first | rfl | (simp [errW_none, errW_some] <;> rfl) | (simp [*, errW_none, errW_some] <;> rfl), by repeat (first | (with_reducible first | exact HB.out | apply bA | apply bN | apply bD | refine bS ?_ GE291.out | refine bS ?_ GE313.out) | exact HB.out)⟩
        ·replace c57 := Bool.eq_false_iff.mpr c57
         subst c57
         have H1 : ((laws_markInt64S.f kj40 t314 1).bind fun bt332 => ((laws_heldInt64S.f kj40 bt332.2 1).bind fun t334 => (if t334 < 0 then (some false) else (if t334 = bt332.1 then ((laws_toGrammar.f kj40 a0_0 a0_1 l0_2 l0_3).bind fun bt335 => ((impl_NumberedMelody.f kj40 bt335.1 bt335.2.1 bt335.2.2.1 bt335.2.2.2 a1 a2).bind fun bt343 => ((laws_eqInt64S.f kj40 bt343.1 t301).bind fun t347 => (if t347 = true then (laws_FnExactNumberedMelody.j2 kj40 bt332.2 bt332.1 (bt343.2 != t304)) else (laws_FnExactNumberedMelody.j2 kj40 bt332.2 bt332.1 true))))) else (some false))))) = some r := by rw [if_neg (show ¬ (false = true) by decide)] at H; exact H
         clear H
         have H := H1
         clear H1
         replace H := Option.bind_eq_some_iff.mp H
         obtain ⟨⟨t332, t333⟩, A580, H⟩ := H
         replace H : ((laws_heldInt64S.f kj40 t333 1).bind fun t334 => (if t334 < 0 then (some false) else (if t334 = t332 then ((laws_toGrammar.f kj40 a0_0 a0_1 l0_2 l0_3).bind fun bt335 => ((impl_NumberedMelody.f kj40 bt335.1 bt335.2.1 bt335.2.2.1 bt335.2.2.2 a1 a2).bind fun bt343 => ((laws_eqInt64S.f kj40 bt343.1 t301).bind fun t347 => (if t347 = true then (laws_FnExactNumberedMelody.j2 kj40 t333 t332 (bt343.2 != t304)) else (laws_FnExactNumberedMelody.j2 kj40 t333 t332 true))))) else (some false)))) = some r := H
         have A58 := Aside0.mk A580
         clear A580
         replace H := Option.bind_eq_some_iff.mp H
         obtain ⟨t334, A590, H⟩ := H
         replace H : (if t334 < 0 then (some false) else (if t334 = t332 then ((laws_toGrammar.f kj40 a0_0 a0_1 l0_2 l0_3).bind fun bt335 => ((impl_NumberedMelody.f kj40 bt335.1 bt335.2.1 bt335.2.2.1 bt335.2.2.2 a1 a2).bind fun bt343 => ((laws_eqInt64S.f kj40 bt343.1 t301).bind fun t347 => (if t347 = true then (laws_FnExactNumberedMelody.j2 kj40 t333 t332 (bt343.2 != t304)) else (laws_FnExactNumberedMelody.j2 kj40 t333 t332 true))))) else (some false))) = some r := H
         have A59 := Aside0.mk A590
         clear A590
         by_cases c60 : t334 < 0
         ·rw [if_pos c60] at H
          have c60b0 : decide (t334 < 0) = true := decide_eq_true c60
          clear c60
          obtain rfl := Option.some.inj H
          obtain ⟨Ao61, co61, eo61⟩ := Kd.R_slice HO_11.out
          subst eo61
          go_wp2_with (first | ((with_reducible refine gC (f := 31) rfl ?_); refine goesL_ (some 72) rfl rfl Try.func31 (by kernel_rfl) rfl #[.slice Ao61 t314.length co61, .int .i64 1] rfl lQ ?_; (with_reducible refine (laws_markInt64S.calls kj40 (fun k_ => some k_ = (.slice Ao61 t314.length co61 : Value).ownBlock) (.slice Ao61 t314.length co61) t314 1 t332 t333 w _ ?side1 ?side2 A58.out).mono ?_); (case side1 => repeat (first | (with_reducible first | exact HB.out | apply bA | apply bN | apply bD | refine bS ?_ GE291.out | refine bS ?_ GE313.out) | exact HB.out)); (case side2 => exact Kd.R_tight rfl HO_11.out); rintro e w62 ⟨rfl, hy0, hb, hkp⟩; refine ⟨_, rfl, ?_⟩; have n0_ := Aside0.mk (rM (ok' := fun k_ => some k_ ≠ (.slice Ao61 t314.length co61 : Value).ownBlock ∧ some k_ ≠ (.slice Ao27 t329.length co27 : Value).ownBlock) (Kd.R_keptB (HO_8.out) hkp (fun k_ hk_ hs_ => (hk_.1) hs_)) (fun k_ hk_ => ⟨hk_.1.1, hk_.1.2⟩)); have n1_ := Aside0.mk (Kd.R_reok rfl hy0 (fun k_ e_ => HO_11.out.1 k_ e_)); have n2_ := Aside0.mk (rM (ok' := fun k_ => some k_ ≠ (v302 : Value).ownBlock ∧ some k_ ≠ (.slice Ao61 t314.length co61 : Value).ownBlock) (Kd.R_keptB (HO_314002.out) hkp (fun k_ hk_ hs_ => (hk_.2) hs_)) (fun k_ hk_ => ⟨hk_.1.1, hk_.1.2⟩)); have n3_ := Aside0.mk (rM (ok' := fun k_ => True) (Kd.R_keptB ((Kd.R_apart' HO_314003.out (Kd.R_typed HO_11.out) (by decide))) hkp (fun k_ hk_ hs_ => (hk_.2) hs_)) (fun k_ hk_ => trivial)); have n4_ := Aside0.mk (blk_kept (kQ BK291) hkp (fun hs_ => (fun e_ => (Kd.R_ne HO_11.out BK291.out (by decide)) e_) hs_)); have n5_ := Aside0.mk (blk_kept (kQ BK313) hkp (fun hs_ => (fun e_ => (Kd.R_ne HO_11.out BK313.out (by decide)) e_) hs_)); have n6_ := Aside0.mk (hb); clear HO_8; clear HO_11; clear HO_314002; clear HO_314003; clear BK291; clear BK313; clear HB; have HO_8 := n0_; have HO_11 := n1_; have HO_314002 := n2_; have HO_314003 := n3_; have BK291 := n4_; have BK313 := n5_; have HB := n6_; clear n0_ n1_ n2_ n3_ n4_ n5_ n6_; (try clear hb); (try clear hkp); (try clear hy0)) | ((with_reducible refine gC (f := 32) rfl ?_); refine goesL_ (some 75) rfl rfl Try.func32 (by kernel_rfl) rfl #[.slice Ao61 t333.length co61, .int .i64 1] rfl (by (try simp only [List.map_toArray, List.map_cons, List.map_nil]); first | done | (rw [show t333.length = t314.length from (Kd.R_reads' HO_11.out).1.symm] <;> rfl) | rfl | (simp only [List.length_drop, List.length_take]; rfl)) ?_; (with_reducible refine (laws_heldInt64S.calls kj40 _ _ t333 1 t334 _ ?side1 ?side2 A59.out).mono ?_); (case side1 => repeat (first | exact (Kd.R_reads' HO_11.out).2.2 | (with_reducible refine cA ?_ _) | (with_reducible refine cN ?_ _) | (with_reducible refine cD ?_))); (case side2 => rw [show t333.length = t314.length from (Kd.R_reads' HO_11.out).1.symm]; exact (Kd.R_reads' HO_11.out).2.1); rintro e w' ⟨rfl, ⟨nd, rfl⟩⟩; refine ⟨_, rfl, ?_⟩))
          go_ret
          exact ⟨by first | rfl | (simp [errW_none, errW_some] <;> rfl) | (simp [*, errW_none, errW_some] <;> rfl), by repeat (first | (with_reducible first | exact HB.out | apply bA | apply bN | apply bD | refine bS ?_ GE291.out | refine bS ?_ GE313.out) | exact HB.out)⟩
         ·rw [if_neg c60] at H
          have c60b0 : decide (t334 < 0) = false := decide_eq_false c60
          clear c60
          by_cases c63 : t334 = t332
          ·rw [if_pos c63] at H
           have c63b0 : (t334 == t332) = true := beq_iff_eq.mpr c63
           have c63b1 : (t334 != t332) = false := bne_eq_false_iff_eq.mpr c63
           clear c63
           replace H := Option.bind_eq_some_iff.mp H
           obtain ⟨⟨t335, t336, t337, t340⟩, A640, H⟩ := H
           replace H : ((impl_NumberedMelody.f kj40 t335 t336 t337 t340 a1 a2).bind fun bt343 => ((laws_eqInt64S.f kj40 bt343.1 t301).bind fun t347 => (if t347 = true then (laws_FnExactNumberedMelody.j2 kj40 t333 t332 (bt343.2 != t304)) else (laws_FnExactNumberedMelody.j2 kj40 t333 t332 true)))) = some r := H
           have A64 := Aside0.mk A640
           clear A640
           replace H := Option.bind_eq_some_iff.mp H
           obtain ⟨⟨t343, t346⟩, A650, H⟩ := H
           replace H : ((laws_eqInt64S.f kj40 t343 t301).bind fun t347 => (if t347 = true then (laws_FnExactNumberedMelody.j2 kj40 t333 t332 (t346 != t304)) else (laws_FnExactNumberedMelody.j2 kj40 t333 t332 true))) = some r := H
           have A65 := Aside0.mk A650
           clear A650
           have HC66 := Aside0.mk H
           clear H
           obtain ⟨Ao67, co67, eo67⟩ := Kd.R_slice HO_11.out
           subst eo67
           go_upto_region 25 with (first | ((with_reducible refine gC (f := 31) rfl ?_); refine goesL_ (some 72) rfl rfl Try.func31 (by kernel_rfl) rfl #[.slice Ao67 t314.length co67, .int .i64 1] rfl lQ ?_; (with_reducible refine (laws_markInt64S.calls kj40 (fun k_ => some k_ = (.slice Ao67 t314.length co67 : Value).ownBlock) (.slice Ao67 t314.length co67) t314 1 t332 t333 w _ ?side1 ?side2 A58.out).mono ?_); (case side1 => repeat (first | (with_reducible first | exact HB.out | apply bA | apply bN | apply bD | refine bS ?_ GE291.out | refine bS ?_ GE313.out) | exact HB.out)); (case side2 => exact Kd.R_tight rfl HO_11.out); rintro e w68 ⟨rfl, hy0, hb, hkp⟩; refine ⟨_, rfl, ?_⟩; have n0_ := Aside0.mk (rM (ok' := fun k_ => some k_ ≠ (.slice Ao67 t314.length co67 : Value).ownBlock ∧ some k_ ≠ (.slice Ao27 t329.length co27 : Value).ownBlock) (Kd.R_keptB (HO_8.out) hkp (fun k_ hk_ hs_ => (hk_.1) hs_)) (fun k_ hk_ => ⟨hk_.1.1, hk_.1.2⟩)); have n1_ := Aside0.mk (Kd.R_reok rfl hy0 (fun k_ e_ => HO_11.out.1 k_ e_)); have n2_ := Aside0.mk (rM (ok' := fun k_ => some k_ ≠ (v302 : Value).ownBlock ∧ some k_ ≠ (.slice Ao67 t314.length co67 : Value).ownBlock) (Kd.R_keptB (HO_314002.out) hkp (fun k_ hk_ hs_ => (hk_.2) hs_)) (fun k_ hk_ => ⟨hk_.1.1, hk_.1.2⟩)); have n3_ := Aside0.mk (rM (ok' := fun k_ => True) (Kd.R_keptB ((Kd.R_apart' HO_314003.out (Kd.R_typed HO_11.out) (by decide))) hkp (fun k_ hk_ hs_ => (hk_.2) hs_)) (fun k_ hk_ => trivial)); have n4_ := Aside0.mk (blk_kept (kQ BK291) hkp (fun hs_ => (fun e_ => (Kd.R_ne HO_11.out BK291.out (by decide)) e_) hs_)); have n5_ := Aside0.mk (blk_kept (kQ BK313) hkp (fun hs_ => (fun e_ => (Kd.R_ne HO_11.out BK313.out (by decide)) e_) hs_)); have n6_ := Aside0.mk (hb); clear HO_8; clear HO_11; clear HO_314002; clear HO_314003; clear BK291; clear BK313; clear HB; have HO_8 := n0_; have HO_11 := n1_; have HO_314002 := n2_; have HO_314003 := n3_; have BK291 := n4_; have BK313 := n5_; have HB := n6_; clear n0_ n1_ n2_ n3_ n4_ n5_ n6_; (try clear hb); (try clear hkp); (try clear hy0)) | ((with_reducible refine gC (f := 32) rfl ?_); refine goesL_ (some 75) rfl rfl Try.func32 (by kernel_rfl) rfl #[.slice Ao67 t333.length co67, .int .i64 1] rfl (by (try simp only [List.map_toArray, List.map_cons, List.map_nil]); first | done | (rw [show t333.length = t314.length from (Kd.R_reads' HO_11.out).1.symm] <;> rfl) | rfl | (simp only [List.length_drop, List.length_take]; rfl)) ?_; (with_reducible refine (laws_heldInt64S.calls kj40 _ _ t333 1 t334 _ ?side1 ?side2 A59.out).mono ?_); (case side1 => repeat (first | exact (Kd.R_reads' HO_11.out).2.2 | (with_reducible refine cA ?_ _) | (with_reducible refine cN ?_ _) | (with_reducible refine cD ?_))); (case side2 => rw [show t333.length = t314.length from (Kd.R_reads' HO_11.out).1.symm]; exact (Kd.R_reads' HO_11.out).2.1); rintro e w' ⟨rfl, ⟨nd, rfl⟩⟩; refine ⟨_, rfl, ?_⟩; have hnb69 := NB291_313.out; have hnc69 := NB313_291.out; have hcz70_0 : w68.cell? ⟨gb291, 0, none⟩ = some (.int .i64 a0_0) := (kC BK291.out 0).trans rfl; have hcz70_1 : w68.cell? ⟨gb291, 1, none⟩ = some (.int .i64 a0_1) := (kC BK291.out 1).trans rfl; have hcz70_2 : w68.cell? ⟨gb291, 2, none⟩ = some (.slice A0_2 l0_2.length c0_2) := (kC BK291.out 2).trans rfl; have hcz70_3 : w68.cell? ⟨gb291, 3, none⟩ = some (.slice A0_3 l0_3.length c0_3) := (kC BK291.out 3).trans rfl; have hfz70_0 := blk_frozen BK291.out 0; have hfz70_1 := blk_frozen BK291.out 1; have hfz70_2 := blk_frozen BK291.out 2; have hfz70_3 := blk_frozen BK291.out 3) | ((with_reducible refine gC (f := 17) rfl ?_); refine goesL_ (some 83) rfl rfl Try.func17 (by kernel_rfl) rfl #[.agg #[.int .i64 a0_0, .int .i64 a0_1, .slice A0_2 l0_2.length c0_2, .slice A0_3 l0_3.length c0_3]] rfl lQ ?_; (with_reducible refine (laws_toGrammar.calls kj40 a0_0 a0_1 _ _ l0_2 _ _ l0_3 t335 t336 t337 t340 _ ?side1 ?side2 ?side3 ?side4 A64.out).mono ?_); (case side1 => repeat (first | exact (cB HR0_2.out (by repeat (first | (with_reducible first | exact HB.out | apply bA | apply bN | apply bD | refine bS ?_ GE291.out | refine bS ?_ GE313.out) | exact HB.out))) | (with_reducible refine cA ?_ _) | (with_reducible refine cN ?_ _) | (with_reducible refine cD ?_))); (case side2 => exact HC0_2.out); (case side3 => repeat (first | exact (cB HR0_3.out (by repeat (first | (with_reducible first | exact HB.out | apply bA | apply bN | apply bD | refine bS ?_ GE291.out | refine bS ?_ GE313.out) | exact HB.out))) | (with_reducible refine cA ?_ _) | (with_reducible refine cN ?_ _) | (with_reducible refine cD ?_))); (case side4 => exact HC0_3.out); rintro e w71 ⟨v338, v341, rfl, ho0, ho1, hb⟩; refine ⟨_, rfl, ?_⟩; have z_ := bX hb (by repeat (first | (with_reducible first | exact HB.out | apply bA | apply bN | apply bD | refine bS ?_ GE291.out | refine bS ?_ GE313.out) | exact HB.out)); have n0_ := Aside0.mk (rE (rQ HO_8) (Kd.R_base ho0) hb); have n1_ := Aside0.mk (rE (rQ HO_11) (Kd.R_base ho0) hb); have n2_ := Aside0.mk (rE (rQ HO_314002) (Kd.R_base ho0) hb); have n3_ := Aside0.mk (rE (rQ HO_314003) (Kd.R_base ho1) hb); have n4_ := Aside0.mk (rL (rW (rW (rW ho0 (rT (rQ HO_8))) (rT (rQ HO_11))) (rT (rQ HO_314002))) (bZ z_)); have n5_ := Aside0.mk (rL (rW ho1 (rT (rQ HO_314003))) (bZ z_)); have n6_ := Aside0.mk (kB (kQ BK291) hb); have n7_ := Aside0.mk (kB (kQ BK313) hb); have n8_ := Aside0.mk (bP z_ hb); clear HO_8; clear HO_11; clear HO_314002; clear HO_314003; clear BK291; clear BK313; clear HB; have HO_8 := n0_; have HO_11 := n1_; have HO_314002 := n2_; have HO_314003 := n3_; have HO339 := n4_; have HO342 := n5_; have BK291 := n6_; have BK313 := n7_; have HB := n8_; clear z_ n0_ n1_ n2_ n3_ n4_ n5_ n6_ n7_ n8_; (try clear hb); (try clear hb2); (try clear hk); (try clear hi); (try clear ho0); (try clear ho1); obtain ⟨Ao72, co72, eo72⟩ := Kd.R_slice HO339.out; subst eo72; obtain ⟨Ao73, co73, eo73⟩ := Kd.R_slice HO342.out; subst eo73) | ((with_reducible refine gC (f := 34) rfl ?_); refine goesL_ (some 86) rfl rfl Try.func34 (by kernel_rfl) rfl #[.agg #[.int .i64 t335, .int .i64 t336, .slice Ao72 t337.length co72, .slice Ao73 t340.length co73], .int .i64 a1, .int .i64 a2] rfl lQ ?_; (with_reducible refine (impl_NumberedMelody.calls kj40 t335 t336 _ _ t337 _ _ t340 a1 a2 t343 t346 _ ?side1 ?side2 ?side3 ?side4 A65.out).mono ?_); (case side1 => repeat (first | exact (Kd.R_reads' HO339.out).2.2 | (with_reducible refine cA ?_ _) | (with_reducible refine cN ?_ _) | (with_reducible refine cD ?_))); (case side2 => exact (Kd.R_reads' HO339.out).2.1); (case side3 => repeat (first | exact (Kd.R_reads' HO342.out).2.2 | (with_reducible refine cA ?_ _) | (with_reducible refine cN ?_ _) | (with_reducible refine cD ?_))); (case side4 => exact (Kd.R_reads' HO342.out).2.1); rintro e w74 ⟨v344, rfl, ho0, hb⟩; refine ⟨_, rfl, ?_⟩; have z_ := bX hb (by repeat (first | (with_reducible first | exact HB.out | apply bA | apply bN | apply bD | refine bS ?_ GE291.out | refine bS ?_ GE313.out) | exact HB.out)); have n0_ := Aside0.mk (rE (rQ HO_8) (Kd.R_base ho0) hb); have n1_ := Aside0.mk (rE (rQ HO_11) (Kd.R_base ho0) hb); have n2_ := Aside0.mk (rE (rQ HO_314002) (Kd.R_base ho0) hb); have n3_ := Aside0.mk (rB (rQ HO_314003) hb); have n4_ := Aside0.mk (rE (rQ HO339) (Kd.R_base ho0) hb); have n5_ := Aside0.mk (rB (rQ HO342) hb); have n6_ := Aside0.mk (rL (rW (rW (rW (rW ho0 (rT (rQ HO_8))) (rT (rQ HO_11))) (rT (rQ HO_314002))) (rT (rQ HO339))) (bZ z_)); have n7_ := Aside0.mk (kB (kQ BK291) hb); have n8_ := Aside0.mk (kB (kQ BK313) hb); have n9_ := Aside0.mk (bP z_ hb); clear HO_8; clear HO_11; clear HO_314002; clear HO_314003; clear HO339; clear HO342; clear BK291; clear BK313; clear HB; have HO_8 := n0_; have HO_11 := n1_; have HO_314002 := n2_; have HO_314003 := n3_; have HO339 := n4_; have HO342 := n5_; have HO345 := n6_; have BK291 := n7_; have BK313 := n8_; have HB := n9_; clear z_ n0_ n1_ n2_ n3_ n4_ n5_ n6_ n7_ n8_ n9_; (try clear hb); (try clear hb2); (try clear hk); (try clear hi); (try clear ho0)))
           (try simp only [Act.put, sI, sZ, sS])
           go_cut [97] (fun v97 wc => ∃ (kq : Nat) (x97_65 : Bool), v97 = .bool x97_65 ∧ Aside0 (laws_FnExactNumberedMelody.j2 kq t333 t332 x97_65 = some r) ∧ Aside0 (kq ≤ kj40) ∧ Aside0 (Kd.R (Kd.int .i64) 2 wc w.heap.size (fun k_ => some k_ ≠ ((.slice Ao27 t329.length co27) : Value).ownBlock) (.slice Ao67 t314.length co67) t333) ∧ Aside0 (Kd.R (Kd.int .i64) 2 wc w.heap.size (fun k_ => some k_ ≠ ((.slice Ao67 t314.length co67) : Value).ownBlock) (.slice Ao27 t329.length co27) t329) ∧ Aside0 (Kd.R k67 67 wc w.heap.size (fun _ => True) (.slice Ao28 t330.length co28) t330) ∧ Aside0 (wc.heap[gb291]? = some (.cells #[.int .i64 a0_0, .int .i64 a0_1, (.slice A0_2 l0_2.length c0_2), (.slice A0_3 l0_3.length c0_3)] 25 (0, 0))) ∧ Aside0 (wc.heap[gb313]? = some (.cells #[.int .i64 t305, .int .i64 t306, (.slice Ao27 t329.length co27), (.slice Ao28 t330.length co28)] 30 (0, 0))) ∧ Aside0 (Below w.heap.size w wc))
           case first =>
            have H := HC66.out
            clear HC66
            replace H := Option.bind_eq_some_iff.mp H
            obtain ⟨t347, A750, H⟩ := H
            replace H : (if t347 = true then (laws_FnExactNumberedMelody.j2 kj40 t333 t332 (t346 != t304)) else (laws_FnExactNumberedMelody.j2 kj40 t333 t332 true)) = some r := H
            have A75 := Aside0.mk A750
            clear A750
            by_cases c76 : t347 = true
            ·subst c76
             have H1 : (laws_FnExactNumberedMelody.j2 kj40 t333 t332 (t346 != t304)) = some r := by rw [if_pos rfl] at H; exact H
             clear H
             have H := H1
             clear H1
             have H' := Aside0.mk H
             clear H
             obtain ⟨Ao77, co77, eo77⟩ := Kd.R_slice HO345.out
             subst eo77
             obtain ⟨Ao78, co78, eo78⟩ := Kd.R_slice HO_8.out
             subst eo78
             go_wp2_with (first | ((with_reducible refine gC (f := 27) rfl ?_); refine goesL_ (some 91) rfl rfl Try.func27 (by kernel_rfl) rfl #[.slice Ao77 t343.length co77, .slice Ao78 t301.length co78] rfl lQ ?_; (with_reducible refine (laws_eqInt64S.calls kj40 _ _ t343 _ _ t301 true _ ?side1 ?side2 ?side3 ?side4 A75.out).mono ?_); (case side1 => repeat (first | exact (Kd.R_reads' HO345.out).2.2 | (with_reducible refine cA ?_ _) | (with_reducible refine cN ?_ _) | (with_reducible refine cD ?_))); (case side2 => exact (Kd.R_reads' HO345.out).2.1); (case side3 => repeat (first | exact (Kd.R_reads' HO_8.out).2.2 | (with_reducible refine cA ?_ _) | (with_reducible refine cN ?_ _) | (with_reducible refine cD ?_))); (case side4 => exact (Kd.R_reads' HO_8.out).2.1); rintro e w' ⟨rfl, ⟨nd, rfl⟩⟩; refine ⟨_, rfl, ?_⟩))
             go_meet
             case rel => exact ⟨_, ((t346 != t304)), (by first | rfl | (simp; done) | (simp [*]; done)), H', ⟨by have := HJ12.out; have := HJ40.out; first | omega | exact Nat.le_refl _⟩, ⟨by (try simp only [hl314002_40]); (try simp only [hl314003_40]); (with_reducible repeat (first | apply rA | apply rN | apply rD)); exact rM HO_11.out (fun _ hk => hk.1.1.2)⟩, ⟨by (try simp only [hl314002_40]); (try simp only [hl314003_40]); (with_reducible repeat (first | apply rA | apply rN | apply rD)); exact rM HO_314002.out (fun _ hk => hk.1.1.2)⟩, ⟨by (try simp only [hl314002_40]); (try simp only [hl314003_40]); (with_reducible repeat (first | apply rA | apply rN | apply rD)); exact rM HO_314003.out (fun _ hk => trivial)⟩, ⟨by (try simp only [hl314002_40]); (try simp only [hl314003_40]); (with_reducible repeat (first | refine kN ?_ _ | refine kD ?_ | refine kA ?_ _)); exact BK291.out⟩, ⟨by (try simp only [hl314002_40]); (try simp only [hl314003_40]); (with_reducible repeat (first | refine kN ?_ _ | refine kD ?_ | refine kA ?_ _)); exact BK313.out⟩, ⟨by repeat (first | (with_reducible first | exact HB.out | apply bA | apply bN | apply bD | refine bS ?_ GE291.out | refine bS ?_ GE313.out) | exact HB.out)⟩⟩
            ·replace c76 := Bool.eq_false_iff.mpr c76
             subst c76
             have H1 : (laws_FnExactNumberedMelody.j2 kj40 t333 t332 true) = some r := by rw [if_neg (show ¬ (false = true) by decide)] at H; exact H
             clear H
             have H := H1
             clear H1
             have H' := Aside0.mk H
             clear H
             obtain ⟨Ao79, co79, eo79⟩ := Kd.R_slice HO345.out
             subst eo79
             obtain ⟨Ao80, co80, eo80⟩ := Kd.R_slice HO_8.out
             subst eo80
             go_wp2_with (first | ((with_reducible refine gC (f := 27) rfl ?_); refine goesL_ (some 91) rfl rfl Try.func27 (by kernel_rfl) rfl #[.slice Ao79 t343.length co79, .slice Ao80 t301.length co80] rfl lQ ?_; (with_reducible refine (laws_eqInt64S.calls kj40 _ _ t343 _ _ t301 false _ ?side1 ?side2 ?side3 ?side4 A75.out).mono ?_); (case side1 => repeat (first | exact (Kd.R_reads' HO345.out).2.2 | (with_reducible refine cA ?_ _) | (with_reducible refine cN ?_ _) | (with_reducible refine cD ?_))); (case side2 => exact (Kd.R_reads' HO345.out).2.1); (case side3 => repeat (first | exact (Kd.R_reads' HO_8.out).2.2 | (with_reducible refine cA ?_ _) | (with_reducible refine cN ?_ _) | (with_reducible refine cD ?_))); (case side4 => exact (Kd.R_reads' HO_8.out).2.1); rintro e w' ⟨rfl, ⟨nd, rfl⟩⟩; refine ⟨_, rfl, ?_⟩))
             go_meet
             case rel => exact ⟨_, (true), (by first | rfl | (simp; done) | (simp [*]; done)), H', ⟨by have := HJ12.out; have := HJ40.out; first | omega | exact Nat.le_refl _⟩, ⟨by (try simp only [hl314002_40]); (try simp only [hl314003_40]); (with_reducible repeat (first | apply rA | apply rN | apply rD)); exact rM HO_11.out (fun _ hk => hk.1.1.2)⟩, ⟨by (try simp only [hl314002_40]); (try simp only [hl314003_40]); (with_reducible repeat (first | apply rA | apply rN | apply rD)); exact rM HO_314002.out (fun _ hk => hk.1.1.2)⟩, ⟨by (try simp only [hl314002_40]); (try simp only [hl314003_40]); (with_reducible repeat (first | apply rA | apply rN | apply rD)); exact rM HO_314003.out (fun _ hk => trivial)⟩, ⟨by (try simp only [hl314002_40]); (try simp only [hl314003_40]); (with_reducible repeat (first | refine kN ?_ _ | refine kD ?_ | refine kA ?_ _)); exact BK291.out⟩, ⟨by (try simp only [hl314002_40]); (try simp only [hl314003_40]); (with_reducible repeat (first | refine kN ?_ _ | refine kD ?_ | refine kA ?_ _)); exact BK313.out⟩, ⟨by repeat (first | (with_reducible first | exact HB.out | apply bA | apply bN | apply bD | refine bS ?_ GE291.out | refine bS ?_ GE313.out) | exact HB.out)⟩⟩
           case rest =>
            clear HC66
            try clear c1
            try clear c2
            try clear p2
            try clear c3
            try clear c4
            try clear c5
            try clear c5b0
            try clear c6
            try clear c7
            try clear c8
            try clear c15
            try clear c17
            try clear c19
            try clear c25
            try clear c27
            try clear c30
            try clear c31
            try clear c32
            try clear c33
            try clear c34
            try clear c36
            try clear c39
            try clear c47
            try clear c50
            try clear c50b0
            try clear c52
            try clear c57
            try clear c60
            try clear c60b0
            try clear c63
            try clear c63b0
            try clear c63b1
            try clear c69
            try clear c76
            try clear hcz15_0
            try clear hcz15_1
            try clear hcz15_2
            try clear hcz15_3
            try clear hcz17_0
            try clear hcz17_1
            try clear hcz17_2
            try clear hcz17_3
            try clear hcz22_0
            try clear hcz22_1
            try clear hcz22_2
            try clear hcz22_3
            try clear hcz26_0
            try clear hcz26_1
            try clear hcz26_2
            try clear hcz26_3
            try clear hcz48_0
            try clear hcz48_1
            try clear hcz48_2
            try clear hcz48_3
            try clear hcz70_0
            try clear hcz70_1
            try clear hcz70_2
            try clear hcz70_3
            try clear hcz7_0
            try clear hcz7_1
            try clear hcz7_2
            try clear hcz7_3
            try clear hfz15_0
            try clear hfz15_1
            try clear hfz15_2
            try clear hfz15_3
            try clear hfz17_0
            try clear hfz17_1
            try clear hfz17_2
            try clear hfz17_3
            try clear hfz22_0
            try clear hfz22_1
            try clear hfz22_2
            try clear hfz22_3
            try clear hfz26_0
            try clear hfz26_1
            try clear hfz26_2
            try clear hfz26_3
            try clear hfz48_0
            try clear hfz48_1
            try clear hfz48_2
            try clear hfz48_3
            try clear hfz70_0
            try clear hfz70_1
            try clear hfz70_2
            try clear hfz70_3
            try clear hfz7_0
            try clear hfz7_1
            try clear hfz7_2
            try clear hfz7_3
            try clear p2
            obtain ⟨kq, x97_65, rfl, HA, HJ65, HO_11, HO_314002, HO_314003, BK291, BK313, HB⟩ := hcut
            have hl11_65 := (Kd.R_reads' HO_11.out).1
            rw [hl11_65] at HO_11
            (try simp only [hl11_65])
            (try simp only [hl11_65] at BK291)
            (try simp only [hl11_65] at BK313)
            (try simp only [hl11_65] at HO_314002)
            (try simp only [hl11_65] at HO_314003)
            cases kq with
            | zero => exact absurd HA.out (by simp [laws_FnExactNumberedMelody.j2])
            | succ kj65 =>
             have H := HA.out
             clear HA
             simp only [laws_FnExactNumberedMelody.j2] at H
             by_cases c81 : x97_65 = true
             ·subst c81
              have H1 : (some false) = some r := by rw [if_pos rfl] at H; exact H
              clear H
              have H := H1
              clear H1
              obtain rfl := Option.some.inj H
              go_wp2
              go_ret
              exact ⟨by first | rfl | (simp [errW_none, errW_some] <;> rfl) | (simp [*, errW_none, errW_some] <;> rfl), by repeat (first | (with_reducible first | exact HB.out | apply bA | apply bN | apply bD | refine bS ?_ GE291.out | refine bS ?_ GE313.out) | exact HB.out)⟩
             ·replace c81 := Bool.eq_false_iff.mpr c81
              subst c81
              have H1 : ((laws_heldInt64S.f kj65 t333 1).bind fun t348 => (if t348 < 0 then (some false) else (if t348 = t332 then (some true) else (some false)))) = some r := by rw [if_neg (show ¬ (false = true) by decide)] at H; exact H
              clear H
              have H := H1
              clear H1
              replace H := Option.bind_eq_some_iff.mp H
              obtain ⟨t348, A820, H⟩ := H
              replace H : (if t348 < 0 then (some false) else (if t348 = t332 then (some true) else (some false))) = some r := H
              have A82 := Aside0.mk A820
              clear A820
              by_cases c83 : t348 < 0
              ·rw [if_pos c83] at H
               have c83b0 : decide (t348 < 0) = true := decide_eq_true c83
               clear c83
               obtain rfl := Option.some.inj H
               go_wp2_with (first | ((with_reducible refine gC (f := 32) rfl ?_); refine goesL_ (some 100) rfl rfl Try.func32 (by kernel_rfl) rfl #[.slice Ao67 t333.length co67, .int .i64 1] rfl lQ ?_; (with_reducible refine (laws_heldInt64S.calls kj65 _ _ t333 1 t348 _ ?side1 ?side2 A82.out).mono ?_); (case side1 => repeat (first | exact (Kd.R_reads' HO_11.out).2.2 | (with_reducible refine cA ?_ _) | (with_reducible refine cN ?_ _) | (with_reducible refine cD ?_))); (case side2 => exact (Kd.R_reads' HO_11.out).2.1); rintro e w' ⟨rfl, ⟨nd, rfl⟩⟩; refine ⟨_, rfl, ?_⟩))
               go_ret
               exact ⟨by first | rfl | (simp [errW_none, errW_some] <;> rfl) | (simp [*, errW_none, errW_some] <;> rfl), by repeat (first | (with_reducible first | exact HB.out | apply bA | apply bN | apply bD | refine bS ?_ GE291.out | refine bS ?_ GE313.out) | exact HB.out)⟩
              ·rw [if_neg c83] at H
               have c83b0 : decide (t348 < 0) = false := decide_eq_false c83
               clear c83
               by_cases c84 : t348 = t332
               ·rw [if_pos c84] at H
                have c84b0 : (t348 == t332) = true := beq_iff_eq.mpr c84
                have c84b1 : (t348 != t332) = false := bne_eq_false_iff_eq.mpr c84
                clear c84
                obtain rfl := Option.some.inj H
                go_wp2_with (first | ((with_reducible refine gC (f := 32) rfl ?_); refine goesL_ (some 100) rfl rfl Try.func32 (by kernel_rfl) rfl #[.slice Ao67 t333.length co67, .int .i64 1] rfl lQ ?_; (with_reducible refine (laws_heldInt64S.calls kj65 _ _ t333 1 t348 _ ?side1 ?side2 A82.out).mono ?_); (case side1 => repeat (first | exact (Kd.R_reads' HO_11.out).2.2 | (with_reducible refine cA ?_ _) | (with_reducible refine cN ?_ _) | (with_reducible refine cD ?_))); (case side2 => exact (Kd.R_reads' HO_11.out).2.1); rintro e w' ⟨rfl, ⟨nd, rfl⟩⟩; refine ⟨_, rfl, ?_⟩))
                go_ret
                exact ⟨by first | rfl | (simp [errW_none, errW_some] <;> rfl) | (simp [*, errW_none, errW_some] <;> rfl), by repeat (first | (with_reducible first | exact HB.out | apply bA | apply bN | apply bD | refine bS ?_ GE291.out | refine bS ?_ GE313.out) | exact HB.out)⟩
               ·rw [if_neg c84] at H
                have c84b0 : (t348 == t332) = false := beq_eq_false_iff_ne.mpr c84
                have c84b1 : (t348 != t332) = true := bne_iff_ne.mpr c84
                obtain rfl := Option.some.inj H
                go_wp2_with (first | ((with_reducible refine gC (f := 32) rfl ?_); refine goesL_ (some 100) rfl rfl Try.func32 (by kernel_rfl) rfl #[.slice Ao67 t333.length co67, .int .i64 1] rfl lQ ?_; (with_reducible refine (laws_heldInt64S.calls kj65 _ _ t333 1 t348 _ ?side1 ?side2 A82.out).mono ?_); (case side1 => repeat (first | exact (Kd.R_reads' HO_11.out).2.2 | (with_reducible refine cA ?_ _) | (with_reducible refine cN ?_ _) | (with_reducible refine cD ?_))); (case side2 => exact (Kd.R_reads' HO_11.out).2.1); rintro e w' ⟨rfl, ⟨nd, rfl⟩⟩; refine ⟨_, rfl, ?_⟩))
                go_ret
                exact ⟨by first | rfl | (simp [errW_none, errW_some] <;> rfl) | (simp [*, errW_none, errW_some] <;> rfl), by repeat (first | (with_reducible first | exact HB.out | apply bA | apply bN | apply bD | refine bS ?_ GE291.out | refine bS ?_ GE313.out) | exact HB.out)⟩
          ·rw [if_neg c63] at H
           have c63b0 : (t334 == t332) = false := beq_eq_false_iff_ne.mpr c63
           have c63b1 : (t334 != t332) = true := bne_iff_ne.mpr c63
           obtain rfl := Option.some.inj H
           obtain ⟨Ao85, co85, eo85⟩ := Kd.R_slice HO_11.out
           subst eo85
           go_wp2_with (first | ((with_reducible refine gC (f := 31) rfl ?_); refine goesL_ (some 72) rfl rfl Try.func31 (by kernel_rfl) rfl #[.slice Ao85 t314.length co85, .int .i64 1] rfl lQ ?_; (with_reducible refine (laws_markInt64S.calls kj40 (fun k_ => some k_ = (.slice Ao85 t314.length co85 : Value).ownBlock) (.slice Ao85 t314.length co85) t314 1 t332 t333 w _ ?side1 ?side2 A58.out).mono ?_); (case side1 => repeat (first | (with_reducible first | exact HB.out | apply bA | apply bN | apply bD | refine bS ?_ GE291.out | refine bS ?_ GE313.out) | exact HB.out)); (case side2 => exact Kd.R_tight rfl HO_11.out); rintro e w86 ⟨rfl, hy0, hb, hkp⟩; refine ⟨_, rfl, ?_⟩; have n0_ := Aside0.mk (rM (ok' := fun k_ => some k_ ≠ (.slice Ao85 t314.length co85 : Value).ownBlock ∧ some k_ ≠ (.slice Ao27 t329.length co27 : Value).ownBlock) (Kd.R_keptB (HO_8.out) hkp (fun k_ hk_ hs_ => (hk_.1) hs_)) (fun k_ hk_ => ⟨hk_.1.1, hk_.1.2⟩)); have n1_ := Aside0.mk (Kd.R_reok rfl hy0 (fun k_ e_ => HO_11.out.1 k_ e_)); have n2_ := Aside0.mk (rM (ok' := fun k_ => some k_ ≠ (v302 : Value).ownBlock ∧ some k_ ≠ (.slice Ao85 t314.length co85 : Value).ownBlock) (Kd.R_keptB (HO_314002.out) hkp (fun k_ hk_ hs_ => (hk_.2) hs_)) (fun k_ hk_ => ⟨hk_.1.1, hk_.1.2⟩)); have n3_ := Aside0.mk (rM (ok' := fun k_ => True) (Kd.R_keptB ((Kd.R_apart' HO_314003.out (Kd.R_typed HO_11.out) (by decide))) hkp (fun k_ hk_ hs_ => (hk_.2) hs_)) (fun k_ hk_ => trivial)); have n4_ := Aside0.mk (blk_kept (kQ BK291) hkp (fun hs_ => (fun e_ => (Kd.R_ne HO_11.out BK291.out (by decide)) e_) hs_)); have n5_ := Aside0.mk (blk_kept (kQ BK313) hkp (fun hs_ => (fun e_ => (Kd.R_ne HO_11.out BK313.out (by decide)) e_) hs_)); have n6_ := Aside0.mk (hb); clear HO_8; clear HO_11; clear HO_314002; clear HO_314003; clear BK291; clear BK313; clear HB; have HO_8 := n0_; have HO_11 := n1_; have HO_314002 := n2_; have HO_314003 := n3_; have BK291 := n4_; have BK313 := n5_; have HB := n6_; clear n0_ n1_ n2_ n3_ n4_ n5_ n6_; (try clear hb); (try clear hkp); (try clear hy0)) | ((with_reducible refine gC (f := 32) rfl ?_); refine goesL_ (some 75) rfl rfl Try.func32 (by kernel_rfl) rfl #[.slice Ao85 t333.length co85, .int .i64 1] rfl (by (try simp only [List.map_toArray, List.map_cons, List.map_nil]); first | done | (rw [show t333.length = t314.length from (Kd.R_reads' HO_11.out).1.symm] <;> rfl) | rfl | (simp only [List.length_drop, List.length_take]; rfl)) ?_; (with_reducible refine (laws_heldInt64S.calls kj40 _ _ t333 1 t334 _ ?side1 ?side2 A59.out).mono ?_); (case side1 => repeat (first | exact (Kd.R_reads' HO_11.out).2.2 | (with_reducible refine cA ?_ _) | (with_reducible refine cN ?_ _) | (with_reducible refine cD ?_))); (case side2 => rw [show t333.length = t314.length from (Kd.R_reads' HO_11.out).1.symm]; exact (Kd.R_reads' HO_11.out).2.1); rintro e w' ⟨rfl, ⟨nd, rfl⟩⟩; refine ⟨_, rfl, ?_⟩))
           go_ret
           exact ⟨by first | rfl | (simp [errW_none, errW_some] <;> rfl) | (simp [*, errW_none, errW_some] <;> rfl), by repeat (first | (with_reducible first | exact HB.out | apply bA | apply bN | apply bD | refine bS ?_ GE291.out | refine bS ?_ GE313.out) | exact HB.out)⟩
     ·replace c39 := Bool.eq_false_iff.mpr c39
      subst c39
      have H1 : (some false) = some r := by rw [if_neg (show ¬ (false = true) by decide)] at H; exact H
      clear H
      have H := H1
      clear H1
      obtain rfl := Option.some.inj H
      try go_wp2
      have n0_ := Aside0.mk (rD HO_8.out)
      have n1_ := Aside0.mk (rD HO_11.out)
      have n2_ := Aside0.mk (rD HO_314002.out)
      have n3_ := Aside0.mk (rD HO_314003.out)
      have n4_ := Aside0.mk (kD BK291.out)
      have n5_ := Aside0.mk (kD BK313.out)
      have n6_ := Aside0.mk (bD HB.out)
      clear HO_8
      clear HO_11
      clear HO_314002
      clear HO_314003
      clear BK291
      clear BK313
      clear HB
      have HO_8 := n0_
      have HO_11 := n1_
      have HO_314002 := n2_
      have HO_314003 := n3_
      have BK291 := n4_
      have BK313 := n5_
      have HB := n6_
      clear n0_ n1_ n2_ n3_ n4_ n5_ n6_
      refine start_ (n := 5) (S := fun w' => w'.cell? ⟨gb313, 0, none⟩ = some (.int .i64 t305) ∧ w'.cell? ⟨gb313, 1, none⟩ = some (.int .i64 t306) ∧ w'.cell? ⟨gb313, 2, none⟩ = some (.slice Ao27 t307.length co27) ∧ w'.cell? ⟨gb313, 3, none⟩ = some (.slice Ao28 t310.length co28) ∧ w'.cell? ⟨gb291, 0, none⟩ = some (.int .i64 a0_0) ∧ w'.cell? ⟨gb291, 1, none⟩ = some (.int .i64 a0_1) ∧ w'.cell? ⟨gb291, 2, none⟩ = some (.slice A0_2 l0_2.length c0_2) ∧ w'.cell? ⟨gb291, 3, none⟩ = some (.slice A0_3 l0_3.length c0_3)) (ds := []) #[F,F,F,F,F] (by kernel_rfl) rfl rfl ⟨(kC BK313.out 0).trans rfl, (kC BK313.out 1).trans rfl, (kC BK313.out 2).trans rfl, (kC BK313.out 3).trans rfl, (kC BK291.out 0).trans rfl, (kC BK291.out 1).trans rfl, (kC BK291.out 2).trans rfl, (kC BK291.out 3).trans rfl⟩ (fun hHeld => ?_)
      generalize wc.drew = w87 at HO_8 HO_11 HO_314002 HO_314003 BK291 BK313 HB hHeld ⊢
      refine take_ (i := 0) (N := some 49) (v := ?_) (a' := ?_) #[T,F,F,F,F] rfl rfl (by kernel_rfl) (fun _ _ _ h => h) (Or.inl ⟨by rfl, ?_⟩) hHeld ?_ ?_; rotate_left; (·rintro w' ⟨s0, s1, s2, s3, s4, s5, s6, s7⟩; go_simp; with_reducible rfl); rotate_left; (·simp only [Act.put, sI, sZ, sS, iW, jW]; rfl)
      refine take_ (i := 1) (N := some 50) (v := ?_) (a' := ?_) #[T,T,F,F,F] rfl rfl (by kernel_rfl) (fun _ _ _ h => h) (Or.inl ⟨by rfl, ?_⟩) hHeld ?_ ?_; rotate_left; (·rintro w' ⟨s0, s1, s2, s3, s4, s5, s6, s7⟩; go_simp; with_reducible rfl); rotate_left; (·simp only [Act.put, sI, sZ, sS, iW, jW]; rfl)
      refine one_ (i := 2) (N := some 51) #[T,T,T,F,F] rfl rfl (by kernel_rfl) (by decide) (fun K hK => ?_)
      refine goes_ Try.func17 (by kernel_rfl) rfl #[.agg #[.int .i64 a0_0, .int .i64 a0_1, .slice A0_2 l0_2.length c0_2, .slice A0_3 l0_3.length c0_3]] (by rfl) rfl rfl lQ ?_
      with_reducible refine (laws_toGrammar.calls kj12 a0_0 a0_1 _ _ l0_2 _ _ l0_3 t319 t320 t321 t324 _ ?side1 ?side2 ?side3 ?side4 A37.out).mono ?_
      (case side1 => repeat (first | exact (cB HR0_2.out HB.out) | (with_reducible refine cA ?_ _) | (with_reducible refine cN ?_ _) | (with_reducible refine cD ?_)))
      (case side2 => exact HC0_2.out)
      (case side3 => repeat (first | exact (cB HR0_3.out HB.out) | (with_reducible refine cA ?_ _) | (with_reducible refine cN ?_ _) | (with_reducible refine cD ?_)))
      (case side4 => exact HC0_3.out)
      rintro e w88 ⟨v322, v325, rfl, ho0, ho1, hb⟩
      refine ⟨_, rfl, ?_⟩
      have z_ := bX hb (by repeat (first | (with_reducible first | exact HB.out | apply bA | apply bN | apply bD | refine bS ?_ GE291.out | refine bS ?_ GE313.out) | exact HB.out))
      have n0_ := Aside0.mk (rE (rQ HO_8) (Kd.R_base ho0) hb)
      have n1_ := Aside0.mk (rE (rQ HO_11) (Kd.R_base ho0) hb)
      have n2_ := Aside0.mk (rE (rQ HO_314002) (Kd.R_base ho0) hb)
      have n3_ := Aside0.mk (rE (rQ HO_314003) (Kd.R_base ho1) hb)
      have n4_ := Aside0.mk (rL (rW (rW (rW ho0 (rT (rQ HO_8))) (rT (rQ HO_11))) (rT (rQ HO_314002))) (bZ z_))
      have n5_ := Aside0.mk (rL (rW ho1 (rT (rQ HO_314003))) (bZ z_))
      have n6_ := Aside0.mk (kB (kQ BK291) hb)
      have n7_ := Aside0.mk (kB (kQ BK313) hb)
      have n8_ := Aside0.mk (bP z_ hb)
      clear HO_8
      clear HO_11
      clear HO_314002
      clear HO_314003
      clear BK291
      clear BK313
      clear HB
      have HO_8 := n0_
      have HO_11 := n1_
      have HO_314002 := n2_
      have HO_314003 := n3_
      have HO323 := n4_
      have HO326 := n5_
      have BK291 := n6_
      have BK313 := n7_
      have HB := n8_
      clear z_ n0_ n1_ n2_ n3_ n4_ n5_ n6_ n7_ n8_
      (try clear hb)
      (try clear hb2)
      (try clear hk)
      (try clear hi)
      (try clear ho0)
      (try clear ho1)
      obtain ⟨Ao89, co89, eo89⟩ := Kd.R_slice HO323.out
      (first | subst eo89 | (injection eo89 with f1_ f2_ f3_; have f4_ := f1_.symm; have f5_ := f3_.symm; clear f1_ f2_ f3_; subst f4_; subst f5_))
      obtain ⟨Ao90, co90, eo90⟩ := Kd.R_slice HO326.out
      (first | subst eo90 | (injection eo90 with f1_ f2_ f3_; have f4_ := f1_.symm; have f5_ := f3_.symm; clear f1_ f2_ f3_; subst f4_; subst f5_))
      refine hK.out _ _ ⟨(kC BK313.out 0).trans rfl, (kC BK313.out 1).trans rfl, (kC BK313.out 2).trans rfl, (kC BK313.out 3).trans rfl, (kC BK291.out 0).trans rfl, (kC BK291.out 1).trans rfl, (kC BK291.out 2).trans rfl, (kC BK291.out 3).trans rfl⟩ (fun hHeld => ?_)
      clear hK K
      refine norm_ (a' := ?_) ?_ ?_
      rotate_left
      ·show Act.put _ (some 51) _ = _
       simp only [Act.put, sI, sZ, sS, iW, jW]
       rfl
      refine one_ (i := 3) (N := some 52) #[T,T,T,T,F] rfl rfl (by kernel_rfl) (by decide) (fun K hK => ?_)
      refine goes_ Try.func19 (by kernel_rfl) rfl #[.agg #[.int .i64 t305, .int .i64 t306, .slice Ao27 t307.length co27, .slice Ao28 t310.length co28], .agg #[.int .i64 t319, .int .i64 t320, .slice Ao89 t321.length co89, .slice Ao90 t324.length co90]] (by rfl) rfl rfl lQ ?_
      with_reducible refine (laws_eqGrammar.calls kj12 t305 t306 _ _ t307 _ _ t310 t319 t320 _ _ t321 _ _ t324 false _ ?side1 ?side2 ?side3 ?side4 ?side5 ?side6 ?side7 ?side8 A38.out).mono ?_
      (case side1 => repeat (first | exact (Kd.R_reads' HO_314002.out).2.2 | (with_reducible refine cA ?_ _) | (with_reducible refine cN ?_ _) | (with_reducible refine cD ?_)))
      (case side2 => exact (Kd.R_reads' HO_314002.out).2.1)
      (case side3 => repeat (first | exact (Kd.R_reads' HO_314003.out).2.2 | (with_reducible refine cA ?_ _) | (with_reducible refine cN ?_ _) | (with_reducible refine cD ?_)))
      (case side4 => exact (Kd.R_reads' HO_314003.out).2.1)
      (case side5 => repeat (first | exact (Kd.R_reads' HO323.out).2.2 | (with_reducible refine cA ?_ _) | (with_reducible refine cN ?_ _) | (with_reducible refine cD ?_)))
      (case side6 => exact (Kd.R_reads' HO323.out).2.1)
      (case side7 => repeat (first | exact (Kd.R_reads' HO326.out).2.2 | (with_reducible refine cA ?_ _) | (with_reducible refine cN ?_ _) | (with_reducible refine cD ?_)))
      (case side8 => exact (Kd.R_reads' HO326.out).2.1)
      rintro e w91 ⟨rfl, hb⟩
      refine ⟨_, rfl, ?_⟩
      have n0_ := Aside0.mk (rB (rQ HO_8) hb)
      have n1_ := Aside0.mk (rB (rQ HO_11) hb)
      have n2_ := Aside0.mk (rB (rQ HO_314002) hb)
      have n3_ := Aside0.mk (rB (rQ HO_314003) hb)
      have n4_ := Aside0.mk (rB (rQ HO323) hb)
      have n5_ := Aside0.mk (rB (rQ HO326) hb)
      have n6_ := Aside0.mk (kB (kQ BK291) hb)
      have n7_ := Aside0.mk (kB (kQ BK313) hb)
      have n8_ := Aside0.mk (bP (by repeat (first | (with_reducible first | exact HB.out | apply bA | apply bN | apply bD | refine bS ?_ GE291.out | refine bS ?_ GE313.out) | exact HB.out)) hb)
      clear HO_8
      clear HO_11
      clear HO_314002
      clear HO_314003
      clear HO323
      clear HO326
      clear BK291
      clear BK313
      clear HB
      have HO_8 := n0_
      have HO_11 := n1_
      have HO_314002 := n2_
      have HO_314003 := n3_
      have HO323 := n4_
      have HO326 := n5_
      have BK291 := n6_
      have BK313 := n7_
      have HB := n8_
      clear n0_ n1_ n2_ n3_ n4_ n5_ n6_ n7_ n8_
      (try clear hb)
      (try clear hb2)
      (try clear hk)
      (try clear hi)
      refine hK.out _ _ ⟨(kC BK313.out 0).trans rfl, (kC BK313.out 1).trans rfl, (kC BK313.out 2).trans rfl, (kC BK313.out 3).trans rfl, (kC BK291.out 0).trans rfl, (kC BK291.out 1).trans rfl, (kC BK291.out 2).trans rfl, (kC BK291.out 3).trans rfl⟩ (fun hHeld => ?_)
      clear hK K
      refine norm_ (a' := ?_) ?_ ?_
      rotate_left
      ·show Act.put _ (some 52) _ = _
       simp only [Act.put, sI, sZ, sS, iW, jW]
       rfl
      refine pure_ (i := 4) (N := some 53) (v := ?_) (a' := ?_) #[T,T,T,T,T] rfl rfl (by kernel_rfl) (fun _ _ _ h => h) (Or.inl ⟨by rfl, ?_⟩) ?_ ?_; rotate_left; (·intro w'; go_simp; with_reducible rfl); rotate_left; (·simp only [Act.put, sI, sZ, sS, iW, jW]; rfl)
      refine done_ (by kernel_rfl) ?_
      try go_wp2
      go_ret
      exact ⟨by first | rfl | (simp [errW_none, errW_some] <;> rfl) | (simp [*, errW_none, errW_some] <;> rfl), by repeat (first | (with_reducible first | exact HB.out | apply bA | apply bN | apply bD | refine bS ?_ GE291.out | refine bS ?_ GE313.out) | exact HB.out)⟩

/-- THE ONE PURE STATEMENT of laws_FnExactNumberedMelody. -/
def laws_FnExactNumberedMelody.Pure : Prop := ∀ (a0_0 : Int) (a0_1 : Int) (l0_2 : List Int) (l0_3 : List (S108)) (a1 : Int) (a2 : Int), (Lit.int .i64 a0_0).wf = true → (Lit.int .i64 a0_1).wf = true → (l0_2.length ≤ maxLen ∧ ∀ x ∈ l0_2, (Lit.int .i64 x).wf = true) → (l0_3.length ≤ maxLen ∧ ∀ x ∈ l0_3, (Lit.int .i64 x.f0).wf = true ∧ (Lit.int .i64 x.f1).wf = true ∧ (Lit.int .i64 x.f2).wf = true) → (Lit.int .i64 a1).wf = true → (Lit.int .i64 a2).wf = true → ∃ k, laws_FnExactNumberedMelody.f k a0_0 a0_1 l0_2 l0_3 a1 a2 = some true

end Go.Proofs.Ytijbhcalknfijaa.M5
-- shrunk
-- tight
-- tight2
