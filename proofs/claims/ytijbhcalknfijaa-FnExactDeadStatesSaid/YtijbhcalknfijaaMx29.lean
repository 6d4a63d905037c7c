/- What functions of the given program compute, as plain Lean functions, and that the code comes to just that; by a program of this session over the kit's print. No condition. -/
import Derived.Test.YtijbhcalknfijaaMx0
import Derived.Test.YtijbhcalknfijaaMx2
import Derived.Test.YtijbhcalknfijaaMx3
import Derived.Test.YtijbhcalknfijaaMx4
import Derived.Test.YtijbhcalknfijaaMx6
import Derived.Test.YtijbhcalknfijaaMx20
import Derived.Test.YtijbhcalknfijaaMx21
import Derived.Test.YtijbhcalknfijaaMx26
import Derived.Test.YtijbhcalknfijaaMx28
namespace Go.Proofs.Ytijbhcalknfijaa.M
open Go.RowKit Go.Proofs.YtijbhcalknfijaaW.PrintWords Go.Proofs.YtijbhcalknfijaaW.PrintLast
open Go.Proofs.YtijbhcalknfijaaW.PrintWords renaming below_alloc → bA, pw_below_drewN → bN, below_drew1 → bD, below_set → bS, blk_drewN → kN, blk_drew → kD, blk_alloc → kA, blk_below → kB, below_size → bZ, below_step → bP, blk_far → kF, blk_lt → kL, gate_callee → gC, box_event → bE, blk_cell → kC
open Go.Proofs.YtijbhcalknfijaaW.PrintLast renaming i64_w → iW, i32_w → jW
open Go.Proofs.YtijbhcalknfijaaW.PrintWords.Kd renaming R_alloc → rA, R_drewN → rN, R_drew → rD, C_alloc → cA, C_drewN → cN, C_drew → cD, C_below → cB, R_lower → rL, R_below → rB, R_elder' → rE, R_new' → rW, R_lt → rT, R_mono → rM
open List renaming setIfInBounds_toArray → sI, set_cons_zero → sZ, set_cons_succ → sS
open Bool renaming true → T, false → F
set_option linter.unusedVariables false
set_option linter.unusedSimpArgs false

/-! ### laws_FnExactDeadStates: function 7 -/
mutual
def laws_FnExactDeadStates.j0 : Nat → List Int → Int → List Int → Int → Bool → Int → Int → List Int → List (S108) → Int → Int → List Int → List (S67) → Option (Bool)
 | 0, _, _, _, _, _, _, _, _, _, _, _, _, _ => none
 | k + 1, x4, x5, x7, x8, x40, x450000, x450001, x450002, x450003, x472000, x472001, x472002, x472003 => if x40 = true then (some false) else ((laws_toGrammar.f k x450000 x450001 x450002 x450003).bind fun bt477 => ((laws_eqGrammar.f k x472000 x472001 x472002 x472003 bt477.1 bt477.2.1 bt477.2.2.1 bt477.2.2.2).bind fun t485 => (if t485 = true then ((laws_markGrammar.f k x472000 x472001 x472002 x472003 1).bind fun bt486 => (if bt486.1 < 0 then (laws_FnExactDeadStates.j1 k x4 x5 x7 true x450000 x450001 x450002 x450003) else ((laws_eqInt64S.f k x7 x4).bind fun t489 => (if t489 = true then (laws_FnExactDeadStates.j1 k x4 x5 x7 (x8 != x5) x450000 x450001 x450002 x450003) else (laws_FnExactDeadStates.j1 k x4 x5 x7 true x450000 x450001 x450002 x450003))))) else (some false))))
def laws_FnExactDeadStates.j1 : Nat → List Int → Int → List Int → Bool → Int → Int → List Int → List (S108) → Option (Bool)
 | 0, _, _, _, _, _, _, _, _ => none
 | k + 1, x4, x5, x7, x61, x450000, x450001, x450002, x450003 => if x61 = true then (some false) else ((laws_markInt64S.f k x7 1).bind fun bt490 => ((laws_heldInt64S.f k bt490.2 1).bind fun t492 => (if t492 < 0 then (some false) else (if t492 = bt490.1 then ((laws_toGrammar.f k x450000 x450001 x450002 x450003).bind fun bt493 => ((impl_DeadStates.f k bt493.1 bt493.2.1 bt493.2.2.1 bt493.2.2.2).bind fun bt501 => ((laws_eqInt64S.f k bt501.1 x4).bind fun t505 => (if t505 = true then (laws_FnExactDeadStates.j2 k bt490.2 bt490.1 (bt501.2 != x5)) else (laws_FnExactDeadStates.j2 k bt490.2 bt490.1 true))))) else (some false)))))
def laws_FnExactDeadStates.j2 : Nat → List Int → Int → Bool → Option (Bool)
 | 0, _, _, _ => none
 | k + 1, x7, x10, x87 => if x87 = true then (some false) else ((laws_heldInt64S.f k x7 1).bind fun t506 => (if t506 < 0 then (some false) else (if t506 = x10 then (some true) else (some false))))
end
def laws_FnExactDeadStates.f (k : Nat) (a0_0 : Int) (a0_1 : Int) (l0_2 : List Int) (l0_3 : List (S108)) : Option (Bool) := (laws_szGrammar.f a0_0 a0_1 l0_2 l0_3 1048576).bind fun t450 => (if t450 < 0 then (some true) else ((laws_toGrammar.f k a0_0 a0_1 l0_2 l0_3).bind fun bt451 => ((spec_DeadStates.f k bt451.1 bt451.2.1 bt451.2.2.1 bt451.2.2.2).bind fun bt459 => ((laws_toGrammar.f k a0_0 a0_1 l0_2 l0_3).bind fun bt463 => ((impl_DeadStates.f k bt463.1 bt463.2.1 bt463.2.2.1 bt463.2.2.2).bind fun bt472 => ((laws_eqInt64S.f k bt472.1 bt459.1).bind fun t476 => (if t476 = true then (laws_FnExactDeadStates.j0 k bt459.1 bt459.2 bt472.1 bt472.2 (bt472.2 != bt459.2) a0_0 a0_1 l0_2 l0_3 bt463.1 bt463.2.1 bt463.2.2.1 bt463.2.2.2) else (laws_FnExactDeadStates.j0 k bt459.1 bt459.2 bt472.1 bt472.2 true a0_0 a0_1 l0_2 l0_3 bt463.1 bt463.2.1 bt463.2.2.1 bt463.2.2.2))))))))
theorem laws_FnExactDeadStates.mono_l : ∀ k, (∀ y0 y1 y2 y3 y4 y5 y6 y7 y8 y9 y10 y11 y12, LeO (laws_FnExactDeadStates.j0 k y0 y1 y2 y3 y4 y5 y6 y7 y8 y9 y10 y11 y12) (laws_FnExactDeadStates.j0 (k + 1) y0 y1 y2 y3 y4 y5 y6 y7 y8 y9 y10 y11 y12)) ∧ (∀ y0 y1 y2 y3 y4 y5 y6 y7, LeO (laws_FnExactDeadStates.j1 k y0 y1 y2 y3 y4 y5 y6 y7) (laws_FnExactDeadStates.j1 (k + 1) y0 y1 y2 y3 y4 y5 y6 y7)) ∧ (∀ y0 y1 y2, LeO (laws_FnExactDeadStates.j2 k y0 y1 y2) (laws_FnExactDeadStates.j2 (k + 1) y0 y1 y2))
 | 0 => ⟨fun _ _ _ _ _ _ _ _ _ _ _ _ _ r h => by simp [laws_FnExactDeadStates.j0] at h, fun _ _ _ _ _ _ _ _ r h => by simp [laws_FnExactDeadStates.j1] at h, fun _ _ _ r h => by simp [laws_FnExactDeadStates.j2] at h⟩
 | k + 1 => by
  obtain ⟨ih0, ih1, ih2⟩ := laws_FnExactDeadStates.mono_l k
  refine ⟨?_, ?_, ?_⟩
  ·intro y0 y1 y2 y3 y4 y5 y6 y7 y8 y9 y10 y11 y12
   unfold laws_FnExactDeadStates.j0
   repeat' first
   | (with_reducible exact ih0 _ _ _ _ _ _ _ _ _ _ _ _ _)
   | (with_reducible exact ih1 _ _ _ _ _ _ _ _)
   | (with_reducible exact ih2 _ _ _)
   | (with_reducible exact impl_DeadStates.mono _ _ _ _ _)
   | (with_reducible exact laws_eqGrammar.mono _ _ _ _ _ _ _ _ _)
   | (with_reducible exact laws_eqInt64S.mono _ _ _)
   | (with_reducible exact laws_heldInt64S.mono _ _ _)
   | (with_reducible exact laws_markGrammar.mono _ _ _ _ _ _)
   | (with_reducible exact laws_markInt64S.mono _ _ _)
   | (with_reducible exact laws_toGrammar.mono _ _ _ _ _)
   | (with_reducible exact spec_DeadStates.mono _ _ _ _ _)
   | (with_reducible exact LeO.refl _)
   | (with_reducible exact LeO.none _)
   | (with_reducible refine LeO.ite ?_ ?_)
   | (with_reducible refine LeO.bind ?_ (fun _ => ?_))
   | exact ih0 _ _ _ _ _ _ _ _ _ _ _ _ _
   | exact ih1 _ _ _ _ _ _ _ _
   | exact ih2 _ _ _
   | exact impl_DeadStates.mono _ _ _ _ _
   | exact laws_eqGrammar.mono _ _ _ _ _ _ _ _ _
   | exact laws_eqInt64S.mono _ _ _
   | exact laws_heldInt64S.mono _ _ _
   | exact laws_markGrammar.mono _ _ _ _ _ _
   | exact laws_markInt64S.mono _ _ _
   | exact laws_toGrammar.mono _ _ _ _ _
   | exact spec_DeadStates.mono _ _ _ _ _
   | exact LeO.none _
   | refine LeO.ite ?_ ?_
   | refine LeO.bind ?_ (fun _ => ?_)
  ·intro y0 y1 y2 y3 y4 y5 y6 y7
   unfold laws_FnExactDeadStates.j1
   repeat' first
   | (with_reducible exact ih0 _ _ _ _ _ _ _ _ _ _ _ _ _)
   | (with_reducible exact ih1 _ _ _ _ _ _ _ _)
   | (with_reducible exact ih2 _ _ _)
   | (with_reducible exact impl_DeadStates.mono _ _ _ _ _)
   | (with_reducible exact laws_eqGrammar.mono _ _ _ _ _ _ _ _ _)
   | (with_reducible exact laws_eqInt64S.mono _ _ _)
   | (with_reducible exact laws_heldInt64S.mono _ _ _)
   | (with_reducible exact laws_markGrammar.mono _ _ _ _ _ _)
   | (with_reducible exact laws_markInt64S.mono _ _ _)
   | (with_reducible exact laws_toGrammar.mono _ _ _ _ _)
   | (with_reducible exact spec_DeadStates.mono _ _ _ _ _)
   | (with_reducible exact LeO.refl _)
   | (with_reducible exact LeO.none _)
   | (with_reducible refine LeO.ite ?_ ?_)
   | (with_reducible refine LeO.bind ?_ (fun _ => ?_))
   | exact ih0 _ _ _ _ _ _ _ _ _ _ _ _ _
   | exact ih1 _ _ _ _ _ _ _ _
   | exact ih2 _ _ _
   | exact impl_DeadStates.mono _ _ _ _ _
   | exact laws_eqGrammar.mono _ _ _ _ _ _ _ _ _
   | exact laws_eqInt64S.mono _ _ _
   | exact laws_heldInt64S.mono _ _ _
   | exact laws_markGrammar.mono _ _ _ _ _ _
   | exact laws_markInt64S.mono _ _ _
   | exact laws_toGrammar.mono _ _ _ _ _
   | exact spec_DeadStates.mono _ _ _ _ _
   | exact LeO.none _
   | refine LeO.ite ?_ ?_
   | refine LeO.bind ?_ (fun _ => ?_)
  ·intro y0 y1 y2
   unfold laws_FnExactDeadStates.j2
   repeat' first
   | (with_reducible exact ih0 _ _ _ _ _ _ _ _ _ _ _ _ _)
   | (with_reducible exact ih1 _ _ _ _ _ _ _ _)
   | (with_reducible exact ih2 _ _ _)
   | (with_reducible exact impl_DeadStates.mono _ _ _ _ _)
   | (with_reducible exact laws_eqGrammar.mono _ _ _ _ _ _ _ _ _)
   | (with_reducible exact laws_eqInt64S.mono _ _ _)
   | (with_reducible exact laws_heldInt64S.mono _ _ _)
   | (with_reducible exact laws_markGrammar.mono _ _ _ _ _ _)
   | (with_reducible exact laws_markInt64S.mono _ _ _)
   | (with_reducible exact laws_toGrammar.mono _ _ _ _ _)
   | (with_reducible exact spec_DeadStates.mono _ _ _ _ _)
   | (with_reducible exact LeO.refl _)
   | (with_reducible exact LeO.none _)
   | (with_reducible refine LeO.ite ?_ ?_)
   | (with_reducible refine LeO.bind ?_ (fun _ => ?_))
   | exact ih0 _ _ _ _ _ _ _ _ _ _ _ _ _
   | exact ih1 _ _ _ _ _ _ _ _
   | exact ih2 _ _ _
   | exact impl_DeadStates.mono _ _ _ _ _
   | exact laws_eqGrammar.mono _ _ _ _ _ _ _ _ _
   | exact laws_eqInt64S.mono _ _ _
   | exact laws_heldInt64S.mono _ _ _
   | exact laws_markGrammar.mono _ _ _ _ _ _
   | exact laws_markInt64S.mono _ _ _
   | exact laws_toGrammar.mono _ _ _ _ _
   | exact spec_DeadStates.mono _ _ _ _ _
   | exact LeO.none _
   | refine LeO.ite ?_ ?_
   | refine LeO.bind ?_ (fun _ => ?_)
theorem laws_FnExactDeadStates.mono : ∀ a0 a1 a2 a3 k, LeO (laws_FnExactDeadStates.f k a0 a1 a2 a3) (laws_FnExactDeadStates.f (k + 1) a0 a1 a2 a3) := by
 intro a0 a1 a2 a3 k
 obtain ⟨ih0, ih1, ih2⟩ := laws_FnExactDeadStates.mono_l k
 unfold laws_FnExactDeadStates.f
 repeat' first
   | (with_reducible exact ih0 _ _ _ _ _ _ _ _ _ _ _ _ _)
   | (with_reducible exact ih1 _ _ _ _ _ _ _ _)
   | (with_reducible exact ih2 _ _ _)
   | (with_reducible exact impl_DeadStates.mono _ _ _ _ _)
   | (with_reducible exact laws_eqGrammar.mono _ _ _ _ _ _ _ _ _)
   | (with_reducible exact laws_eqInt64S.mono _ _ _)
   | (with_reducible exact laws_heldInt64S.mono _ _ _)
   | (with_reducible exact laws_markGrammar.mono _ _ _ _ _ _)
   | (with_reducible exact laws_markInt64S.mono _ _ _)
   | (with_reducible exact laws_toGrammar.mono _ _ _ _ _)
   | (with_reducible exact spec_DeadStates.mono _ _ _ _ _)
   | (with_reducible exact LeO.refl _)
   | (with_reducible exact LeO.none _)
   | (with_reducible refine LeO.ite ?_ ?_)
   | (with_reducible refine LeO.bind ?_ (fun _ => ?_))
   | exact ih0 _ _ _ _ _ _ _ _ _ _ _ _ _
   | exact ih1 _ _ _ _ _ _ _ _
   | exact ih2 _ _ _
   | exact impl_DeadStates.mono _ _ _ _ _
   | exact laws_eqGrammar.mono _ _ _ _ _ _ _ _ _
   | exact laws_eqInt64S.mono _ _ _
   | exact laws_heldInt64S.mono _ _ _
   | exact laws_markGrammar.mono _ _ _ _ _ _
   | exact laws_markInt64S.mono _ _ _
   | exact laws_toGrammar.mono _ _ _ _ _
   | exact spec_DeadStates.mono _ _ _ _ _
   | exact LeO.none _
   | refine LeO.ite ?_ ?_
   | refine LeO.bind ?_ (fun _ => ?_)
set_option maxHeartbeats 8000000 in
set_option maxRecDepth 100000 in
theorem laws_FnExactDeadStates.calls (k : Nat) (a0_0 : Int) (a0_1 : Int) (A0_2 : Option Addr) (c0_2 : Nat) (l0_2 : List Int) (A0_3 : Option Addr) (c0_3 : Nat) (l0_3 : List (S108)) (r : Bool) (w : World) (hr0_2 : Kd.C (Kd.int .i64) w A0_2 l0_2.length l0_2) (hc0_2 : l0_2.length ≤ c0_2) (hr0_3 : Kd.C k108 w A0_3 l0_3.length l0_3) (hc0_3 : l0_3.length ≤ c0_3) (h : laws_FnExactDeadStates.f k a0_0 a0_1 l0_2 l0_3 = some r) :
  Calls Try.prog 7 #[.agg #[.int .i64 a0_0, .int .i64 a0_1, .slice A0_2 l0_2.length c0_2, .slice A0_3 l0_3.length c0_3]] w fun e w' => e = .returned (.bool r) ∧ Below w.heap.size w w' := by
 have hu25 := Try.underlying25
 have hu30 := Try.underlying30
 have HR0_2 := Aside0.mk hr0_2
 have HC0_2 := Aside0.mk hc0_2
 clear hr0_2 hc0_2
 have HR0_3 := Aside0.mk hr0_3
 have HC0_3 := Aside0.mk hc0_3
 clear hr0_3 hc0_3
 have HB := Aside0.mk (Below.refl w.heap.size w)
 have H : ((laws_szGrammar.f a0_0 a0_1 l0_2 l0_3 1048576).bind fun t450 => (if t450 < 0 then (some true) else ((laws_toGrammar.f k a0_0 a0_1 l0_2 l0_3).bind fun bt451 => ((spec_DeadStates.f k bt451.1 bt451.2.1 bt451.2.2.1 bt451.2.2.2).bind fun bt459 => ((laws_toGrammar.f k a0_0 a0_1 l0_2 l0_3).bind fun bt463 => ((impl_DeadStates.f k bt463.1 bt463.2.1 bt463.2.2.1 bt463.2.2.2).bind fun bt472 => ((laws_eqInt64S.f k bt472.1 bt459.1).bind fun t476 => (if t476 = true then (laws_FnExactDeadStates.j0 k bt459.1 bt459.2 bt472.1 bt472.2 (bt472.2 != bt459.2) a0_0 a0_1 l0_2 l0_3 bt463.1 bt463.2.1 bt463.2.2.1 bt463.2.2.2) else (laws_FnExactDeadStates.j0 k bt459.1 bt459.2 bt472.1 bt472.2 true a0_0 a0_1 l0_2 l0_3 bt463.1 bt463.2.1 bt463.2.2.1 bt463.2.2.2))))))))) = some r := h
 clear h
 replace H := Option.bind_eq_some_iff.mp H
 obtain ⟨t450, A20, H⟩ := H
 replace H : (if t450 < 0 then (some true) else ((laws_toGrammar.f k a0_0 a0_1 l0_2 l0_3).bind fun bt451 => ((spec_DeadStates.f k bt451.1 bt451.2.1 bt451.2.2.1 bt451.2.2.2).bind fun bt459 => ((laws_toGrammar.f k a0_0 a0_1 l0_2 l0_3).bind fun bt463 => ((impl_DeadStates.f k bt463.1 bt463.2.1 bt463.2.2.1 bt463.2.2.2).bind fun bt472 => ((laws_eqInt64S.f k bt472.1 bt459.1).bind fun t476 => (if t476 = true then (laws_FnExactDeadStates.j0 k bt459.1 bt459.2 bt472.1 bt472.2 (bt472.2 != bt459.2) a0_0 a0_1 l0_2 l0_3 bt463.1 bt463.2.1 bt463.2.2.1 bt463.2.2.2) else (laws_FnExactDeadStates.j0 k bt459.1 bt459.2 bt472.1 bt472.2 true a0_0 a0_1 l0_2 l0_3 bt463.1 bt463.2.1 bt463.2.2.1 bt463.2.2.2)))))))) = some r := H
 have A2 := Aside0.mk A20
 clear A20
 by_cases c3 : t450 < 0
 ·rw [if_pos c3] at H
  have c3b0 : decide (t450 < 0) = true := decide_eq_true c3
  clear c3
  obtain rfl := Option.some.inj H
  go_enter Try.func7, Try.ntmps7
  go_wp2_with (first | ((with_reducible refine gate_dst (N := 1) rfl ?_); refine bE ?hg (N := 1) ?hd (cs := #[.int .i64 a0_0, .int .i64 a0_1, .slice A0_2 l0_2.length c0_2, .slice A0_3 l0_3.length c0_3]) (t := 25) ?hr ?_; (case hd => rfl); (case hg => rfl); (case hr => first | (go_simp; done) | (go_simp; rfl)); intro gb449 hg w4 hbox hb; have n0_ := Aside0.mk (bP (by repeat (first | (with_reducible first | exact HB.out | apply bA | apply bN | apply bD) | exact HB.out)) hb); have n1_ := Aside0.mk (hbox); have n2_ := Aside0.mk ((by rw [hg]; exact (bZ (by repeat (first | (with_reducible first | exact HB.out | apply bA | apply bN | apply bD) | exact HB.out))) : w.heap.size ≤ gb449)); have n3_ := Aside0.mk ((by rw [hg]; exact (bZ (by repeat (first | (with_reducible first | exact HB.out | apply bA | apply bN | apply bD) | exact HB.out))) : w.heap.size ≤ gb449)); clear HB; have HB := n0_; have BK449 := n1_; have GW449 := n2_; have GE449 := n3_; clear n0_ n1_ n2_ n3_; clear hb hbox hg; have hcz5_0 : w4.cell? ⟨gb449, 0, none⟩ = some (.int .i64 a0_0) := (kC BK449.out 0).trans rfl; have hcz5_1 : w4.cell? ⟨gb449, 1, none⟩ = some (.int .i64 a0_1) := (kC BK449.out 1).trans rfl; have hcz5_2 : w4.cell? ⟨gb449, 2, none⟩ = some (.slice A0_2 l0_2.length c0_2) := (kC BK449.out 2).trans rfl; have hcz5_3 : w4.cell? ⟨gb449, 3, none⟩ = some (.slice A0_3 l0_3.length c0_3) := (kC BK449.out 3).trans rfl; have hfz5_0 := blk_frozen BK449.out 0; have hfz5_1 := blk_frozen BK449.out 1; have hfz5_2 := blk_frozen BK449.out 2; have hfz5_3 := blk_frozen BK449.out 3) | ((with_reducible refine gC (f := 15) rfl ?_); refine goesL_ (some 16) rfl rfl Try.func15 (by kernel_rfl) rfl #[.agg #[.int .i64 a0_0, .int .i64 a0_1, .slice A0_2 l0_2.length c0_2, .slice A0_3 l0_3.length c0_3], .int .i64 1048576] rfl (by (try simp only [List.map_toArray, List.map_cons, List.map_nil]); first | done | rfl | (simp only [List.length_drop, List.length_take]; rfl)) ?_; (with_reducible refine (laws_szGrammar.calls a0_0 a0_1 _ _ l0_2 _ _ l0_3 1048576 t450 _ ?side1 ?side2 ?side3 ?side4 A2.out).mono ?_); (case side1 => repeat (first | exact (cB HR0_2.out HB.out) | (with_reducible refine cA ?_ _) | (with_reducible refine cN ?_ _) | (with_reducible refine cD ?_))); (case side2 => exact HC0_2.out); (case side3 => repeat (first | exact (cB HR0_3.out HB.out) | (with_reducible refine cA ?_ _) | (with_reducible refine cN ?_ _) | (with_reducible refine cD ?_))); (case side4 => exact HC0_3.out); rintro e w6 ⟨rfl, hb⟩; refine ⟨_, rfl, ?_⟩; have n0_ := Aside0.mk (kB (g := gb449) (o := .cells #[.int .i64 a0_0, .int .i64 a0_1, .slice A0_2 l0_2.length c0_2, .slice A0_3 l0_3.length c0_3] 25 (0, 0)) (by (with_reducible repeat (first | refine kN ?_ _ | refine kD ?_ | refine kA ?_ _)); exact BK449.out) hb); have n1_ := Aside0.mk (bP (by repeat (first | (with_reducible first | exact HB.out | apply bA | apply bN | apply bD | refine bS ?_ GE449.out) | exact HB.out)) hb); clear BK449; clear HB; have BK449 := n0_; have HB := n1_; clear n0_ n1_; (try clear hb); (try clear hb2); (try clear hk); (try clear hi)))
  go_ret
  exact ⟨by first | rfl | (simp [errW_none, errW_some] <;> rfl) | (simp [*, errW_none, errW_some] <;> rfl), by repeat (first | (with_reducible first | exact HB.out | apply bA | apply bN | apply bD | refine bS ?_ GE449.out) | exact HB.out)⟩
 ·rw [if_neg c3] at H
  have c3b0 : decide (t450 < 0) = false := decide_eq_false c3
  clear c3
  replace H := Option.bind_eq_some_iff.mp H
  obtain ⟨⟨t451, t452, t453, t456⟩, A70, H⟩ := H
  replace H : ((spec_DeadStates.f k t451 t452 t453 t456).bind fun bt459 => ((laws_toGrammar.f k a0_0 a0_1 l0_2 l0_3).bind fun bt463 => ((impl_DeadStates.f k bt463.1 bt463.2.1 bt463.2.2.1 bt463.2.2.2).bind fun bt472 => ((laws_eqInt64S.f k bt472.1 bt459.1).bind fun t476 => (if t476 = true then (laws_FnExactDeadStates.j0 k bt459.1 bt459.2 bt472.1 bt472.2 (bt472.2 != bt459.2) a0_0 a0_1 l0_2 l0_3 bt463.1 bt463.2.1 bt463.2.2.1 bt463.2.2.2) else (laws_FnExactDeadStates.j0 k bt459.1 bt459.2 bt472.1 bt472.2 true a0_0 a0_1 l0_2 l0_3 bt463.1 bt463.2.1 bt463.2.2.1 bt463.2.2.2)))))) = some r := H
  have A7 := Aside0.mk A70
  clear A70
  replace H := Option.bind_eq_some_iff.mp H
  obtain ⟨⟨t459, t462⟩, A80, H⟩ := H
  replace H : ((laws_toGrammar.f k a0_0 a0_1 l0_2 l0_3).bind fun bt463 => ((impl_DeadStates.f k bt463.1 bt463.2.1 bt463.2.2.1 bt463.2.2.2).bind fun bt472 => ((laws_eqInt64S.f k bt472.1 t459).bind fun t476 => (if t476 = true then (laws_FnExactDeadStates.j0 k t459 t462 bt472.1 bt472.2 (bt472.2 != t462) a0_0 a0_1 l0_2 l0_3 bt463.1 bt463.2.1 bt463.2.2.1 bt463.2.2.2) else (laws_FnExactDeadStates.j0 k t459 t462 bt472.1 bt472.2 true a0_0 a0_1 l0_2 l0_3 bt463.1 bt463.2.1 bt463.2.2.1 bt463.2.2.2))))) = some r := H
  have A8 := Aside0.mk A80
  clear A80
  replace H := Option.bind_eq_some_iff.mp H
  obtain ⟨⟨t463, t464, t465, t468⟩, A90, H⟩ := H
  replace H : ((impl_DeadStates.f k t463 t464 t465 t468).bind fun bt472 => ((laws_eqInt64S.f k bt472.1 t459).bind fun t476 => (if t476 = true then (laws_FnExactDeadStates.j0 k t459 t462 bt472.1 bt472.2 (bt472.2 != t462) a0_0 a0_1 l0_2 l0_3 t463 t464 t465 t468) else (laws_FnExactDeadStates.j0 k t459 t462 bt472.1 bt472.2 true a0_0 a0_1 l0_2 l0_3 t463 t464 t465 t468)))) = some r := H
  have A9 := Aside0.mk A90
  clear A90
  replace H := Option.bind_eq_some_iff.mp H
  obtain ⟨⟨t472, t475⟩, A100, H⟩ := H
  replace H : ((laws_eqInt64S.f k t472 t459).bind fun t476 => (if t476 = true then (laws_FnExactDeadStates.j0 k t459 t462 t472 t475 (t475 != t462) a0_0 a0_1 l0_2 l0_3 t463 t464 t465 t468) else (laws_FnExactDeadStates.j0 k t459 t462 t472 t475 true a0_0 a0_1 l0_2 l0_3 t463 t464 t465 t468))) = some r := H
  have A10 := Aside0.mk A100
  clear A100
  have HC11 := Aside0.mk H
  clear H
  go_enter Try.func7, Try.ntmps7
  go_upto_region 8 with (first | ((with_reducible refine gate_dst (N := 1) rfl ?_); refine bE ?hg (N := 1) ?hd (cs := #[.int .i64 a0_0, .int .i64 a0_1, .slice A0_2 l0_2.length c0_2, .slice A0_3 l0_3.length c0_3]) (t := 25) ?hr ?_; (case hd => rfl); (case hg => rfl); (case hr => first | (go_simp; done) | (go_simp; rfl)); intro gb449 hg w12 hbox hb; have n0_ := Aside0.mk (bP (by repeat (first | (with_reducible first | exact HB.out | apply bA | apply bN | apply bD) | exact HB.out)) hb); have n1_ := Aside0.mk (hbox); have n2_ := Aside0.mk ((by rw [hg]; exact (bZ (by repeat (first | (with_reducible first | exact HB.out | apply bA | apply bN | apply bD) | exact HB.out))) : w.heap.size ≤ gb449)); have n3_ := Aside0.mk ((by rw [hg]; exact (bZ (by repeat (first | (with_reducible first | exact HB.out | apply bA | apply bN | apply bD) | exact HB.out))) : w.heap.size ≤ gb449)); clear HB; have HB := n0_; have BK449 := n1_; have GW449 := n2_; have GE449 := n3_; clear n0_ n1_ n2_ n3_; clear hb hbox hg; have hcz13_0 : w12.cell? ⟨gb449, 0, none⟩ = some (.int .i64 a0_0) := (kC BK449.out 0).trans rfl; have hcz13_1 : w12.cell? ⟨gb449, 1, none⟩ = some (.int .i64 a0_1) := (kC BK449.out 1).trans rfl; have hcz13_2 : w12.cell? ⟨gb449, 2, none⟩ = some (.slice A0_2 l0_2.length c0_2) := (kC BK449.out 2).trans rfl; have hcz13_3 : w12.cell? ⟨gb449, 3, none⟩ = some (.slice A0_3 l0_3.length c0_3) := (kC BK449.out 3).trans rfl; have hfz13_0 := blk_frozen BK449.out 0; have hfz13_1 := blk_frozen BK449.out 1; have hfz13_2 := blk_frozen BK449.out 2; have hfz13_3 := blk_frozen BK449.out 3) | ((with_reducible refine gC (f := 15) rfl ?_); refine goesL_ (some 16) rfl rfl Try.func15 (by kernel_rfl) rfl #[.agg #[.int .i64 a0_0, .int .i64 a0_1, .slice A0_2 l0_2.length c0_2, .slice A0_3 l0_3.length c0_3], .int .i64 1048576] rfl (by (try simp only [List.map_toArray, List.map_cons, List.map_nil]); first | done | rfl | (simp only [List.length_drop, List.length_take]; rfl)) ?_; (with_reducible refine (laws_szGrammar.calls a0_0 a0_1 _ _ l0_2 _ _ l0_3 1048576 t450 _ ?side1 ?side2 ?side3 ?side4 A2.out).mono ?_); (case side1 => repeat (first | exact (cB HR0_2.out HB.out) | (with_reducible refine cA ?_ _) | (with_reducible refine cN ?_ _) | (with_reducible refine cD ?_))); (case side2 => exact HC0_2.out); (case side3 => repeat (first | exact (cB HR0_3.out HB.out) | (with_reducible refine cA ?_ _) | (with_reducible refine cN ?_ _) | (with_reducible refine cD ?_))); (case side4 => exact HC0_3.out); rintro e w14 ⟨rfl, hb⟩; refine ⟨_, rfl, ?_⟩; have n0_ := Aside0.mk (kB (g := gb449) (o := .cells #[.int .i64 a0_0, .int .i64 a0_1, .slice A0_2 l0_2.length c0_2, .slice A0_3 l0_3.length c0_3] 25 (0, 0)) (by (with_reducible repeat (first | refine kN ?_ _ | refine kD ?_ | refine kA ?_ _)); exact BK449.out) hb); have n1_ := Aside0.mk (bP (by repeat (first | (with_reducible first | exact HB.out | apply bA | apply bN | apply bD | refine bS ?_ GE449.out) | exact HB.out)) hb); clear BK449; clear HB; have BK449 := n0_; have HB := n1_; clear n0_ n1_; (try clear hb); (try clear hb2); (try clear hk); (try clear hi); have hcz15_0 : w14.cell? ⟨gb449, 0, none⟩ = some (.int .i64 a0_0) := (kC BK449.out 0).trans rfl; have hcz15_1 : w14.cell? ⟨gb449, 1, none⟩ = some (.int .i64 a0_1) := (kC BK449.out 1).trans rfl; have hcz15_2 : w14.cell? ⟨gb449, 2, none⟩ = some (.slice A0_2 l0_2.length c0_2) := (kC BK449.out 2).trans rfl; have hcz15_3 : w14.cell? ⟨gb449, 3, none⟩ = some (.slice A0_3 l0_3.length c0_3) := (kC BK449.out 3).trans rfl; have hfz15_0 := blk_frozen BK449.out 0; have hfz15_1 := blk_frozen BK449.out 1; have hfz15_2 := blk_frozen BK449.out 2; have hfz15_3 := blk_frozen BK449.out 3) | ((with_reducible refine gC (f := 17) rfl ?_); refine goesL_ (some 21) rfl rfl Try.func17 (by kernel_rfl) rfl #[.agg #[.int .i64 a0_0, .int .i64 a0_1, .slice A0_2 l0_2.length c0_2, .slice A0_3 l0_3.length c0_3]] rfl (by (try simp only [List.map_toArray, List.map_cons, List.map_nil]); first | done | rfl | (simp only [List.length_drop, List.length_take]; rfl)) ?_; (with_reducible refine (laws_toGrammar.calls k a0_0 a0_1 _ _ l0_2 _ _ l0_3 t451 t452 t453 t456 _ ?side1 ?side2 ?side3 ?side4 A7.out).mono ?_); (case side1 => repeat (first | exact (cB HR0_2.out HB.out) | (with_reducible refine cA ?_ _) | (with_reducible refine cN ?_ _) | (with_reducible refine cD ?_))); (case side2 => exact HC0_2.out); (case side3 => repeat (first | exact (cB HR0_3.out HB.out) | (with_reducible refine cA ?_ _) | (with_reducible refine cN ?_ _) | (with_reducible refine cD ?_))); (case side4 => exact HC0_3.out); rintro e w16 ⟨v454, v457, rfl, ho0, ho1, hb⟩; refine ⟨_, rfl, ?_⟩; have n0_ := Aside0.mk (rL ho0 (bZ (by repeat (first | (with_reducible first | exact HB.out | apply bA | apply bN | apply bD | refine bS ?_ GE449.out) | exact HB.out)))); have n1_ := Aside0.mk (rL ho1 (bZ (by repeat (first | (with_reducible first | exact HB.out | apply bA | apply bN | apply bD | refine bS ?_ GE449.out) | exact HB.out)))); have n2_ := Aside0.mk (kB (g := gb449) (o := .cells #[.int .i64 a0_0, .int .i64 a0_1, .slice A0_2 l0_2.length c0_2, .slice A0_3 l0_3.length c0_3] 25 (0, 0)) (by (with_reducible repeat (first | refine kN ?_ _ | refine kD ?_ | refine kA ?_ _)); exact BK449.out) hb); have n3_ := Aside0.mk (bP (by repeat (first | (with_reducible first | exact HB.out | apply bA | apply bN | apply bD | refine bS ?_ GE449.out) | exact HB.out)) hb); clear BK449; clear HB; have HO455 := n0_; have HO458 := n1_; have BK449 := n2_; have HB := n3_; clear n0_ n1_ n2_ n3_; (try clear hb); (try clear hb2); (try clear hk); (try clear hi); (try clear ho0); (try clear ho1); obtain ⟨Ao17, co17, eo17⟩ := Kd.R_slice HO455.out; subst eo17; obtain ⟨Ao18, co18, eo18⟩ := Kd.R_slice HO458.out; subst eo18) | ((with_reducible refine gC (f := 28) rfl ?_); refine goesL_ (some 22) rfl rfl Try.func28 (by kernel_rfl) rfl #[.agg #[.int .i64 t451, .int .i64 t452, .slice Ao17 t453.length co17, .slice Ao18 t456.length co18]] rfl (by (try simp only [List.map_toArray, List.map_cons, List.map_nil]); first | done | rfl | (simp only [List.length_drop, List.length_take]; rfl)) ?_; (with_reducible refine (spec_DeadStates.calls k t451 t452 _ _ t453 _ _ t456 t459 t462 _ ?side1 ?side2 ?side3 ?side4 A8.out).mono ?_); (case side1 => repeat (first | exact (Kd.R_reads' HO455.out).2.2 | (with_reducible refine cA ?_ _) | (with_reducible refine cN ?_ _) | (with_reducible refine cD ?_))); (case side2 => exact (Kd.R_reads' HO455.out).2.1); (case side3 => repeat (first | exact (Kd.R_reads' HO458.out).2.2 | (with_reducible refine cA ?_ _) | (with_reducible refine cN ?_ _) | (with_reducible refine cD ?_))); (case side4 => exact (Kd.R_reads' HO458.out).2.1); rintro e w19 ⟨v460, rfl, ho0, hb⟩; refine ⟨_, rfl, ?_⟩; have n0_ := Aside0.mk (rE (by (with_reducible repeat (first | apply rA | apply rN | apply rD)); exact HO455.out) (Kd.R_base ho0) hb); have n1_ := Aside0.mk (rB (by (with_reducible repeat (first | apply rA | apply rN | apply rD)); exact HO458.out) hb); have n2_ := Aside0.mk (rL (rW ho0 (rT (by (with_reducible repeat (first | apply rA | apply rN | apply rD)); exact HO455.out))) (bZ (by repeat (first | (with_reducible first | exact HB.out | apply bA | apply bN | apply bD | refine bS ?_ GE449.out) | exact HB.out)))); have n3_ := Aside0.mk (kB (g := gb449) (o := .cells #[.int .i64 a0_0, .int .i64 a0_1, .slice A0_2 l0_2.length c0_2, .slice A0_3 l0_3.length c0_3] 25 (0, 0)) (by (with_reducible repeat (first | refine kN ?_ _ | refine kD ?_ | refine kA ?_ _)); exact BK449.out) hb); have n4_ := Aside0.mk (bP (by repeat (first | (with_reducible first | exact HB.out | apply bA | apply bN | apply bD | refine bS ?_ GE449.out) | exact HB.out)) hb); clear HO455; clear HO458; clear BK449; clear HB; have HO455 := n0_; have HO458 := n1_; have HO461 := n2_; have BK449 := n3_; have HB := n4_; clear n0_ n1_ n2_ n3_ n4_; (try clear hb); (try clear hb2); (try clear hk); (try clear hi); (try clear ho0); have hcz20_0 : w19.cell? ⟨gb449, 0, none⟩ = some (.int .i64 a0_0) := (kC BK449.out 0).trans rfl; have hcz20_1 : w19.cell? ⟨gb449, 1, none⟩ = some (.int .i64 a0_1) := (kC BK449.out 1).trans rfl; have hcz20_2 : w19.cell? ⟨gb449, 2, none⟩ = some (.slice A0_2 l0_2.length c0_2) := (kC BK449.out 2).trans rfl; have hcz20_3 : w19.cell? ⟨gb449, 3, none⟩ = some (.slice A0_3 l0_3.length c0_3) := (kC BK449.out 3).trans rfl; have hfz20_0 := blk_frozen BK449.out 0; have hfz20_1 := blk_frozen BK449.out 1; have hfz20_2 := blk_frozen BK449.out 2; have hfz20_3 := blk_frozen BK449.out 3) | ((with_reducible refine gC (f := 17) rfl ?_); refine goesL_ (some 26) rfl rfl Try.func17 (by kernel_rfl) rfl #[.agg #[.int .i64 a0_0, .int .i64 a0_1, .slice A0_2 l0_2.length c0_2, .slice A0_3 l0_3.length c0_3]] rfl (by (try simp only [List.map_toArray, List.map_cons, List.map_nil]); first | done | rfl | (simp only [List.length_drop, List.length_take]; rfl)) ?_; (with_reducible refine (laws_toGrammar.calls k a0_0 a0_1 _ _ l0_2 _ _ l0_3 t463 t464 t465 t468 _ ?side1 ?side2 ?side3 ?side4 A9.out).mono ?_); (case side1 => repeat (first | exact (cB HR0_2.out HB.out) | (with_reducible refine cA ?_ _) | (with_reducible refine cN ?_ _) | (with_reducible refine cD ?_))); (case side2 => exact HC0_2.out); (case side3 => repeat (first | exact (cB HR0_3.out HB.out) | (with_reducible refine cA ?_ _) | (with_reducible refine cN ?_ _) | (with_reducible refine cD ?_))); (case side4 => exact HC0_3.out); rintro e w21 ⟨v466, v469, rfl, ho0, ho1, hb⟩; refine ⟨_, rfl, ?_⟩; have n0_ := Aside0.mk (rE (by (with_reducible repeat (first | apply rA | apply rN | apply rD)); exact HO455.out) (Kd.R_base ho0) hb); have n1_ := Aside0.mk (rE (by (with_reducible repeat (first | apply rA | apply rN | apply rD)); exact HO458.out) (Kd.R_base ho1) hb); have n2_ := Aside0.mk (rE (by (with_reducible repeat (first | apply rA | apply rN | apply rD)); exact HO461.out) (Kd.R_base ho0) hb); have n3_ := Aside0.mk (rL (rW (rW ho0 (rT (by (with_reducible repeat (first | apply rA | apply rN | apply rD)); exact HO455.out))) (rT (by (with_reducible repeat (first | apply rA | apply rN | apply rD)); exact HO461.out))) (bZ (by repeat (first | (with_reducible first | exact HB.out | apply bA | apply bN | apply bD | refine bS ?_ GE449.out) | exact HB.out)))); have n4_ := Aside0.mk (rL (rW ho1 (rT (by (with_reducible repeat (first | apply rA | apply rN | apply rD)); exact HO458.out))) (bZ (by repeat (first | (with_reducible first | exact HB.out | apply bA | apply bN | apply bD | refine bS ?_ GE449.out) | exact HB.out)))); have n5_ := Aside0.mk (kB (g := gb449) (o := .cells #[.int .i64 a0_0, .int .i64 a0_1, .slice A0_2 l0_2.length c0_2, .slice A0_3 l0_3.length c0_3] 25 (0, 0)) (by (with_reducible repeat (first | refine kN ?_ _ | refine kD ?_ | refine kA ?_ _)); exact BK449.out) hb); have n6_ := Aside0.mk (bP (by repeat (first | (with_reducible first | exact HB.out | apply bA | apply bN | apply bD | refine bS ?_ GE449.out) | exact HB.out)) hb); clear HO455; clear HO458; clear HO461; clear BK449; clear HB; have HO455 := n0_; have HO458 := n1_; have HO461 := n2_; have HO467 := n3_; have HO470 := n4_; have BK449 := n5_; have HB := n6_; clear n0_ n1_ n2_ n3_ n4_ n5_ n6_; (try clear hb); (try clear hb2); (try clear hk); (try clear hi); (try clear ho0); (try clear ho1)) | ((with_reducible refine gate_dst (N := 6) rfl ?_); refine bE ?hg (N := 6) ?hd (cs := #[.int .i64 0, .int .i64 0, .slice none 0 0, .slice none 0 0]) (t := 30) ?hr ?_; (case hd => rfl); (case hg => rfl); (case hr => first | (go_simp; done) | (go_simp; rfl)); intro gb471 hg w22 hbox hb; have n0_ := Aside0.mk (rB (by (with_reducible repeat (first | apply rA | apply rN | apply rD)); exact HO455.out) hb); have n1_ := Aside0.mk (rB (by (with_reducible repeat (first | apply rA | apply rN | apply rD)); exact HO458.out) hb); have n2_ := Aside0.mk (rB (by (with_reducible repeat (first | apply rA | apply rN | apply rD)); exact HO461.out) hb); have n3_ := Aside0.mk (rB (by (with_reducible repeat (first | apply rA | apply rN | apply rD)); exact HO467.out) hb); have n4_ := Aside0.mk (rB (by (with_reducible repeat (first | apply rA | apply rN | apply rD)); exact HO470.out) hb); have n5_ := Aside0.mk (kB (g := gb449) (o := .cells #[.int .i64 a0_0, .int .i64 a0_1, .slice A0_2 l0_2.length c0_2, .slice A0_3 l0_3.length c0_3] 25 (0, 0)) (by (with_reducible repeat (first | refine kN ?_ _ | refine kD ?_ | refine kA ?_ _)); exact BK449.out) hb); have n6_ := Aside0.mk (bP (by repeat (first | (with_reducible first | exact HB.out | apply bA | apply bN | apply bD | refine bS ?_ GE449.out) | exact HB.out)) hb); have n7_ := Aside0.mk (hbox); have n8_ := Aside0.mk ((by rw [hg]; exact (bZ (by repeat (first | (with_reducible first | exact HB.out | apply bA | apply bN | apply bD | refine bS ?_ GE449.out) | exact HB.out))) : w.heap.size ≤ gb471)); have n9_ := Aside0.mk ((by rw [hg]; exact (bZ (by repeat (first | (with_reducible first | exact HB.out | apply bA | apply bN | apply bD | refine bS ?_ GE449.out) | exact HB.out))) : w.heap.size ≤ gb471)); have n10_ := Aside0.mk ((by rw [hg]; exact Nat.ne_of_lt (kL (g := gb449) (o := .cells #[.int .i64 a0_0, .int .i64 a0_1, .slice A0_2 l0_2.length c0_2, .slice A0_3 l0_3.length c0_3] 25 (0, 0)) (by (with_reducible repeat (first | refine kN ?_ _ | refine kD ?_ | refine kA ?_ _)); exact BK449.out)) : gb449 ≠ gb471)); have n11_ := Aside0.mk ((by rw [hg]; exact Nat.ne_of_gt (kL (g := gb449) (o := .cells #[.int .i64 a0_0, .int .i64 a0_1, .slice A0_2 l0_2.length c0_2, .slice A0_3 l0_3.length c0_3] 25 (0, 0)) (by (with_reducible repeat (first | refine kN ?_ _ | refine kD ?_ | refine kA ?_ _)); exact BK449.out)) : gb471 ≠ gb449)); clear HO455; clear HO458; clear HO461; clear HO467; clear HO470; clear BK449; clear HB; have HO455 := n0_; have HO458 := n1_; have HO461 := n2_; have HO467 := n3_; have HO470 := n4_; have BK449 := n5_; have HB := n6_; have BK471 := n7_; have GW471 := n8_; have GE471 := n9_; have NB449_471 := n10_; have NB471_449 := n11_; clear n0_ n1_ n2_ n3_ n4_ n5_ n6_ n7_ n8_ n9_ n10_ n11_; clear hb hbox hg; have hnb23 := NB471_449.out; have hnc23 := NB449_471.out; have hcz24_0 : w22.cell? ⟨gb471, 0, none⟩ = some (.int .i64 0) := (kC BK471.out 0).trans rfl; have hcz24_1 : w22.cell? ⟨gb471, 1, none⟩ = some (.int .i64 0) := (kC BK471.out 1).trans rfl; have hcz24_2 : w22.cell? ⟨gb471, 2, none⟩ = some (.slice none 0 0) := (kC BK471.out 2).trans rfl; have hcz24_3 : w22.cell? ⟨gb471, 3, none⟩ = some (.slice none 0 0) := (kC BK471.out 3).trans rfl; have hfz24_0 := blk_frozen BK471.out 0; have hfz24_1 := blk_frozen BK471.out 1; have hfz24_2 := blk_frozen BK471.out 2; have hfz24_3 := blk_frozen BK471.out 3; obtain ⟨Ao25, co25, eo25⟩ := Kd.R_slice HO467.out; subst eo25; obtain ⟨Ao26, co26, eo26⟩ := Kd.R_slice HO470.out; subst eo26) | ((with_reducible refine gC (f := 29) rfl ?_); refine goesL_ (some 29) rfl rfl Try.func29 (by kernel_rfl) rfl #[.agg #[.int .i64 t463, .int .i64 t464, .slice Ao25 t465.length co25, .slice Ao26 t468.length co26]] rfl (by (try simp only [List.map_toArray, List.map_cons, List.map_nil]); first | done | rfl | (simp only [List.length_drop, List.length_take]; rfl)) ?_; (with_reducible refine (impl_DeadStates.calls k t463 t464 _ _ t465 _ _ t468 t472 t475 _ ?side1 ?side2 ?side3 ?side4 A10.out).mono ?_); (case side1 => refine (Kd.R_reads' (e := 2) (base := w.heap.size) (ok := fun k_ => ((True ∧ some k_ ≠ (.slice Ao17 t453.length co17 : Value).ownBlock) ∧ some k_ ≠ (v460 : Value).ownBlock)) (n := t465.length) (c := co25) ?_).2.2; exact (by (with_reducible repeat (first | apply rA | apply rN | apply rD)); exact (rM (Kd.R_far (p := ⟨gb471, 3, none⟩) (Kd.R_far (p := ⟨gb471, 2, none⟩) (Kd.R_far (p := ⟨gb471, 1, none⟩) (Kd.R_far (p := ⟨gb471, 0, none⟩) (Kd.R_types HO467.out BK471.out (by decide)) (fun _ hk => hk.2) (.int .i64 t463)) (fun _ hk => hk.2) (.int .i64 t464)) (fun _ hk => hk.2) (.slice Ao25 t465.length co25)) (fun _ hk => hk.2) (.slice Ao26 t468.length co26)) (fun _ h_ => h_.1)))); (case side2 => exact (Kd.R_reads' HO467.out).2.1); (case side3 => refine (Kd.R_reads' (e := 67) (base := w.heap.size) (ok := fun k_ => (True ∧ some k_ ≠ (.slice Ao18 t456.length co18 : Value).ownBlock)) (n := t468.length) (c := co26) ?_).2.2; exact (by (with_reducible repeat (first | apply rA | apply rN | apply rD)); exact (rM (Kd.R_far (p := ⟨gb471, 3, none⟩) (Kd.R_far (p := ⟨gb471, 2, none⟩) (Kd.R_far (p := ⟨gb471, 1, none⟩) (Kd.R_far (p := ⟨gb471, 0, none⟩) (Kd.R_types HO470.out BK471.out (by decide)) (fun _ hk => hk.2) (.int .i64 t463)) (fun _ hk => hk.2) (.int .i64 t464)) (fun _ hk => hk.2) (.slice Ao25 t465.length co25)) (fun _ hk => hk.2) (.slice Ao26 t468.length co26)) (fun _ h_ => h_.1)))); (case side4 => exact (Kd.R_reads' HO470.out).2.1); rintro e w27 ⟨v473, rfl, ho0, hb⟩; refine ⟨_, rfl, ?_⟩; have n0_ := Aside0.mk (rE (by (with_reducible repeat (first | apply rA | apply rN | apply rD)); exact (rM (Kd.R_far (p := ⟨gb471, 3, none⟩) (Kd.R_far (p := ⟨gb471, 2, none⟩) (Kd.R_far (p := ⟨gb471, 1, none⟩) (Kd.R_far (p := ⟨gb471, 0, none⟩) (Kd.R_types HO455.out BK471.out (by decide)) (fun _ hk => hk.2) (.int .i64 t463)) (fun _ hk => hk.2) (.int .i64 t464)) (fun _ hk => hk.2) (.slice Ao25 t465.length co25)) (fun _ hk => hk.2) (.slice Ao26 t468.length co26)) (fun _ h_ => h_.1))) (Kd.R_base ho0) hb); have n1_ := Aside0.mk (rB (by (with_reducible repeat (first | apply rA | apply rN | apply rD)); exact (rM (Kd.R_far (p := ⟨gb471, 3, none⟩) (Kd.R_far (p := ⟨gb471, 2, none⟩) (Kd.R_far (p := ⟨gb471, 1, none⟩) (Kd.R_far (p := ⟨gb471, 0, none⟩) (Kd.R_types HO458.out BK471.out (by decide)) (fun _ hk => hk.2) (.int .i64 t463)) (fun _ hk => hk.2) (.int .i64 t464)) (fun _ hk => hk.2) (.slice Ao25 t465.length co25)) (fun _ hk => hk.2) (.slice Ao26 t468.length co26)) (fun _ h_ => h_.1))) hb); have n2_ := Aside0.mk (rE (by (with_reducible repeat (first | apply rA | apply rN | apply rD)); exact (rM (Kd.R_far (p := ⟨gb471, 3, none⟩) (Kd.R_far (p := ⟨gb471, 2, none⟩) (Kd.R_far (p := ⟨gb471, 1, none⟩) (Kd.R_far (p := ⟨gb471, 0, none⟩) (Kd.R_types HO461.out BK471.out (by decide)) (fun _ hk => hk.2) (.int .i64 t463)) (fun _ hk => hk.2) (.int .i64 t464)) (fun _ hk => hk.2) (.slice Ao25 t465.length co25)) (fun _ hk => hk.2) (.slice Ao26 t468.length co26)) (fun _ h_ => h_.1))) (Kd.R_base ho0) hb); have n3_ := Aside0.mk (rE (by (with_reducible repeat (first | apply rA | apply rN | apply rD)); exact (rM (Kd.R_far (p := ⟨gb471, 3, none⟩) (Kd.R_far (p := ⟨gb471, 2, none⟩) (Kd.R_far (p := ⟨gb471, 1, none⟩) (Kd.R_far (p := ⟨gb471, 0, none⟩) (Kd.R_types HO467.out BK471.out (by decide)) (fun _ hk => hk.2) (.int .i64 t463)) (fun _ hk => hk.2) (.int .i64 t464)) (fun _ hk => hk.2) (.slice Ao25 t465.length co25)) (fun _ hk => hk.2) (.slice Ao26 t468.length co26)) (fun _ h_ => h_.1))) (Kd.R_base ho0) hb); have n4_ := Aside0.mk (rB (by (with_reducible repeat (first | apply rA | apply rN | apply rD)); exact (rM (Kd.R_far (p := ⟨gb471, 3, none⟩) (Kd.R_far (p := ⟨gb471, 2, none⟩) (Kd.R_far (p := ⟨gb471, 1, none⟩) (Kd.R_far (p := ⟨gb471, 0, none⟩) (Kd.R_types HO470.out BK471.out (by decide)) (fun _ hk => hk.2) (.int .i64 t463)) (fun _ hk => hk.2) (.int .i64 t464)) (fun _ hk => hk.2) (.slice Ao25 t465.length co25)) (fun _ hk => hk.2) (.slice Ao26 t468.length co26)) (fun _ h_ => h_.1))) hb); have n5_ := Aside0.mk (rL (rW (rW (rW ho0 (rT (by (with_reducible repeat (first | apply rA | apply rN | apply rD)); exact (rM (Kd.R_far (p := ⟨gb471, 3, none⟩) (Kd.R_far (p := ⟨gb471, 2, none⟩) (Kd.R_far (p := ⟨gb471, 1, none⟩) (Kd.R_far (p := ⟨gb471, 0, none⟩) (Kd.R_types HO455.out BK471.out (by decide)) (fun _ hk => hk.2) (.int .i64 t463)) (fun _ hk => hk.2) (.int .i64 t464)) (fun _ hk => hk.2) (.slice Ao25 t465.length co25)) (fun _ hk => hk.2) (.slice Ao26 t468.length co26)) (fun _ h_ => h_.1))))) (rT (by (with_reducible repeat (first | apply rA | apply rN | apply rD)); exact (rM (Kd.R_far (p := ⟨gb471, 3, none⟩) (Kd.R_far (p := ⟨gb471, 2, none⟩) (Kd.R_far (p := ⟨gb471, 1, none⟩) (Kd.R_far (p := ⟨gb471, 0, none⟩) (Kd.R_types HO461.out BK471.out (by decide)) (fun _ hk => hk.2) (.int .i64 t463)) (fun _ hk => hk.2) (.int .i64 t464)) (fun _ hk => hk.2) (.slice Ao25 t465.length co25)) (fun _ hk => hk.2) (.slice Ao26 t468.length co26)) (fun _ h_ => h_.1))))) (rT (by (with_reducible repeat (first | apply rA | apply rN | apply rD)); exact (rM (Kd.R_far (p := ⟨gb471, 3, none⟩) (Kd.R_far (p := ⟨gb471, 2, none⟩) (Kd.R_far (p := ⟨gb471, 1, none⟩) (Kd.R_far (p := ⟨gb471, 0, none⟩) (Kd.R_types HO467.out BK471.out (by decide)) (fun _ hk => hk.2) (.int .i64 t463)) (fun _ hk => hk.2) (.int .i64 t464)) (fun _ hk => hk.2) (.slice Ao25 t465.length co25)) (fun _ hk => hk.2) (.slice Ao26 t468.length co26)) (fun _ h_ => h_.1))))) (bZ (by repeat (first | (with_reducible first | exact HB.out | apply bA | apply bN | apply bD | refine bS ?_ GE449.out | refine bS ?_ GE471.out) | exact HB.out)))); have n6_ := Aside0.mk (kB (g := gb449) (o := .cells #[.int .i64 a0_0, .int .i64 a0_1, .slice A0_2 l0_2.length c0_2, .slice A0_3 l0_3.length c0_3] 25 (0, 0)) (by (with_reducible repeat (first | refine kN ?_ _ | refine kD ?_ | refine kA ?_ _)); refine kF ?_ NB449_471.out _; (with_reducible repeat (first | refine kN ?_ _ | refine kD ?_ | refine kA ?_ _)); refine kF ?_ NB449_471.out _; (with_reducible repeat (first | refine kN ?_ _ | refine kD ?_ | refine kA ?_ _)); refine kF ?_ NB449_471.out _; (with_reducible repeat (first | refine kN ?_ _ | refine kD ?_ | refine kA ?_ _)); refine kF ?_ NB449_471.out _; (with_reducible repeat (first | refine kN ?_ _ | refine kD ?_ | refine kA ?_ _)); exact BK449.out) hb); have n7_ := Aside0.mk (kB (g := gb471) (o := .cells #[.int .i64 t463, .int .i64 t464, .slice Ao25 t465.length co25, .slice Ao26 t468.length co26] 30 (0, 0)) (by (with_reducible repeat (first | refine kN ?_ _ | refine kD ?_ | refine kA ?_ _)); refine blk_put (cs := #[.int .i64 t463, .int .i64 t464, .slice Ao25 t465.length co25, .slice none 0 0]) ?_ 3 _ rfl; (with_reducible repeat (first | refine kN ?_ _ | refine kD ?_ | refine kA ?_ _)); refine blk_put (cs := #[.int .i64 t463, .int .i64 t464, .slice none 0 0, .slice none 0 0]) ?_ 2 _ rfl; (with_reducible repeat (first | refine kN ?_ _ | refine kD ?_ | refine kA ?_ _)); refine blk_put (cs := #[.int .i64 t463, .int .i64 0, .slice none 0 0, .slice none 0 0]) ?_ 1 _ rfl; (with_reducible repeat (first | refine kN ?_ _ | refine kD ?_ | refine kA ?_ _)); refine blk_put (cs := #[.int .i64 0, .int .i64 0, .slice none 0 0, .slice none 0 0]) ?_ 0 _ rfl; (with_reducible repeat (first | refine kN ?_ _ | refine kD ?_ | refine kA ?_ _)); exact BK471.out) hb); have n8_ := Aside0.mk (bP (by repeat (first | (with_reducible first | exact HB.out | apply bA | apply bN | apply bD | refine bS ?_ GE449.out | refine bS ?_ GE471.out) | exact HB.out)) hb); clear HO455; clear HO458; clear HO461; clear HO467; clear HO470; clear BK449; clear BK471; clear HB; have HO455 := n0_; have HO458 := n1_; have HO461 := n2_; have HO467 := n3_; have HO470 := n4_; have HO474 := n5_; have BK449 := n6_; have BK471 := n7_; have HB := n8_; clear n0_ n1_ n2_ n3_ n4_ n5_ n6_ n7_ n8_; (try clear hb); (try clear hb2); (try clear hk); (try clear hi); (try clear ho0)))
  (try simp only [Act.put, sI, sZ, sS])
  go_cut [40] (fun v40 wc => ∃ (kq : Nat) (x40_10 : Bool), v40 = .bool x40_10 ∧ Aside0 (laws_FnExactDeadStates.j0 kq t459 t462 t472 t475 x40_10 a0_0 a0_1 l0_2 l0_3 t463 t464 t465 t468 = some r) ∧ Aside0 (kq ≤ k) ∧ Aside0 (Kd.R (Kd.int .i64) 2 wc w.heap.size (fun k_ => some k_ ≠ (v473 : Value).ownBlock ∧ some k_ ≠ ((.slice Ao25 t465.length co25) : Value).ownBlock) v460 t459) ∧ Aside0 (Kd.R (Kd.int .i64) 2 wc w.heap.size (fun k_ => some k_ ≠ (v460 : Value).ownBlock ∧ some k_ ≠ ((.slice Ao25 t465.length co25) : Value).ownBlock) v473 t472) ∧ Aside0 (Kd.R (Kd.int .i64) 2 wc w.heap.size (fun k_ => some k_ ≠ (v460 : Value).ownBlock ∧ some k_ ≠ (v473 : Value).ownBlock) (.slice Ao25 t465.length co25) t465) ∧ Aside0 (Kd.R k67 67 wc w.heap.size (fun _ => True) (.slice Ao26 t468.length co26) t468) ∧ Aside0 (wc.heap[gb449]? = some (.cells #[.int .i64 a0_0, .int .i64 a0_1, (.slice A0_2 l0_2.length c0_2), (.slice A0_3 l0_3.length c0_3)] 25 (0, 0))) ∧ Aside0 (wc.heap[gb471]? = some (.cells #[.int .i64 t463, .int .i64 t464, (.slice Ao25 t465.length co25), (.slice Ao26 t468.length co26)] 30 (0, 0))) ∧ Aside0 (Below w.heap.size w wc))
  case first =>
   have H := HC11.out
   clear HC11
   replace H := Option.bind_eq_some_iff.mp H
   obtain ⟨t476, A280, H⟩ := H
   replace H : (if t476 = true then (laws_FnExactDeadStates.j0 k t459 t462 t472 t475 (t475 != t462) a0_0 a0_1 l0_2 l0_3 t463 t464 t465 t468) else (laws_FnExactDeadStates.j0 k t459 t462 t472 t475 true a0_0 a0_1 l0_2 l0_3 t463 t464 t465 t468)) = some r := H
   have A28 := Aside0.mk A280
   clear A280
   by_cases c29 : t476 = true
   ·subst c29
    have H1 : (laws_FnExactDeadStates.j0 k t459 t462 t472 t475 (t475 != t462) a0_0 a0_1 l0_2 l0_3 t463 t464 t465 t468) = some r := by rw [if_pos rfl] at H; exact H
    clear H
    have H := H1
    clear H1
    have H' := Aside0.mk H
    clear H
    obtain ⟨Ao30, co30, eo30⟩ := Kd.R_slice HO474.out
    subst eo30
    obtain ⟨Ao31, co31, eo31⟩ := Kd.R_slice HO461.out
    subst eo31
    go_wp2_with (first | ((with_reducible refine gC (f := 27) rfl ?_); refine goesL_ (some 34) rfl rfl Try.func27 (by kernel_rfl) rfl #[.slice Ao30 t472.length co30, .slice Ao31 t459.length co31] rfl (by (try simp only [List.map_toArray, List.map_cons, List.map_nil]); first | done | rfl | (simp only [List.length_drop, List.length_take]; rfl)) ?_; (with_reducible refine (laws_eqInt64S.calls k _ _ t472 _ _ t459 true _ ?side1 ?side2 ?side3 ?side4 A28.out).mono ?_); (case side1 => repeat (first | exact (Kd.R_reads' HO474.out).2.2 | (with_reducible refine cA ?_ _) | (with_reducible refine cN ?_ _) | (with_reducible refine cD ?_))); (case side2 => exact (Kd.R_reads' HO474.out).2.1); (case side3 => repeat (first | exact (Kd.R_reads' HO461.out).2.2 | (with_reducible refine cA ?_ _) | (with_reducible refine cN ?_ _) | (with_reducible refine cD ?_))); (case side4 => exact (Kd.R_reads' HO461.out).2.1); rintro e w' ⟨rfl, ⟨nd, rfl⟩⟩; refine ⟨_, rfl, ?_⟩))
    go_meet
    case rel => exact ⟨_, ((t475 != t462)), (by first | rfl | (simp; done) | (simp [*]; done)), H', ⟨by first | omega | exact Nat.le_refl _⟩, ⟨by (with_reducible repeat (first | apply rA | apply rN | apply rD)); exact rM HO461.out (fun _ hk => ⟨hk.2, hk.1.2⟩)⟩, ⟨by (with_reducible repeat (first | apply rA | apply rN | apply rD)); exact rM HO474.out (fun _ hk => ⟨hk.1.2, hk.2⟩)⟩, ⟨by (with_reducible repeat (first | apply rA | apply rN | apply rD)); exact rM HO467.out (fun _ hk => ⟨hk.1.2, hk.2⟩)⟩, ⟨by (with_reducible repeat (first | apply rA | apply rN | apply rD)); exact rM HO470.out (fun _ hk => trivial)⟩, ⟨by (with_reducible repeat (first | refine kN ?_ _ | refine kD ?_ | refine kA ?_ _)); exact BK449.out⟩, ⟨by (with_reducible repeat (first | refine kN ?_ _ | refine kD ?_ | refine kA ?_ _)); exact BK471.out⟩, ⟨by repeat (first | (with_reducible first | exact HB.out | apply bA | apply bN | apply bD | refine bS ?_ GE449.out | refine bS ?_ GE471.out) | exact HB.out)⟩⟩
   ·replace c29 := Bool.eq_false_iff.mpr c29
    subst c29
    have H1 : (laws_FnExactDeadStates.j0 k t459 t462 t472 t475 true a0_0 a0_1 l0_2 l0_3 t463 t464 t465 t468) = some r := by rw [if_neg (show ¬ (false = true) by decide)] at H; exact H
    clear H
    have H := H1
    clear H1
    have H' := Aside0.mk H
    clear H
    obtain ⟨Ao32, co32, eo32⟩ := Kd.R_slice HO474.out
    subst eo32
    obtain ⟨Ao33, co33, eo33⟩ := Kd.R_slice HO461.out
    subst eo33
    go_wp2_with (first | ((with_reducible refine gC (f := 27) rfl ?_); refine goesL_ (some 34) rfl rfl Try.func27 (by kernel_rfl) rfl #[.slice Ao32 t472.length co32, .slice Ao33 t459.length co33] rfl (by (try simp only [List.map_toArray, List.map_cons, List.map_nil]); first | done | rfl | (simp only [List.length_drop, List.length_take]; rfl)) ?_; (with_reducible refine (laws_eqInt64S.calls k _ _ t472 _ _ t459 false _ ?side1 ?side2 ?side3 ?side4 A28.out).mono ?_); (case side1 => repeat (first | exact (Kd.R_reads' HO474.out).2.2 | (with_reducible refine cA ?_ _) | (with_reducible refine cN ?_ _) | (with_reducible refine cD ?_))); (case side2 => exact (Kd.R_reads' HO474.out).2.1); (case side3 => repeat (first | exact (Kd.R_reads' HO461.out).2.2 | (with_reducible refine cA ?_ _) | (with_reducible refine cN ?_ _) | (with_reducible refine cD ?_))); (case side4 => exact (Kd.R_reads' HO461.out).2.1); rintro e w' ⟨rfl, ⟨nd, rfl⟩⟩; refine ⟨_, rfl, ?_⟩))
    go_meet
    case rel => exact ⟨_, (true), (by first | rfl | (simp; done) | (simp [*]; done)), H', ⟨by first | omega | exact Nat.le_refl _⟩, ⟨by (with_reducible repeat (first | apply rA | apply rN | apply rD)); exact rM HO461.out (fun _ hk => ⟨hk.2, hk.1.2⟩)⟩, ⟨by (with_reducible repeat (first | apply rA | apply rN | apply rD)); exact rM HO474.out (fun _ hk => ⟨hk.1.2, hk.2⟩)⟩, ⟨by (with_reducible repeat (first | apply rA | apply rN | apply rD)); exact rM HO467.out (fun _ hk => ⟨hk.1.2, hk.2⟩)⟩, ⟨by (with_reducible repeat (first | apply rA | apply rN | apply rD)); exact rM HO470.out (fun _ hk => trivial)⟩, ⟨by (with_reducible repeat (first | refine kN ?_ _ | refine kD ?_ | refine kA ?_ _)); exact BK449.out⟩, ⟨by (with_reducible repeat (first | refine kN ?_ _ | refine kD ?_ | refine kA ?_ _)); exact BK471.out⟩, ⟨by repeat (first | (with_reducible first | exact HB.out | apply bA | apply bN | apply bD | refine bS ?_ GE449.out | refine bS ?_ GE471.out) | exact HB.out)⟩⟩
  case rest =>
   clear HC11
   try clear c1
   try clear c2
   try clear p2
   try clear c3
   try clear c3b0
   try clear c7
   try clear c15
   try clear c17
   try clear c23
   try clear c27
   try clear c28
   try clear c29
   try clear hcz13_0
   try clear hcz13_1
   try clear hcz13_2
   try clear hcz13_3
   try clear hcz15_0
   try clear hcz15_1
   try clear hcz15_2
   try clear hcz15_3
   try clear hcz20_0
   try clear hcz20_1
   try clear hcz20_2
   try clear hcz20_3
   try clear hcz24_0
   try clear hcz24_1
   try clear hcz24_2
   try clear hcz24_3
   try clear hcz5_0
   try clear hcz5_1
   try clear hcz5_2
   try clear hcz5_3
   try clear hfz13_0
   try clear hfz13_1
   try clear hfz13_2
   try clear hfz13_3
   try clear hfz15_0
   try clear hfz15_1
   try clear hfz15_2
   try clear hfz15_3
   try clear hfz20_0
   try clear hfz20_1
   try clear hfz20_2
   try clear hfz20_3
   try clear hfz24_0
   try clear hfz24_1
   try clear hfz24_2
   try clear hfz24_3
   try clear hfz5_0
   try clear hfz5_1
   try clear hfz5_2
   try clear hfz5_3
   obtain ⟨kq, x40_10, rfl, HA, HJ10, HO_4, HO_7, HO_472002, HO_472003, BK449, BK471, HB⟩ := hcut
   cases kq with
   | zero => exact absurd HA.out (by simp [laws_FnExactDeadStates.j0])
   | succ kj10 =>
    have H := HA.out
    clear HA
    simp only [laws_FnExactDeadStates.j0] at H
    by_cases c34 : x40_10 = true
    ·subst c34
     have H1 : (some false) = some r := by rw [if_pos rfl] at H; exact H
     clear H
     have H := H1
     clear H1
     obtain rfl := Option.some.inj H
     go_wp2
     go_ret
     exact ⟨by first | rfl | (simp [errW_none, errW_some] <;> rfl) | (simp [*, errW_none, errW_some] <;> rfl), by repeat (first | (with_reducible first | exact HB.out | apply bA | apply bN | apply bD | refine bS ?_ GE449.out | refine bS ?_ GE471.out) | exact HB.out)⟩
    ·replace c34 := Bool.eq_false_iff.mpr c34
     subst c34
     have H1 : ((laws_toGrammar.f kj10 a0_0 a0_1 l0_2 l0_3).bind fun bt477 => ((laws_eqGrammar.f kj10 t463 t464 t465 t468 bt477.1 bt477.2.1 bt477.2.2.1 bt477.2.2.2).bind fun t485 => (if t485 = true then ((laws_markGrammar.f kj10 t463 t464 t465 t468 1).bind fun bt486 => (if bt486.1 < 0 then (laws_FnExactDeadStates.j1 kj10 t459 t462 t472 true a0_0 a0_1 l0_2 l0_3) else ((laws_eqInt64S.f kj10 t472 t459).bind fun t489 => (if t489 = true then (laws_FnExactDeadStates.j1 kj10 t459 t462 t472 (t475 != t462) a0_0 a0_1 l0_2 l0_3) else (laws_FnExactDeadStates.j1 kj10 t459 t462 t472 true a0_0 a0_1 l0_2 l0_3))))) else (some false)))) = some r := by rw [if_neg (show ¬ (false = true) by decide)] at H; exact H
     clear H
     have H := H1
     clear H1
     replace H := Option.bind_eq_some_iff.mp H
     obtain ⟨⟨t477, t478, t479, t482⟩, A350, H⟩ := H
     replace H : ((laws_eqGrammar.f kj10 t463 t464 t465 t468 t477 t478 t479 t482).bind fun t485 => (if t485 = true then ((laws_markGrammar.f kj10 t463 t464 t465 t468 1).bind fun bt486 => (if bt486.1 < 0 then (laws_FnExactDeadStates.j1 kj10 t459 t462 t472 true a0_0 a0_1 l0_2 l0_3) else ((laws_eqInt64S.f kj10 t472 t459).bind fun t489 => (if t489 = true then (laws_FnExactDeadStates.j1 kj10 t459 t462 t472 (t475 != t462) a0_0 a0_1 l0_2 l0_3) else (laws_FnExactDeadStates.j1 kj10 t459 t462 t472 true a0_0 a0_1 l0_2 l0_3))))) else (some false))) = some r := H
     have A35 := Aside0.mk A350
     clear A350
     replace H := Option.bind_eq_some_iff.mp H
     obtain ⟨t485, A360, H⟩ := H
     replace H : (if t485 = true then ((laws_markGrammar.f kj10 t463 t464 t465 t468 1).bind fun bt486 => (if bt486.1 < 0 then (laws_FnExactDeadStates.j1 kj10 t459 t462 t472 true a0_0 a0_1 l0_2 l0_3) else ((laws_eqInt64S.f kj10 t472 t459).bind fun t489 => (if t489 = true then (laws_FnExactDeadStates.j1 kj10 t459 t462 t472 (t475 != t462) a0_0 a0_1 l0_2 l0_3) else (laws_FnExactDeadStates.j1 kj10 t459 t462 t472 true a0_0 a0_1 l0_2 l0_3))))) else (some false)) = some r := H
     have A36 := Aside0.mk A360
     clear A360
     by_cases c37 : t485 = true
     ·subst c37
      have H1 : ((laws_markGrammar.f kj10 t463 t464 t465 t468 1).bind fun bt486 => (if bt486.1 < 0 then (laws_FnExactDeadStates.j1 kj10 t459 t462 t472 true a0_0 a0_1 l0_2 l0_3) else ((laws_eqInt64S.f kj10 t472 t459).bind fun t489 => (if t489 = true then (laws_FnExactDeadStates.j1 kj10 t459 t462 t472 (t475 != t462) a0_0 a0_1 l0_2 l0_3) else (laws_FnExactDeadStates.j1 kj10 t459 t462 t472 true a0_0 a0_1 l0_2 l0_3))))) = some r := by rw [if_pos rfl] at H; exact H
      clear H
      have H := H1
      clear H1
      replace H := Option.bind_eq_some_iff.mp H
      obtain ⟨⟨t486, t487, t488⟩, A380, H⟩ := H
      replace H : (if t486 < 0 then (laws_FnExactDeadStates.j1 kj10 t459 t462 t472 true a0_0 a0_1 l0_2 l0_3) else ((laws_eqInt64S.f kj10 t472 t459).bind fun t489 => (if t489 = true then (laws_FnExactDeadStates.j1 kj10 t459 t462 t472 (t475 != t462) a0_0 a0_1 l0_2 l0_3) else (laws_FnExactDeadStates.j1 kj10 t459 t462 t472 true a0_0 a0_1 l0_2 l0_3)))) = some r := H
      have A38 := Aside0.mk A380
      clear A380
      have HC39 := Aside0.mk H
      clear H
      try go_wp2
      have n0_ := Aside0.mk (rD HO_4.out)
      have n1_ := Aside0.mk (rD HO_7.out)
      have n2_ := Aside0.mk (rD HO_472002.out)
      have n3_ := Aside0.mk (rD HO_472003.out)
      have n4_ := Aside0.mk (kD BK449.out)
      have n5_ := Aside0.mk (kD BK471.out)
      have n6_ := Aside0.mk (bD HB.out)
      clear HO_4
      clear HO_7
      clear HO_472002
      clear HO_472003
      clear BK449
      clear BK471
      clear HB
      have HO_4 := n0_
      have HO_7 := n1_
      have HO_472002 := n2_
      have HO_472003 := n3_
      have BK449 := n4_
      have BK471 := n5_
      have HB := n6_
      clear n0_ n1_ n2_ n3_ n4_ n5_ n6_
      refine start_ (n := 5) (S := fun w' => w'.cell? ⟨gb471, 0, none⟩ = some (.int .i64 t463) ∧ w'.cell? ⟨gb471, 1, none⟩ = some (.int .i64 t464) ∧ w'.cell? ⟨gb471, 2, none⟩ = some (.slice Ao25 t465.length co25) ∧ w'.cell? ⟨gb471, 3, none⟩ = some (.slice Ao26 t468.length co26) ∧ w'.cell? ⟨gb449, 0, none⟩ = some (.int .i64 a0_0) ∧ w'.cell? ⟨gb449, 1, none⟩ = some (.int .i64 a0_1) ∧ w'.cell? ⟨gb449, 2, none⟩ = some (.slice A0_2 l0_2.length c0_2) ∧ w'.cell? ⟨gb449, 3, none⟩ = some (.slice A0_3 l0_3.length c0_3)) (ds := []) #[F,F,F,F,F] (by kernel_rfl) rfl rfl ⟨(kC BK471.out 0).trans rfl, (kC BK471.out 1).trans rfl, (kC BK471.out 2).trans rfl, (kC BK471.out 3).trans rfl, (kC BK449.out 0).trans rfl, (kC BK449.out 1).trans rfl, (kC BK449.out 2).trans rfl, (kC BK449.out 3).trans rfl⟩ (fun hHeld => ?_)
      generalize wc.drew = w40 at HO_4 HO_7 HO_472002 HO_472003 BK449 BK471 HB hHeld ⊢
      refine take_ (i := 0) (N := some 41) (v := ?_) (a' := ?_) #[T,F,F,F,F] rfl rfl (by kernel_rfl) (fun _ _ _ h => h) (Or.inl ⟨by rfl, ?_⟩) hHeld ?_ ?_; rotate_left; (·rintro w' ⟨s0, s1, s2, s3, s4, s5, s6, s7⟩; go_simp; with_reducible rfl); rotate_left; (·simp only [Act.put, sI, sZ, sS, iW, jW]; rfl)
      refine take_ (i := 1) (N := some 42) (v := ?_) (a' := ?_) #[T,T,F,F,F] rfl rfl (by kernel_rfl) (fun _ _ _ h => h) (Or.inl ⟨by rfl, ?_⟩) hHeld ?_ ?_; rotate_left; (·rintro w' ⟨s0, s1, s2, s3, s4, s5, s6, s7⟩; go_simp; with_reducible rfl); rotate_left; (·simp only [Act.put, sI, sZ, sS, iW, jW]; rfl)
      refine one_ (i := 2) (N := some 43) #[T,T,T,F,F] rfl rfl (by kernel_rfl) (by decide) (fun K hK => ?_)
      refine goes_ Try.func17 (by kernel_rfl) rfl #[.agg #[.int .i64 a0_0, .int .i64 a0_1, .slice A0_2 l0_2.length c0_2, .slice A0_3 l0_3.length c0_3]] (by rfl) rfl rfl (by (try simp only [List.map_toArray, List.map_cons, List.map_nil]); first | done | rfl | (simp only [List.length_drop, List.length_take]; rfl)) ?_
      with_reducible refine (laws_toGrammar.calls kj10 a0_0 a0_1 _ _ l0_2 _ _ l0_3 t477 t478 t479 t482 _ ?side1 ?side2 ?side3 ?side4 A35.out).mono ?_
      (case side1 => repeat (first | exact (cB HR0_2.out HB.out) | (with_reducible refine cA ?_ _) | (with_reducible refine cN ?_ _) | (with_reducible refine cD ?_)))
      (case side2 => exact HC0_2.out)
      (case side3 => repeat (first | exact (cB HR0_3.out HB.out) | (with_reducible refine cA ?_ _) | (with_reducible refine cN ?_ _) | (with_reducible refine cD ?_)))
      (case side4 => exact HC0_3.out)
      rintro e w41 ⟨v480, v483, rfl, ho0, ho1, hb⟩
      refine ⟨_, rfl, ?_⟩
      have n0_ := Aside0.mk (rE (by (with_reducible repeat (first | apply rA | apply rN | apply rD)); exact HO_4.out) (Kd.R_base ho0) hb)
      have n1_ := Aside0.mk (rE (by (with_reducible repeat (first | apply rA | apply rN | apply rD)); exact HO_7.out) (Kd.R_base ho0) hb)
      have n2_ := Aside0.mk (rE (by (with_reducible repeat (first | apply rA | apply rN | apply rD)); exact HO_472002.out) (Kd.R_base ho0) hb)
      have n3_ := Aside0.mk (rE (by (with_reducible repeat (first | apply rA | apply rN | apply rD)); exact HO_472003.out) (Kd.R_base ho1) hb)
      have n4_ := Aside0.mk (rL (rW (rW (rW ho0 (rT (by (with_reducible repeat (first | apply rA | apply rN | apply rD)); exact HO_4.out))) (rT (by (with_reducible repeat (first | apply rA | apply rN | apply rD)); exact HO_7.out))) (rT (by (with_reducible repeat (first | apply rA | apply rN | apply rD)); exact HO_472002.out))) (bZ (by repeat (first | (with_reducible first | exact HB.out | apply bA | apply bN | apply bD | refine bS ?_ GE449.out | refine bS ?_ GE471.out) | exact HB.out))))
      have n5_ := Aside0.mk (rL (rW ho1 (rT (by (with_reducible repeat (first | apply rA | apply rN | apply rD)); exact HO_472003.out))) (bZ (by repeat (first | (with_reducible first | exact HB.out | apply bA | apply bN | apply bD | refine bS ?_ GE449.out | refine bS ?_ GE471.out) | exact HB.out))))
      have n6_ := Aside0.mk (kB (g := gb449) (o := .cells #[.int .i64 a0_0, .int .i64 a0_1, .slice A0_2 l0_2.length c0_2, .slice A0_3 l0_3.length c0_3] 25 (0, 0)) (by (with_reducible repeat (first | refine kN ?_ _ | refine kD ?_ | refine kA ?_ _)); exact BK449.out) hb)
      have n7_ := Aside0.mk (kB (g := gb471) (o := .cells #[.int .i64 t463, .int .i64 t464, .slice Ao25 t465.length co25, .slice Ao26 t468.length co26] 30 (0, 0)) (by (with_reducible repeat (first | refine kN ?_ _ | refine kD ?_ | refine kA ?_ _)); exact BK471.out) hb)
      have n8_ := Aside0.mk (bP (by repeat (first | (with_reducible first | exact HB.out | apply bA | apply bN | apply bD | refine bS ?_ GE449.out | refine bS ?_ GE471.out) | exact HB.out)) hb)
      clear HO_4
      clear HO_7
      clear HO_472002
      clear HO_472003
      clear BK449
      clear BK471
      clear HB
      have HO_4 := n0_
      have HO_7 := n1_
      have HO_472002 := n2_
      have HO_472003 := n3_
      have HO481 := n4_
      have HO484 := n5_
      have BK449 := n6_
      have BK471 := n7_
      have HB := n8_
      clear n0_ n1_ n2_ n3_ n4_ n5_ n6_ n7_ n8_
      (try clear hb)
      (try clear hb2)
      (try clear hk)
      (try clear hi)
      (try clear ho0)
      (try clear ho1)
      obtain ⟨Ao42, co42, eo42⟩ := Kd.R_slice HO481.out
      (first | subst eo42 | (injection eo42 with f1_ f2_ f3_; have f4_ := f1_.symm; have f5_ := f3_.symm; clear f1_ f2_ f3_; subst f4_; subst f5_))
      obtain ⟨Ao43, co43, eo43⟩ := Kd.R_slice HO484.out
      (first | subst eo43 | (injection eo43 with f1_ f2_ f3_; have f4_ := f1_.symm; have f5_ := f3_.symm; clear f1_ f2_ f3_; subst f4_; subst f5_))
      refine hK.out _ _ ⟨(kC BK471.out 0).trans rfl, (kC BK471.out 1).trans rfl, (kC BK471.out 2).trans rfl, (kC BK471.out 3).trans rfl, (kC BK449.out 0).trans rfl, (kC BK449.out 1).trans rfl, (kC BK449.out 2).trans rfl, (kC BK449.out 3).trans rfl⟩ (fun hHeld => ?_)
      clear hK K
      refine norm_ (a' := ?_) ?_ ?_
      rotate_left
      ·show Act.put _ (some 43) _ = _
       simp only [Act.put, sI, sZ, sS, iW, jW]
       rfl
      refine one_ (i := 3) (N := some 44) #[T,T,T,T,F] rfl rfl (by kernel_rfl) (by decide) (fun K hK => ?_)
      refine goes_ Try.func19 (by kernel_rfl) rfl #[.agg #[.int .i64 t463, .int .i64 t464, .slice Ao25 t465.length co25, .slice Ao26 t468.length co26], .agg #[.int .i64 t477, .int .i64 t478, .slice Ao42 t479.length co42, .slice Ao43 t482.length co43]] (by rfl) rfl rfl (by (try simp only [List.map_toArray, List.map_cons, List.map_nil]); first | done | rfl | (simp only [List.length_drop, List.length_take]; rfl)) ?_
      with_reducible refine (laws_eqGrammar.calls kj10 t463 t464 _ _ t465 _ _ t468 t477 t478 _ _ t479 _ _ t482 true _ ?side1 ?side2 ?side3 ?side4 ?side5 ?side6 ?side7 ?side8 A36.out).mono ?_
      (case side1 => repeat (first | exact (Kd.R_reads' HO_472002.out).2.2 | (with_reducible refine cA ?_ _) | (with_reducible refine cN ?_ _) | (with_reducible refine cD ?_)))
      (case side2 => exact (Kd.R_reads' HO_472002.out).2.1)
      (case side3 => repeat (first | exact (Kd.R_reads' HO_472003.out).2.2 | (with_reducible refine cA ?_ _) | (with_reducible refine cN ?_ _) | (with_reducible refine cD ?_)))
      (case side4 => exact (Kd.R_reads' HO_472003.out).2.1)
      (case side5 => repeat (first | exact (Kd.R_reads' HO481.out).2.2 | (with_reducible refine cA ?_ _) | (with_reducible refine cN ?_ _) | (with_reducible refine cD ?_)))
      (case side6 => exact (Kd.R_reads' HO481.out).2.1)
      (case side7 => repeat (first | exact (Kd.R_reads' HO484.out).2.2 | (with_reducible refine cA ?_ _) | (with_reducible refine cN ?_ _) | (with_reducible refine cD ?_)))
      (case side8 => exact (Kd.R_reads' HO484.out).2.1)
      rintro e w44 ⟨rfl, hb⟩
      refine ⟨_, rfl, ?_⟩
      have n0_ := Aside0.mk (rB (by (with_reducible repeat (first | apply rA | apply rN | apply rD)); exact HO_4.out) hb)
      have n1_ := Aside0.mk (rB (by (with_reducible repeat (first | apply rA | apply rN | apply rD)); exact HO_7.out) hb)
      have n2_ := Aside0.mk (rB (by (with_reducible repeat (first | apply rA | apply rN | apply rD)); exact HO_472002.out) hb)
      have n3_ := Aside0.mk (rB (by (with_reducible repeat (first | apply rA | apply rN | apply rD)); exact HO_472003.out) hb)
      have n4_ := Aside0.mk (rB (by (with_reducible repeat (first | apply rA | apply rN | apply rD)); exact HO481.out) hb)
      have n5_ := Aside0.mk (rB (by (with_reducible repeat (first | apply rA | apply rN | apply rD)); exact HO484.out) hb)
      have n6_ := Aside0.mk (kB (g := gb449) (o := .cells #[.int .i64 a0_0, .int .i64 a0_1, .slice A0_2 l0_2.length c0_2, .slice A0_3 l0_3.length c0_3] 25 (0, 0)) (by (with_reducible repeat (first | refine kN ?_ _ | refine kD ?_ | refine kA ?_ _)); exact BK449.out) hb)
      have n7_ := Aside0.mk (kB (g := gb471) (o := .cells #[.int .i64 t463, .int .i64 t464, .slice Ao25 t465.length co25, .slice Ao26 t468.length co26] 30 (0, 0)) (by (with_reducible repeat (first | refine kN ?_ _ | refine kD ?_ | refine kA ?_ _)); exact BK471.out) hb)
      have n8_ := Aside0.mk (bP (by repeat (first | (with_reducible first | exact HB.out | apply bA | apply bN | apply bD | refine bS ?_ GE449.out | refine bS ?_ GE471.out) | exact HB.out)) hb)
      clear HO_4
      clear HO_7
      clear HO_472002
      clear HO_472003
      clear HO481
      clear HO484
      clear BK449
      clear BK471
      clear HB
      have HO_4 := n0_
      have HO_7 := n1_
      have HO_472002 := n2_
      have HO_472003 := n3_
      have HO481 := n4_
      have HO484 := n5_
      have BK449 := n6_
      have BK471 := n7_
      have HB := n8_
      clear n0_ n1_ n2_ n3_ n4_ n5_ n6_ n7_ n8_
      (try clear hb)
      (try clear hb2)
      (try clear hk)
      (try clear hi)
      refine hK.out _ _ ⟨(kC BK471.out 0).trans rfl, (kC BK471.out 1).trans rfl, (kC BK471.out 2).trans rfl, (kC BK471.out 3).trans rfl, (kC BK449.out 0).trans rfl, (kC BK449.out 1).trans rfl, (kC BK449.out 2).trans rfl, (kC BK449.out 3).trans rfl⟩ (fun hHeld => ?_)
      clear hK K
      refine norm_ (a' := ?_) ?_ ?_
      rotate_left
      ·show Act.put _ (some 44) _ = _
       simp only [Act.put, sI, sZ, sS, iW, jW]
       rfl
      refine pure_ (i := 4) (N := some 45) (v := ?_) (a' := ?_) #[T,T,T,T,T] rfl rfl (by kernel_rfl) (fun _ _ _ h => h) (Or.inl ⟨by rfl, ?_⟩) ?_ ?_; rotate_left; (·intro w'; go_simp; with_reducible rfl); rotate_left; (·simp only [Act.put, sI, sZ, sS, iW, jW]; rfl)
      refine done_ (by kernel_rfl) ?_
      have hnb45 := NB471_449.out
      have hnc45 := NB449_471.out
      have hcz46_0 : w44.cell? ⟨gb471, 0, none⟩ = some (.int .i64 t463) := (kC BK471.out 0).trans rfl
      have hcz46_1 : w44.cell? ⟨gb471, 1, none⟩ = some (.int .i64 t464) := (kC BK471.out 1).trans rfl
      have hcz46_2 : w44.cell? ⟨gb471, 2, none⟩ = some (.slice Ao25 t465.length co25) := (kC BK471.out 2).trans rfl
      have hcz46_3 : w44.cell? ⟨gb471, 3, none⟩ = some (.slice Ao26 t468.length co26) := (kC BK471.out 3).trans rfl
      have hfz46_0 := blk_frozen BK471.out 0
      have hfz46_1 := blk_frozen BK471.out 1
      have hfz46_2 := blk_frozen BK471.out 2
      have hfz46_3 := blk_frozen BK471.out 3
      go_upto_region 14 with (first | ((with_reducible refine gC (f := 30) rfl ?_); refine goesL_ (some 48) rfl rfl Try.func30 (by kernel_rfl) rfl #[.agg #[.int .i64 t463, .int .i64 t464, .slice Ao25 t465.length co25, .slice Ao26 t468.length co26], .int .i64 1] rfl (by (try simp only [List.map_toArray, List.map_cons, List.map_nil]); first | done | rfl | (simp only [List.length_drop, List.length_take]; rfl)) ?_; (with_reducible refine (laws_markGrammar.calls kj10 t463 t464 (fun k_ => some k_ = (.slice Ao25 t465.length co25 : Value).ownBlock) (.slice Ao25 t465.length co25) t465 (fun k_ => some k_ = (.slice Ao26 t468.length co26 : Value).ownBlock) (.slice Ao26 t468.length co26) t468 1 t486 t487 t488 w _ ?side1 ?side2 ?side3 A38.out).mono ?_); (case side1 => repeat (first | (with_reducible first | exact HB.out | apply bA | apply bN | apply bD | refine bS ?_ GE449.out | refine bS ?_ GE471.out) | exact HB.out)); (case side2 => exact Kd.R_tight rfl HO_472002.out); (case side3 => exact Kd.R_tight rfl HO_472003.out); rintro e w47 ⟨rfl, hy0, hy1, hb, hkp⟩; refine ⟨_, rfl, ?_⟩; have n0_ := Aside0.mk (rM (ok' := fun k_ => some k_ ≠ (v473 : Value).ownBlock ∧ some k_ ≠ (.slice Ao25 t465.length co25 : Value).ownBlock ∧ some k_ ≠ (.slice Ao42 t479.length co42 : Value).ownBlock) (Kd.R_keptB ((Kd.R_apart' HO_4.out (Kd.R_typed HO_472003.out) (by decide))) hkp (fun k_ hk_ hs_ => Or.elim hs_ (fun e_ => (hk_.1.1.2) e_) (fun e_ => (hk_.2) e_))) (fun k_ hk_ => ⟨hk_.1.1.1.1, hk_.1.1.1.2, hk_.1.1.2⟩)); have n1_ := Aside0.mk (rM (ok' := fun k_ => some k_ ≠ (v460 : Value).ownBlock ∧ some k_ ≠ (.slice Ao25 t465.length co25 : Value).ownBlock ∧ some k_ ≠ (.slice Ao42 t479.length co42 : Value).ownBlock) (Kd.R_keptB ((Kd.R_apart' HO_7.out (Kd.R_typed HO_472003.out) (by decide))) hkp (fun k_ hk_ hs_ => Or.elim hs_ (fun e_ => (hk_.1.1.2) e_) (fun e_ => (hk_.2) e_))) (fun k_ hk_ => ⟨hk_.1.1.1.1, hk_.1.1.1.2, hk_.1.1.2⟩)); have n2_ := Aside0.mk (Kd.R_reok rfl hy0 (fun k_ e_ => HO_472002.out.1 k_ e_)); have n3_ := Aside0.mk (Kd.R_reok rfl hy1 (fun k_ e_ => HO_472003.out.1 k_ e_)); have n4_ := Aside0.mk (blk_kept (by (with_reducible repeat (first | refine kN ?_ _ | refine kD ?_ | refine kA ?_ _)); exact BK449.out) hkp (fun hs_ => Or.elim hs_ (fun e_ => (fun e_ => (Kd.R_ne HO_472002.out BK449.out (by decide)) e_) e_) (fun e_ => (fun e_ => (Kd.R_ne HO_472003.out BK449.out (by decide)) e_) e_))); have n5_ := Aside0.mk (blk_kept (by (with_reducible repeat (first | refine kN ?_ _ | refine kD ?_ | refine kA ?_ _)); exact BK471.out) hkp (fun hs_ => Or.elim hs_ (fun e_ => (fun e_ => (Kd.R_ne HO_472002.out BK471.out (by decide)) e_) e_) (fun e_ => (fun e_ => (Kd.R_ne HO_472003.out BK471.out (by decide)) e_) e_))); have n6_ := Aside0.mk (rM (ok' := fun k_ => some k_ ≠ (v460 : Value).ownBlock ∧ some k_ ≠ (v473 : Value).ownBlock ∧ some k_ ≠ (.slice Ao25 t465.length co25 : Value).ownBlock) (Kd.R_keptB ((Kd.R_apart' HO481.out (Kd.R_typed HO_472003.out) (by decide))) hkp (fun k_ hk_ hs_ => Or.elim hs_ (fun e_ => (hk_.1.2) e_) (fun e_ => (hk_.2) e_))) (fun k_ hk_ => ⟨hk_.1.1.1.1.2, hk_.1.1.1.2, hk_.1.1.2⟩)); have n7_ := Aside0.mk (rM (ok' := fun k_ => some k_ ≠ (.slice Ao26 t468.length co26 : Value).ownBlock) (Kd.R_keptB ((Kd.R_apart' HO484.out (Kd.R_typed HO_472002.out) (by decide))) hkp (fun k_ hk_ hs_ => Or.elim hs_ (fun e_ => (hk_.2) e_) (fun e_ => (hk_.1.2) e_))) (fun k_ hk_ => hk_.1.1.2)); have n8_ := Aside0.mk (hb); clear HO_4; clear HO_7; clear HO_472002; clear HO_472003; clear BK449; clear BK471; clear HO481; clear HO484; clear HB; have HO_4 := n0_; have HO_7 := n1_; have HO_472002 := n2_; have HO_472003 := n3_; have BK449 := n4_; have BK471 := n5_; have HO481 := n6_; have HO484 := n7_; have HB := n8_; clear n0_ n1_ n2_ n3_ n4_ n5_ n6_ n7_ n8_; (try clear hb); (try clear hkp); (try clear hy0); (try clear hy1)))
      (try simp only [Act.put, sI, sZ, sS])
      go_cut [61] (fun v61 wc => ∃ (kq : Nat) (x61_38 : Bool), v61 = .bool x61_38 ∧ Aside0 (laws_FnExactDeadStates.j1 kq t459 t462 t472 x61_38 a0_0 a0_1 l0_2 l0_3 = some r) ∧ Aside0 (kq ≤ kj10) ∧ Aside0 (Kd.R (Kd.int .i64) 2 wc w.heap.size (fun k_ => some k_ ≠ (v473 : Value).ownBlock ∧ some k_ ≠ ((.slice Ao25 t465.length co25) : Value).ownBlock) v460 t459) ∧ Aside0 (Kd.R (Kd.int .i64) 2 wc w.heap.size (fun k_ => some k_ ≠ (v460 : Value).ownBlock ∧ some k_ ≠ ((.slice Ao25 t465.length co25) : Value).ownBlock) v473 t472) ∧ Aside0 (Kd.R (Kd.int .i64) 2 wc w.heap.size (fun k_ => some k_ ≠ (v460 : Value).ownBlock ∧ some k_ ≠ (v473 : Value).ownBlock) (.slice Ao25 t465.length co25) t487) ∧ Aside0 (Kd.R k67 67 wc w.heap.size (fun _ => True) (.slice Ao26 t468.length co26) t488) ∧ Aside0 (wc.heap[gb449]? = some (.cells #[.int .i64 a0_0, .int .i64 a0_1, (.slice A0_2 l0_2.length c0_2), (.slice A0_3 l0_3.length c0_3)] 25 (0, 0))) ∧ Aside0 (wc.heap[gb471]? = some (.cells #[.int .i64 t463, .int .i64 t464, (.slice Ao25 t465.length co25), (.slice Ao26 t468.length co26)] 30 (0, 0))) ∧ Aside0 (Below w.heap.size w wc))
      case first =>
       have H := HC39.out
       clear HC39
       by_cases c48 : t486 < 0
       ·rw [if_pos c48] at H
        have c48b0 : decide (t486 < 0) = true := decide_eq_true c48
        clear c48
        (first | rw [c48b0] | (simp only [iW, jW]; rw [c48b0]) | skip)
        have H' := Aside0.mk H
        clear H
        go_wp2
        go_meet
        case rel => exact ⟨_, (true), (by first | rfl | (simp; done) | (simp [*]; done)), H', ⟨by have := HJ10.out; first | omega | exact Nat.le_refl _⟩, ⟨by (with_reducible repeat (first | apply rA | apply rN | apply rD)); exact rM HO_4.out (fun _ hk => ⟨hk.1, hk.2.1⟩)⟩, ⟨by (with_reducible repeat (first | apply rA | apply rN | apply rD)); exact rM HO_7.out (fun _ hk => ⟨hk.1, hk.2.1⟩)⟩, ⟨by (with_reducible repeat (first | apply rA | apply rN | apply rD)); exact rM HO_472002.out (fun _ hk => ⟨hk.1.1, hk.1.2⟩)⟩, ⟨by (with_reducible repeat (first | apply rA | apply rN | apply rD)); exact rM HO_472003.out (fun _ hk => trivial)⟩, ⟨by (with_reducible repeat (first | refine kN ?_ _ | refine kD ?_ | refine kA ?_ _)); exact BK449.out⟩, ⟨by (with_reducible repeat (first | refine kN ?_ _ | refine kD ?_ | refine kA ?_ _)); exact BK471.out⟩, ⟨by repeat (first | (with_reducible first | exact HB.out | apply bA | apply bN | apply bD | refine bS ?_ GE449.out | refine bS ?_ GE471.out) | exact HB.out)⟩⟩
       ·rw [if_neg c48] at H
        have c48b0 : decide (t486 < 0) = false := decide_eq_false c48
        clear c48
        (first | rw [c48b0] | (simp only [iW, jW]; rw [c48b0]) | skip)
        replace H := Option.bind_eq_some_iff.mp H
        obtain ⟨t489, A490, H⟩ := H
        replace H : (if t489 = true then (laws_FnExactDeadStates.j1 kj10 t459 t462 t472 (t475 != t462) a0_0 a0_1 l0_2 l0_3) else (laws_FnExactDeadStates.j1 kj10 t459 t462 t472 true a0_0 a0_1 l0_2 l0_3)) = some r := H
        have A49 := Aside0.mk A490
        clear A490
        by_cases c50 : t489 = true
        ·subst c50
         have H1 : (laws_FnExactDeadStates.j1 kj10 t459 t462 t472 (t475 != t462) a0_0 a0_1 l0_2 l0_3) = some r := by rw [if_pos rfl] at H; exact H
         clear H
         have H := H1
         clear H1
         have H' := Aside0.mk H
         clear H
         obtain ⟨Ao51, co51, eo51⟩ := Kd.R_slice HO_7.out
         subst eo51
         obtain ⟨Ao52, co52, eo52⟩ := Kd.R_slice HO_4.out
         subst eo52
         go_wp2_with (first | (go_at_call 27; (with_reducible refine (laws_eqInt64S.calls kj10 _ _ t472 _ _ t459 true _ ?side1 ?side2 ?side3 ?side4 A49.out).mono ?_); (case side1 => repeat (first | exact (Kd.R_reads' HO_7.out).2.2 | (with_reducible refine cA ?_ _) | (with_reducible refine cN ?_ _) | (with_reducible refine cD ?_))); (case side2 => exact (Kd.R_reads' HO_7.out).2.1); (case side3 => repeat (first | exact (Kd.R_reads' HO_4.out).2.2 | (with_reducible refine cA ?_ _) | (with_reducible refine cN ?_ _) | (with_reducible refine cD ?_))); (case side4 => exact (Kd.R_reads' HO_4.out).2.1); rintro e w' ⟨rfl, ⟨nd, rfl⟩⟩))
         go_meet
         case rel => exact ⟨_, ((t475 != t462)), (by first | rfl | (simp; done) | (simp [*]; done)), H', ⟨by have := HJ10.out; first | omega | exact Nat.le_refl _⟩, ⟨by (with_reducible repeat (first | apply rA | apply rN | apply rD)); exact rM HO_4.out (fun _ hk => ⟨hk.1, hk.2.1⟩)⟩, ⟨by (with_reducible repeat (first | apply rA | apply rN | apply rD)); exact rM HO_7.out (fun _ hk => ⟨hk.1, hk.2.1⟩)⟩, ⟨by (with_reducible repeat (first | apply rA | apply rN | apply rD)); exact rM HO_472002.out (fun _ hk => ⟨hk.1.1, hk.1.2⟩)⟩, ⟨by (with_reducible repeat (first | apply rA | apply rN | apply rD)); exact rM HO_472003.out (fun _ hk => trivial)⟩, ⟨by (with_reducible repeat (first | refine kN ?_ _ | refine kD ?_ | refine kA ?_ _)); exact BK449.out⟩, ⟨by (with_reducible repeat (first | refine kN ?_ _ | refine kD ?_ | refine kA ?_ _)); exact BK471.out⟩, ⟨by repeat (first | (with_reducible first | exact HB.out | apply bA | apply bN | apply bD | refine bS ?_ GE449.out | refine bS ?_ GE471.out) | exact HB.out)⟩⟩
        ·replace c50 := Bool.eq_false_iff.mpr c50
         subst c50
         have H1 : (laws_FnExactDeadStates.j1 kj10 t459 t462 t472 true a0_0 a0_1 l0_2 l0_3) = some r := by rw [if_neg (show ¬ (false = true) by decide)] at H; exact H
         clear H
         have H := H1
         clear H1
         have H' := Aside0.mk H
         clear H
         obtain ⟨Ao53, co53, eo53⟩ := Kd.R_slice HO_7.out
         subst eo53
         obtain ⟨Ao54, co54, eo54⟩ := Kd.R_slice HO_4.out
         subst eo54
         go_wp2_with (first | (go_at_call 27; (with_reducible refine (laws_eqInt64S.calls kj10 _ _ t472 _ _ t459 false _ ?side1 ?side2 ?side3 ?side4 A49.out).mono ?_); (case side1 => repeat (first | exact (Kd.R_reads' HO_7.out).2.2 | (with_reducible refine cA ?_ _) | (with_reducible refine cN ?_ _) | (with_reducible refine cD ?_))); (case side2 => exact (Kd.R_reads' HO_7.out).2.1); (case side3 => repeat (first | exact (Kd.R_reads' HO_4.out).2.2 | (with_reducible refine cA ?_ _) | (with_reducible refine cN ?_ _) | (with_reducible refine cD ?_))); (case side4 => exact (Kd.R_reads' HO_4.out).2.1); rintro e w' ⟨rfl, ⟨nd, rfl⟩⟩))
         go_meet
         case rel => exact ⟨_, (true), (by first | rfl | (simp; done) | (simp [*]; done)), H', ⟨by have := HJ10.out; first | omega | exact Nat.le_refl _⟩, ⟨by (with_reducible repeat (first | apply rA | apply rN | apply rD)); exact rM HO_4.out (fun _ hk => ⟨hk.1, hk.2.1⟩)⟩, ⟨by (with_reducible repeat (first | apply rA | apply rN | apply rD)); exact rM HO_7.out (fun _ hk => ⟨hk.1, hk.2.1⟩)⟩, ⟨by (with_reducible repeat (first | apply rA | apply rN | apply rD)); exact rM HO_472002.out (fun _ hk => ⟨hk.1.1, hk.1.2⟩)⟩, ⟨by (with_reducible repeat (first | apply rA | apply rN | apply rD)); exact rM HO_472003.out (fun _ hk => trivial)⟩, ⟨by (with_reducible repeat (first | refine kN ?_ _ | refine kD ?_ | refine kA ?_ _)); exact BK449.out⟩, ⟨by (with_reducible repeat (first | refine kN ?_ _ | refine kD ?_ | refine kA ?_ _)); exact BK471.out⟩, ⟨by repeat (first | (with_reducible first | exact HB.out | apply bA | apply bN | apply bD | refine bS ?_ GE449.out | refine bS ?_ GE471.out) | exact HB.out)⟩⟩
      case rest =>
       clear HC39
       try clear c1
       try clear c2
       try clear p2
       try clear c3
       try clear c3b0
       try clear c4
       try clear c5
       try clear c7
       try clear c15
       try clear c17
       try clear c19
       try clear c23
       try clear c27
       try clear c28
       try clear c29
       try clear c30
       try clear c34
       try clear c37
       try clear c45
       try clear c48
       try clear c48b0
       try clear c50
       try clear hcz13_0
       try clear hcz13_1
       try clear hcz13_2
       try clear hcz13_3
       try clear hcz15_0
       try clear hcz15_1
       try clear hcz15_2
       try clear hcz15_3
       try clear hcz20_0
       try clear hcz20_1
       try clear hcz20_2
       try clear hcz20_3
       try clear hcz24_0
       try clear hcz24_1
       try clear hcz24_2
       try clear hcz24_3
       try clear hcz46_0
       try clear hcz46_1
       try clear hcz46_2
       try clear hcz46_3
       try clear hcz5_0
       try clear hcz5_1
       try clear hcz5_2
       try clear hcz5_3
       try clear hfz13_0
       try clear hfz13_1
       try clear hfz13_2
       try clear hfz13_3
       try clear hfz15_0
       try clear hfz15_1
       try clear hfz15_2
       try clear hfz15_3
       try clear hfz20_0
       try clear hfz20_1
       try clear hfz20_2
       try clear hfz20_3
       try clear hfz24_0
       try clear hfz24_1
       try clear hfz24_2
       try clear hfz24_3
       try clear hfz46_0
       try clear hfz46_1
       try clear hfz46_2
       try clear hfz46_3
       try clear hfz5_0
       try clear hfz5_1
       try clear hfz5_2
       try clear hfz5_3
       try clear p2
       obtain ⟨kq, x61_38, rfl, HA, HJ38, HO_4, HO_7, HO_472002, HO_472003, BK449, BK471, HB⟩ := hcut
       have hl472002_38 := (Kd.R_reads' HO_472002.out).1
       rw [hl472002_38] at HO_472002
       (try simp only [hl472002_38])
       (try simp only [hl472002_38] at BK449)
       (try simp only [hl472002_38] at BK471)
       (try simp only [hl472002_38] at HO_4)
       (try simp only [hl472002_38] at HO_7)
       (try simp only [hl472002_38] at HO_472003)
       have hl472003_38 := (Kd.R_reads' HO_472003.out).1
       rw [hl472003_38] at HO_472003
       (try simp only [hl472003_38])
       (try simp only [hl472003_38] at BK449)
       (try simp only [hl472003_38] at BK471)
       (try simp only [hl472003_38] at HO_4)
       (try simp only [hl472003_38] at HO_7)
       (try simp only [hl472003_38] at HO_472002)
       cases kq with
       | zero => exact absurd HA.out (by simp [laws_FnExactDeadStates.j1])
       | succ kj38 =>
        have H := HA.out
        clear HA
        simp only [laws_FnExactDeadStates.j1] at H
        by_cases c55 : x61_38 = true
        ·subst c55
         have H1 : (some false) = some r := by rw [if_pos rfl] at H; exact H
         clear H
         have H := H1
         clear H1
         obtain rfl := Option.some.inj H
         go_wp2
         go_ret
         exact ⟨by first | rfl | (simp [errW_none, errW_some] <;> rfl) | (simp [*, errW_none, errW_some] <;> rfl), by repeat (first | (with_reducible first | exact HB.out | apply bA | apply bN | apply bD | refine bS ?_ GE449.out | refine bS ?_ GE471.out) | exact HB.out)⟩
        ·replace c55 := Bool.eq_false_iff.mpr c55
         subst c55
         have H1 : ((laws_markInt64S.f kj38 t472 1).bind fun bt490 => ((laws_heldInt64S.f kj38 bt490.2 1).bind fun t492 => (if t492 < 0 then (some false) else (if t492 = bt490.1 then ((laws_toGrammar.f kj38 a0_0 a0_1 l0_2 l0_3).bind fun bt493 => ((impl_DeadStates.f kj38 bt493.1 bt493.2.1 bt493.2.2.1 bt493.2.2.2).bind fun bt501 => ((laws_eqInt64S.f kj38 bt501.1 t459).bind fun t505 => (if t505 = true then (laws_FnExactDeadStates.j2 kj38 bt490.2 bt490.1 (bt501.2 != t462)) else (laws_FnExactDeadStates.j2 kj38 bt490.2 bt490.1 true))))) else (some false))))) = some r := by rw [if_neg (show ¬ (false = true) by decide)] at H; exact H
         clear H
         have H := H1
         clear H1
         replace H := Option.bind_eq_some_iff.mp H
         obtain ⟨⟨t490, t491⟩, A560, H⟩ := H
         replace H : ((laws_heldInt64S.f kj38 t491 1).bind fun t492 => (if t492 < 0 then (some false) else (if t492 = t490 then ((laws_toGrammar.f kj38 a0_0 a0_1 l0_2 l0_3).bind fun bt493 => ((impl_DeadStates.f kj38 bt493.1 bt493.2.1 bt493.2.2.1 bt493.2.2.2).bind fun bt501 => ((laws_eqInt64S.f kj38 bt501.1 t459).bind fun t505 => (if t505 = true then (laws_FnExactDeadStates.j2 kj38 t491 t490 (bt501.2 != t462)) else (laws_FnExactDeadStates.j2 kj38 t491 t490 true))))) else (some false)))) = some r := H
         have A56 := Aside0.mk A560
         clear A560
         replace H := Option.bind_eq_some_iff.mp H
         obtain ⟨t492, A570, H⟩ := H
         replace H : (if t492 < 0 then (some false) else (if t492 = t490 then ((laws_toGrammar.f kj38 a0_0 a0_1 l0_2 l0_3).bind fun bt493 => ((impl_DeadStates.f kj38 bt493.1 bt493.2.1 bt493.2.2.1 bt493.2.2.2).bind fun bt501 => ((laws_eqInt64S.f kj38 bt501.1 t459).bind fun t505 => (if t505 = true then (laws_FnExactDeadStates.j2 kj38 t491 t490 (bt501.2 != t462)) else (laws_FnExactDeadStates.j2 kj38 t491 t490 true))))) else (some false))) = some r := H
         have A57 := Aside0.mk A570
         clear A570
         by_cases c58 : t492 < 0
         ·rw [if_pos c58] at H
          have c58b0 : decide (t492 < 0) = true := decide_eq_true c58
          clear c58
          obtain rfl := Option.some.inj H
          obtain ⟨Ao59, co59, eo59⟩ := Kd.R_slice HO_7.out
          subst eo59
          go_wp2_with (first | ((with_reducible refine gC (f := 31) rfl ?_); refine goesL_ (some 64) rfl rfl Try.func31 (by kernel_rfl) rfl #[.slice Ao59 t472.length co59, .int .i64 1] rfl (by (try simp only [List.map_toArray, List.map_cons, List.map_nil]); first | done | rfl | (simp only [List.length_drop, List.length_take]; rfl)) ?_; (with_reducible refine (laws_markInt64S.calls kj38 (fun k_ => some k_ = (.slice Ao59 t472.length co59 : Value).ownBlock) (.slice Ao59 t472.length co59) t472 1 t490 t491 w _ ?side1 ?side2 A56.out).mono ?_); (case side1 => repeat (first | (with_reducible first | exact HB.out | apply bA | apply bN | apply bD | refine bS ?_ GE449.out | refine bS ?_ GE471.out) | exact HB.out)); (case side2 => exact Kd.R_tight rfl HO_7.out); rintro e w60 ⟨rfl, hy0, hb, hkp⟩; refine ⟨_, rfl, ?_⟩; have n0_ := Aside0.mk (rM (ok' := fun k_ => some k_ ≠ (.slice Ao59 t472.length co59 : Value).ownBlock ∧ some k_ ≠ (.slice Ao25 t487.length co25 : Value).ownBlock) (Kd.R_keptB (HO_4.out) hkp (fun k_ hk_ hs_ => (hk_.1) hs_)) (fun k_ hk_ => ⟨hk_.1.1, hk_.1.2⟩)); have n1_ := Aside0.mk (Kd.R_reok rfl hy0 (fun k_ e_ => HO_7.out.1 k_ e_)); have n2_ := Aside0.mk (rM (ok' := fun k_ => some k_ ≠ (v460 : Value).ownBlock ∧ some k_ ≠ (.slice Ao59 t472.length co59 : Value).ownBlock) (Kd.R_keptB (HO_472002.out) hkp (fun k_ hk_ hs_ => (hk_.2) hs_)) (fun k_ hk_ => ⟨hk_.1.1, hk_.1.2⟩)); have n3_ := Aside0.mk (rM (ok' := fun k_ => True) (Kd.R_keptB ((Kd.R_apart' HO_472003.out (Kd.R_typed HO_7.out) (by decide))) hkp (fun k_ hk_ hs_ => (hk_.2) hs_)) (fun k_ hk_ => trivial)); have n4_ := Aside0.mk (blk_kept (by (with_reducible repeat (first | refine kN ?_ _ | refine kD ?_ | refine kA ?_ _)); exact BK449.out) hkp (fun hs_ => (fun e_ => (Kd.R_ne HO_7.out BK449.out (by decide)) e_) hs_)); have n5_ := Aside0.mk (blk_kept (by (with_reducible repeat (first | refine kN ?_ _ | refine kD ?_ | refine kA ?_ _)); exact BK471.out) hkp (fun hs_ => (fun e_ => (Kd.R_ne HO_7.out BK471.out (by decide)) e_) hs_)); have n6_ := Aside0.mk (hb); clear HO_4; clear HO_7; clear HO_472002; clear HO_472003; clear BK449; clear BK471; clear HB; have HO_4 := n0_; have HO_7 := n1_; have HO_472002 := n2_; have HO_472003 := n3_; have BK449 := n4_; have BK471 := n5_; have HB := n6_; clear n0_ n1_ n2_ n3_ n4_ n5_ n6_; (try clear hb); (try clear hkp); (try clear hy0)) | ((with_reducible refine gC (f := 32) rfl ?_); refine goesL_ (some 67) rfl rfl Try.func32 (by kernel_rfl) rfl #[.slice Ao59 t491.length co59, .int .i64 1] rfl (by (try simp only [List.map_toArray, List.map_cons, List.map_nil]); first | done | (rw [show t491.length = t472.length from (Kd.R_reads' HO_7.out).1.symm] <;> rfl) | rfl | (simp only [List.length_drop, List.length_take]; rfl)) ?_; (with_reducible refine (laws_heldInt64S.calls kj38 _ _ t491 1 t492 _ ?side1 ?side2 A57.out).mono ?_); (case side1 => repeat (first | exact (Kd.R_reads' HO_7.out).2.2 | (with_reducible refine cA ?_ _) | (with_reducible refine cN ?_ _) | (with_reducible refine cD ?_))); (case side2 => rw [show t491.length = t472.length from (Kd.R_reads' HO_7.out).1.symm]; exact (Kd.R_reads' HO_7.out).2.1); rintro e w' ⟨rfl, ⟨nd, rfl⟩⟩; refine ⟨_, rfl, ?_⟩))
          go_ret
          exact ⟨by first | rfl | (simp [errW_none, errW_some] <;> rfl) | (simp [*, errW_none, errW_some] <;> rfl), by repeat (first | (with_reducible first | exact HB.out | apply bA | apply bN | apply bD | refine bS ?_ GE449.out | refine bS ?_ GE471.out) | exact HB.out)⟩
         ·rw [if_neg c58] at H
          have c58b0 : decide (t492 < 0) = false := decide_eq_false c58
          clear c58
          by_cases c61 : t492 = t490
          ·rw [if_pos c61] at H
           have c61b0 : (t492 == t490) = true := beq_iff_eq.mpr c61
           have c61b1 : (t492 != t490) = false := bne_eq_false_iff_eq.mpr c61
           clear c61
           replace H := Option.bind_eq_some_iff.mp H
           obtain ⟨⟨t493, t494, t495, t498⟩, A620, H⟩ := H
           replace H : ((impl_DeadStates.f kj38 t493 t494 t495 t498).bind fun bt501 => ((laws_eqInt64S.f kj38 bt501.1 t459).bind fun t505 => (if t505 = true then (laws_FnExactDeadStates.j2 kj38 t491 t490 (bt501.2 != t462)) else (laws_FnExactDeadStates.j2 kj38 t491 t490 true)))) = some r := H
           have A62 := Aside0.mk A620
           clear A620
           replace H := Option.bind_eq_some_iff.mp H
           obtain ⟨⟨t501, t504⟩, A630, H⟩ := H
           replace H : ((laws_eqInt64S.f kj38 t501 t459).bind fun t505 => (if t505 = true then (laws_FnExactDeadStates.j2 kj38 t491 t490 (t504 != t462)) else (laws_FnExactDeadStates.j2 kj38 t491 t490 true))) = some r := H
           have A63 := Aside0.mk A630
           clear A630
           have HC64 := Aside0.mk H
           clear H
           obtain ⟨Ao65, co65, eo65⟩ := Kd.R_slice HO_7.out
           subst eo65
           go_upto_region 25 with (first | ((with_reducible refine gC (f := 31) rfl ?_); refine goesL_ (some 64) rfl rfl Try.func31 (by kernel_rfl) rfl #[.slice Ao65 t472.length co65, .int .i64 1] rfl (by (try simp only [List.map_toArray, List.map_cons, List.map_nil]); first | done | rfl | (simp only [List.length_drop, List.length_take]; rfl)) ?_; (with_reducible refine (laws_markInt64S.calls kj38 (fun k_ => some k_ = (.slice Ao65 t472.length co65 : Value).ownBlock) (.slice Ao65 t472.length co65) t472 1 t490 t491 w _ ?side1 ?side2 A56.out).mono ?_); (case side1 => repeat (first | (with_reducible first | exact HB.out | apply bA | apply bN | apply bD | refine bS ?_ GE449.out | refine bS ?_ GE471.out) | exact HB.out)); (case side2 => exact Kd.R_tight rfl HO_7.out); rintro e w66 ⟨rfl, hy0, hb, hkp⟩; refine ⟨_, rfl, ?_⟩; have n0_ := Aside0.mk (rM (ok' := fun k_ => some k_ ≠ (.slice Ao65 t472.length co65 : Value).ownBlock ∧ some k_ ≠ (.slice Ao25 t487.length co25 : Value).ownBlock) (Kd.R_keptB (HO_4.out) hkp (fun k_ hk_ hs_ => (hk_.1) hs_)) (fun k_ hk_ => ⟨hk_.1.1, hk_.1.2⟩)); have n1_ := Aside0.mk (Kd.R_reok rfl hy0 (fun k_ e_ => HO_7.out.1 k_ e_)); have n2_ := Aside0.mk (rM (ok' := fun k_ => some k_ ≠ (v460 : Value).ownBlock ∧ some k_ ≠ (.slice Ao65 t472.length co65 : Value).ownBlock) (Kd.R_keptB (HO_472002.out) hkp (fun k_ hk_ hs_ => (hk_.2) hs_)) (fun k_ hk_ => ⟨hk_.1.1, hk_.1.2⟩)); have n3_ := Aside0.mk (rM (ok' := fun k_ => True) (Kd.R_keptB ((Kd.R_apart' HO_472003.out (Kd.R_typed HO_7.out) (by decide))) hkp (fun k_ hk_ hs_ => (hk_.2) hs_)) (fun k_ hk_ => trivial)); have n4_ := Aside0.mk (blk_kept (by (with_reducible repeat (first | refine kN ?_ _ | refine kD ?_ | refine kA ?_ _)); exact BK449.out) hkp (fun hs_ => (fun e_ => (Kd.R_ne HO_7.out BK449.out (by decide)) e_) hs_)); have n5_ := Aside0.mk (blk_kept (by (with_reducible repeat (first | refine kN ?_ _ | refine kD ?_ | refine kA ?_ _)); exact BK471.out) hkp (fun hs_ => (fun e_ => (Kd.R_ne HO_7.out BK471.out (by decide)) e_) hs_)); have n6_ := Aside0.mk (hb); clear HO_4; clear HO_7; clear HO_472002; clear HO_472003; clear BK449; clear BK471; clear HB; have HO_4 := n0_; have HO_7 := n1_; have HO_472002 := n2_; have HO_472003 := n3_; have BK449 := n4_; have BK471 := n5_; have HB := n6_; clear n0_ n1_ n2_ n3_ n4_ n5_ n6_; (try clear hb); (try clear hkp); (try clear hy0)) | ((with_reducible refine gC (f := 32) rfl ?_); refine goesL_ (some 67) rfl rfl Try.func32 (by kernel_rfl) rfl #[.slice Ao65 t491.length co65, .int .i64 1] rfl (by (try simp only [List.map_toArray, List.map_cons, List.map_nil]); first | done | (rw [show t491.length = t472.length from (Kd.R_reads' HO_7.out).1.symm] <;> rfl) | rfl | (simp only [List.length_drop, List.length_take]; rfl)) ?_; (with_reducible refine (laws_heldInt64S.calls kj38 _ _ t491 1 t492 _ ?side1 ?side2 A57.out).mono ?_); (case side1 => repeat (first | exact (Kd.R_reads' HO_7.out).2.2 | (with_reducible refine cA ?_ _) | (with_reducible refine cN ?_ _) | (with_reducible refine cD ?_))); (case side2 => rw [show t491.length = t472.length from (Kd.R_reads' HO_7.out).1.symm]; exact (Kd.R_reads' HO_7.out).2.1); rintro e w' ⟨rfl, ⟨nd, rfl⟩⟩; refine ⟨_, rfl, ?_⟩; have hnb67 := NB449_471.out; have hnc67 := NB471_449.out; have hcz68_0 : w66.cell? ⟨gb449, 0, none⟩ = some (.int .i64 a0_0) := (kC BK449.out 0).trans rfl; have hcz68_1 : w66.cell? ⟨gb449, 1, none⟩ = some (.int .i64 a0_1) := (kC BK449.out 1).trans rfl; have hcz68_2 : w66.cell? ⟨gb449, 2, none⟩ = some (.slice A0_2 l0_2.length c0_2) := (kC BK449.out 2).trans rfl; have hcz68_3 : w66.cell? ⟨gb449, 3, none⟩ = some (.slice A0_3 l0_3.length c0_3) := (kC BK449.out 3).trans rfl; have hfz68_0 := blk_frozen BK449.out 0; have hfz68_1 := blk_frozen BK449.out 1; have hfz68_2 := blk_frozen BK449.out 2; have hfz68_3 := blk_frozen BK449.out 3) | ((with_reducible refine gC (f := 17) rfl ?_); refine goesL_ (some 75) rfl rfl Try.func17 (by kernel_rfl) rfl #[.agg #[.int .i64 a0_0, .int .i64 a0_1, .slice A0_2 l0_2.length c0_2, .slice A0_3 l0_3.length c0_3]] rfl (by (try simp only [List.map_toArray, List.map_cons, List.map_nil]); first | done | rfl | (simp only [List.length_drop, List.length_take]; rfl)) ?_; (with_reducible refine (laws_toGrammar.calls kj38 a0_0 a0_1 _ _ l0_2 _ _ l0_3 t493 t494 t495 t498 _ ?side1 ?side2 ?side3 ?side4 A62.out).mono ?_); (case side1 => repeat (first | exact (cB HR0_2.out (by repeat (first | (with_reducible first | exact HB.out | apply bA | apply bN | apply bD | refine bS ?_ GE449.out | refine bS ?_ GE471.out) | exact HB.out))) | (with_reducible refine cA ?_ _) | (with_reducible refine cN ?_ _) | (with_reducible refine cD ?_))); (case side2 => exact HC0_2.out); (case side3 => repeat (first | exact (cB HR0_3.out (by repeat (first | (with_reducible first | exact HB.out | apply bA | apply bN | apply bD | refine bS ?_ GE449.out | refine bS ?_ GE471.out) | exact HB.out))) | (with_reducible refine cA ?_ _) | (with_reducible refine cN ?_ _) | (with_reducible refine cD ?_))); (case side4 => exact HC0_3.out); rintro e w69 ⟨v496, v499, rfl, ho0, ho1, hb⟩; refine ⟨_, rfl, ?_⟩; have n0_ := Aside0.mk (rE (by (with_reducible repeat (first | apply rA | apply rN | apply rD)); exact HO_4.out) (Kd.R_base ho0) hb); have n1_ := Aside0.mk (rE (by (with_reducible repeat (first | apply rA | apply rN | apply rD)); exact HO_7.out) (Kd.R_base ho0) hb); have n2_ := Aside0.mk (rE (by (with_reducible repeat (first | apply rA | apply rN | apply rD)); exact HO_472002.out) (Kd.R_base ho0) hb); have n3_ := Aside0.mk (rE (by (with_reducible repeat (first | apply rA | apply rN | apply rD)); exact HO_472003.out) (Kd.R_base ho1) hb); have n4_ := Aside0.mk (rL (rW (rW (rW ho0 (rT (by (with_reducible repeat (first | apply rA | apply rN | apply rD)); exact HO_4.out))) (rT (by (with_reducible repeat (first | apply rA | apply rN | apply rD)); exact HO_7.out))) (rT (by (with_reducible repeat (first | apply rA | apply rN | apply rD)); exact HO_472002.out))) (bZ (by repeat (first | (with_reducible first | exact HB.out | apply bA | apply bN | apply bD | refine bS ?_ GE449.out | refine bS ?_ GE471.out) | exact HB.out)))); have n5_ := Aside0.mk (rL (rW ho1 (rT (by (with_reducible repeat (first | apply rA | apply rN | apply rD)); exact HO_472003.out))) (bZ (by repeat (first | (with_reducible first | exact HB.out | apply bA | apply bN | apply bD | refine bS ?_ GE449.out | refine bS ?_ GE471.out) | exact HB.out)))); have n6_ := Aside0.mk (kB (g := gb449) (o := .cells #[.int .i64 a0_0, .int .i64 a0_1, .slice A0_2 l0_2.length c0_2, .slice A0_3 l0_3.length c0_3] 25 (0, 0)) (by (with_reducible repeat (first | refine kN ?_ _ | refine kD ?_ | refine kA ?_ _)); exact BK449.out) hb); have n7_ := Aside0.mk (kB (g := gb471) (o := .cells #[.int .i64 t463, .int .i64 t464, .slice Ao25 t487.length co25, .slice Ao26 t488.length co26] 30 (0, 0)) (by (with_reducible repeat (first | refine kN ?_ _ | refine kD ?_ | refine kA ?_ _)); exact BK471.out) hb); have n8_ := Aside0.mk (bP (by repeat (first | (with_reducible first | exact HB.out | apply bA | apply bN | apply bD | refine bS ?_ GE449.out | refine bS ?_ GE471.out) | exact HB.out)) hb); clear HO_4; clear HO_7; clear HO_472002; clear HO_472003; clear BK449; clear BK471; clear HB; have HO_4 := n0_; have HO_7 := n1_; have HO_472002 := n2_; have HO_472003 := n3_; have HO497 := n4_; have HO500 := n5_; have BK449 := n6_; have BK471 := n7_; have HB := n8_; clear n0_ n1_ n2_ n3_ n4_ n5_ n6_ n7_ n8_; (try clear hb); (try clear hb2); (try clear hk); (try clear hi); (try clear ho0); (try clear ho1); obtain ⟨Ao70, co70, eo70⟩ := Kd.R_slice HO497.out; subst eo70; obtain ⟨Ao71, co71, eo71⟩ := Kd.R_slice HO500.out; subst eo71) | ((with_reducible refine gC (f := 29) rfl ?_); refine goesL_ (some 76) rfl rfl Try.func29 (by kernel_rfl) rfl #[.agg #[.int .i64 t493, .int .i64 t494, .slice Ao70 t495.length co70, .slice Ao71 t498.length co71]] rfl (by (try simp only [List.map_toArray, List.map_cons, List.map_nil]); first | done | rfl | (simp only [List.length_drop, List.length_take]; rfl)) ?_; (with_reducible refine (impl_DeadStates.calls kj38 t493 t494 _ _ t495 _ _ t498 t501 t504 _ ?side1 ?side2 ?side3 ?side4 A63.out).mono ?_); (case side1 => repeat (first | exact (Kd.R_reads' HO497.out).2.2 | (with_reducible refine cA ?_ _) | (with_reducible refine cN ?_ _) | (with_reducible refine cD ?_))); (case side2 => exact (Kd.R_reads' HO497.out).2.1); (case side3 => repeat (first | exact (Kd.R_reads' HO500.out).2.2 | (with_reducible refine cA ?_ _) | (with_reducible refine cN ?_ _) | (with_reducible refine cD ?_))); (case side4 => exact (Kd.R_reads' HO500.out).2.1); rintro e w72 ⟨v502, rfl, ho0, hb⟩; refine ⟨_, rfl, ?_⟩; have n0_ := Aside0.mk (rE (by (with_reducible repeat (first | apply rA | apply rN | apply rD)); exact HO_4.out) (Kd.R_base ho0) hb); have n1_ := Aside0.mk (rE (by (with_reducible repeat (first | apply rA | apply rN | apply rD)); exact HO_7.out) (Kd.R_base ho0) hb); have n2_ := Aside0.mk (rE (by (with_reducible repeat (first | apply rA | apply rN | apply rD)); exact HO_472002.out) (Kd.R_base ho0) hb); have n3_ := Aside0.mk (rB (by (with_reducible repeat (first | apply rA | apply rN | apply rD)); exact HO_472003.out) hb); have n4_ := Aside0.mk (rE (by (with_reducible repeat (first | apply rA | apply rN | apply rD)); exact HO497.out) (Kd.R_base ho0) hb); have n5_ := Aside0.mk (rB (by (with_reducible repeat (first | apply rA | apply rN | apply rD)); exact HO500.out) hb); have n6_ := Aside0.mk (rL (rW (rW (rW (rW ho0 (rT (by (with_reducible repeat (first | apply rA | apply rN | apply rD)); exact HO_4.out))) (rT (by (with_reducible repeat (first | apply rA | apply rN | apply rD)); exact HO_7.out))) (rT (by (with_reducible repeat (first | apply rA | apply rN | apply rD)); exact HO_472002.out))) (rT (by (with_reducible repeat (first | apply rA | apply rN | apply rD)); exact HO497.out))) (bZ (by repeat (first | (with_reducible first | exact HB.out | apply bA | apply bN | apply bD | refine bS ?_ GE449.out | refine bS ?_ GE471.out) | exact HB.out)))); have n7_ := Aside0.mk (kB (g := gb449) (o := .cells #[.int .i64 a0_0, .int .i64 a0_1, .slice A0_2 l0_2.length c0_2, .slice A0_3 l0_3.length c0_3] 25 (0, 0)) (by (with_reducible repeat (first | refine kN ?_ _ | refine kD ?_ | refine kA ?_ _)); exact BK449.out) hb); have n8_ := Aside0.mk (kB (g := gb471) (o := .cells #[.int .i64 t463, .int .i64 t464, .slice Ao25 t487.length co25, .slice Ao26 t488.length co26] 30 (0, 0)) (by (with_reducible repeat (first | refine kN ?_ _ | refine kD ?_ | refine kA ?_ _)); exact BK471.out) hb); have n9_ := Aside0.mk (bP (by repeat (first | (with_reducible first | exact HB.out | apply bA | apply bN | apply bD | refine bS ?_ GE449.out | refine bS ?_ GE471.out) | exact HB.out)) hb); clear HO_4; clear HO_7; clear HO_472002; clear HO_472003; clear HO497; clear HO500; clear BK449; clear BK471; clear HB; have HO_4 := n0_; have HO_7 := n1_; have HO_472002 := n2_; have HO_472003 := n3_; have HO497 := n4_; have HO500 := n5_; have HO503 := n6_; have BK449 := n7_; have BK471 := n8_; have HB := n9_; clear n0_ n1_ n2_ n3_ n4_ n5_ n6_ n7_ n8_ n9_; (try clear hb); (try clear hb2); (try clear hk); (try clear hi); (try clear ho0)))
           (try simp only [Act.put, sI, sZ, sS])
           go_cut [87] (fun v87 wc => ∃ (kq : Nat) (x87_63 : Bool), v87 = .bool x87_63 ∧ Aside0 (laws_FnExactDeadStates.j2 kq t491 t490 x87_63 = some r) ∧ Aside0 (kq ≤ kj38) ∧ Aside0 (Kd.R (Kd.int .i64) 2 wc w.heap.size (fun k_ => some k_ ≠ ((.slice Ao25 t487.length co25) : Value).ownBlock) (.slice Ao65 t472.length co65) t491) ∧ Aside0 (Kd.R (Kd.int .i64) 2 wc w.heap.size (fun k_ => some k_ ≠ ((.slice Ao65 t472.length co65) : Value).ownBlock) (.slice Ao25 t487.length co25) t487) ∧ Aside0 (Kd.R k67 67 wc w.heap.size (fun _ => True) (.slice Ao26 t488.length co26) t488) ∧ Aside0 (wc.heap[gb449]? = some (.cells #[.int .i64 a0_0, .int .i64 a0_1, (.slice A0_2 l0_2.length c0_2), (.slice A0_3 l0_3.length c0_3)] 25 (0, 0))) ∧ Aside0 (wc.heap[gb471]? = some (.cells #[.int .i64 t463, .int .i64 t464, (.slice Ao25 t487.length co25), (.slice Ao26 t488.length co26)] 30 (0, 0))) ∧ Aside0 (Below w.heap.size w wc))
           case first =>
            have H := HC64.out
            clear HC64
            replace H := Option.bind_eq_some_iff.mp H
            obtain ⟨t505, A730, H⟩ := H
            replace H : (if t505 = true then (laws_FnExactDeadStates.j2 kj38 t491 t490 (t504 != t462)) else (laws_FnExactDeadStates.j2 kj38 t491 t490 true)) = some r := H
            have A73 := Aside0.mk A730
            clear A730
            by_cases c74 : t505 = true
            ·subst c74
             have H1 : (laws_FnExactDeadStates.j2 kj38 t491 t490 (t504 != t462)) = some r := by rw [if_pos rfl] at H; exact H
             clear H
             have H := H1
             clear H1
             have H' := Aside0.mk H
             clear H
             obtain ⟨Ao75, co75, eo75⟩ := Kd.R_slice HO503.out
             subst eo75
             obtain ⟨Ao76, co76, eo76⟩ := Kd.R_slice HO_4.out
             subst eo76
             go_wp2_with (first | ((with_reducible refine gC (f := 27) rfl ?_); refine goesL_ (some 81) rfl rfl Try.func27 (by kernel_rfl) rfl #[.slice Ao75 t501.length co75, .slice Ao76 t459.length co76] rfl (by (try simp only [List.map_toArray, List.map_cons, List.map_nil]); first | done | rfl | (simp only [List.length_drop, List.length_take]; rfl)) ?_; (with_reducible refine (laws_eqInt64S.calls kj38 _ _ t501 _ _ t459 true _ ?side1 ?side2 ?side3 ?side4 A73.out).mono ?_); (case side1 => repeat (first | exact (Kd.R_reads' HO503.out).2.2 | (with_reducible refine cA ?_ _) | (with_reducible refine cN ?_ _) | (with_reducible refine cD ?_))); (case side2 => exact (Kd.R_reads' HO503.out).2.1); (case side3 => repeat (first | exact (Kd.R_reads' HO_4.out).2.2 | (with_reducible refine cA ?_ _) | (with_reducible refine cN ?_ _) | (with_reducible refine cD ?_))); (case side4 => exact (Kd.R_reads' HO_4.out).2.1); rintro e w' ⟨rfl, ⟨nd, rfl⟩⟩; refine ⟨_, rfl, ?_⟩))
             go_meet
             case rel => exact ⟨_, ((t504 != t462)), (by first | rfl | (simp; done) | (simp [*]; done)), H', ⟨by have := HJ10.out; have := HJ38.out; first | omega | exact Nat.le_refl _⟩, ⟨by (try simp only [hl472002_38]); (try simp only [hl472003_38]); (with_reducible repeat (first | apply rA | apply rN | apply rD)); exact rM HO_7.out (fun _ hk => hk.1.1.2)⟩, ⟨by (try simp only [hl472002_38]); (try simp only [hl472003_38]); (with_reducible repeat (first | apply rA | apply rN | apply rD)); exact rM HO_472002.out (fun _ hk => hk.1.1.2)⟩, ⟨by (try simp only [hl472002_38]); (try simp only [hl472003_38]); (with_reducible repeat (first | apply rA | apply rN | apply rD)); exact rM HO_472003.out (fun _ hk => trivial)⟩, ⟨by (try simp only [hl472002_38]); (try simp only [hl472003_38]); (with_reducible repeat (first | refine kN ?_ _ | refine kD ?_ | refine kA ?_ _)); exact BK449.out⟩, ⟨by (try simp only [hl472002_38]); (try simp only [hl472003_38]); (with_reducible repeat (first | refine kN ?_ _ | refine kD ?_ | refine kA ?_ _)); exact BK471.out⟩, ⟨by repeat (first | (with_reducible first | exact HB.out | apply bA | apply bN | apply bD | refine bS ?_ GE449.out | refine bS ?_ GE471.out) | exact HB.out)⟩⟩
            ·replace c74 := Bool.eq_false_iff.mpr c74
             subst c74
             have H1 : (laws_FnExactDeadStates.j2 kj38 t491 t490 true) = some r := by rw [if_neg (show ¬ (false = true) by decide)] at H; exact H
             clear H
             have H := H1
             clear H1
             have H' := Aside0.mk H
             clear H
             obtain ⟨Ao77, co77, eo77⟩ := Kd.R_slice HO503.out
             subst eo77
             obtain ⟨Ao78, co78, eo78⟩ := Kd.R_slice HO_4.out
             subst eo78
             go_wp2_with (first | ((with_reducible refine gC (f := 27) rfl ?_); refine goesL_ (some 81) rfl rfl Try.func27 (by kernel_rfl) rfl #[.slice Ao77 t501.length co77, .slice Ao78 t459.length co78] rfl (by (try simp only [List.map_toArray, List.map_cons, List.map_nil]); first | done | rfl | (simp only [List.length_drop, List.length_take]; rfl)) ?_; (with_reducible refine (laws_eqInt64S.calls kj38 _ _ t501 _ _ t459 false _ ?side1 ?side2 ?side3 ?side4 A73.out).mono ?_); (case side1 => repeat (first | exact (Kd.R_reads' HO503.out).2.2 | (with_reducible refine cA ?_ _) | (with_reducible refine cN ?_ _) | (with_reducible refine cD ?_))); (case side2 => exact (Kd.R_reads' HO503.out).2.1); (case side3 => repeat (first | exact (Kd.R_reads' HO_4.out).2.2 | (with_reducible refine cA ?_ _) | (with_reducible refine cN ?_ _) | (with_reducible refine cD ?_))); (case side4 => exact (Kd.R_reads' HO_4.out).2.1); rintro e w' ⟨rfl, ⟨nd, rfl⟩⟩; refine ⟨_, rfl, ?_⟩))
             go_meet
             case rel => exact ⟨_, (true), (by first | rfl | (simp; done) | (simp [*]; done)), H', ⟨by have := HJ10.out; have := HJ38.out; first | omega | exact Nat.le_refl _⟩, ⟨by (try simp only [hl472002_38]); (try simp only [hl472003_38]); (with_reducible repeat (first | apply rA | apply rN | apply rD)); exact rM HO_7.out (fun _ hk => hk.1.1.2)⟩, ⟨by (try simp only [hl472002_38]); (try simp only [hl472003_38]); (with_reducible repeat (first | apply rA | apply rN | apply rD)); exact rM HO_472002.out (fun _ hk => hk.1.1.2)⟩, ⟨by (try simp only [hl472002_38]); (try simp only [hl472003_38]); (with_reducible repeat (first | apply rA | apply rN | apply rD)); exact rM HO_472003.out (fun _ hk => trivial)⟩, ⟨by (try simp only [hl472002_38]); (try simp only [hl472003_38]); (with_reducible repeat (first | refine kN ?_ _ | refine kD ?_ | refine kA ?_ _)); exact BK449.out⟩, ⟨by (try simp only [hl472002_38]); (try simp only [hl472003_38]); (with_reducible repeat (first | refine kN ?_ _ | refine kD ?_ | refine kA ?_ _)); exact BK471.out⟩, ⟨by repeat (first | (with_reducible first | exact HB.out | apply bA | apply bN | apply bD | refine bS ?_ GE449.out | refine bS ?_ GE471.out) | exact HB.out)⟩⟩
           case rest =>
            clear HC64
            try clear c1
            try clear c2
            try clear p2
            try clear c3
            try clear c3b0
            try clear c4
            try clear c5
            try clear c6
            try clear c7
            try clear c15
            try clear c17
            try clear c19
            try clear c23
            try clear c27
            try clear c28
            try clear c29
            try clear c30
            try clear c31
            try clear c32
            try clear c34
            try clear c37
            try clear c45
            try clear c48
            try clear c48b0
            try clear c50
            try clear c55
            try clear c58
            try clear c58b0
            try clear c61
            try clear c61b0
            try clear c61b1
            try clear c67
            try clear c74
            try clear hcz13_0
            try clear hcz13_1
            try clear hcz13_2
            try clear hcz13_3
            try clear hcz15_0
            try clear hcz15_1
            try clear hcz15_2
            try clear hcz15_3
            try clear hcz20_0
            try clear hcz20_1
            try clear hcz20_2
            try clear hcz20_3
            try clear hcz24_0
            try clear hcz24_1
            try clear hcz24_2
            try clear hcz24_3
            try clear hcz46_0
            try clear hcz46_1
            try clear hcz46_2
            try clear hcz46_3
            try clear hcz5_0
            try clear hcz5_1
            try clear hcz5_2
            try clear hcz5_3
            try clear hcz68_0
            try clear hcz68_1
            try clear hcz68_2
            try clear hcz68_3
            try clear hfz13_0
            try clear hfz13_1
            try clear hfz13_2
            try clear hfz13_3
            try clear hfz15_0
            try clear hfz15_1
            try clear hfz15_2
            try clear hfz15_3
            try clear hfz20_0
            try clear hfz20_1
            try clear hfz20_2
            try clear hfz20_3
            try clear hfz24_0
            try clear hfz24_1
            try clear hfz24_2
            try clear hfz24_3
            try clear hfz46_0
            try clear hfz46_1
            try clear hfz46_2
            try clear hfz46_3
            try clear hfz5_0
            try clear hfz5_1
            try clear hfz5_2
            try clear hfz5_3
            try clear hfz68_0
            try clear hfz68_1
            try clear hfz68_2
            try clear hfz68_3
            try clear p2
            obtain ⟨kq, x87_63, rfl, HA, HJ63, HO_7, HO_472002, HO_472003, BK449, BK471, HB⟩ := hcut
            have hl7_63 := (Kd.R_reads' HO_7.out).1
            rw [hl7_63] at HO_7
            (try simp only [hl7_63])
            (try simp only [hl7_63] at BK449)
            (try simp only [hl7_63] at BK471)
            (try simp only [hl7_63] at HO_472002)
            (try simp only [hl7_63] at HO_472003)
            cases kq with
            | zero => exact absurd HA.out (by simp [laws_FnExactDeadStates.j2])
            | succ kj63 =>
             have H := HA.out
             clear HA
             simp only [laws_FnExactDeadStates.j2] at H
             by_cases c79 : x87_63 = true
             ·subst c79
              have H1 : (some false) = some r := by rw [if_pos rfl] at H; exact H
              clear H
              have H := H1
              clear H1
              obtain rfl := Option.some.inj H
              go_wp2
              go_ret
              exact ⟨by first | rfl | (simp [errW_none, errW_some] <;> rfl) | (simp [*, errW_none, errW_some] <;> rfl), by repeat (first | (with_reducible first | exact HB.out | apply bA | apply bN | apply bD | refine bS ?_ GE449.out | refine bS ?_ GE471.out) | exact HB.out)⟩
             ·replace c79 := Bool.eq_false_iff.mpr c79
              subst c79
              have H1 : ((laws_heldInt64S.f kj63 t491 1).bind fun t506 => (if t506 < 0 then (some false) else (if t506 = t490 then (some true) else (some false)))) = some r := by rw [if_neg (show ¬ (false = true) by decide)] at H; exact H
              clear H
              have H := H1
              clear H1
              replace H := Option.bind_eq_some_iff.mp H
              obtain ⟨t506, A800, H⟩ := H
              replace H : (if t506 < 0 then (some false) else (if t506 = t490 then (some true) else (some false))) = some r := H
              have A80 := Aside0.mk A800
              clear A800
              by_cases c81 : t506 < 0
              ·rw [if_pos c81] at H
               have c81b0 : decide (t506 < 0) = true := decide_eq_true c81
               clear c81
               obtain rfl := Option.some.inj H
               go_wp2_with (first | ((with_reducible refine gC (f := 32) rfl ?_); refine goesL_ (some 90) rfl rfl Try.func32 (by kernel_rfl) rfl #[.slice Ao65 t491.length co65, .int .i64 1] rfl (by (try simp only [List.map_toArray, List.map_cons, List.map_nil]); first | done | rfl | (simp only [List.length_drop, List.length_take]; rfl)) ?_; (with_reducible refine (laws_heldInt64S.calls kj63 _ _ t491 1 t506 _ ?side1 ?side2 A80.out).mono ?_); (case side1 => repeat (first | exact (Kd.R_reads' HO_7.out).2.2 | (with_reducible refine cA ?_ _) | (with_reducible refine cN ?_ _) | (with_reducible refine cD ?_))); (case side2 => exact (Kd.R_reads' HO_7.out).2.1); rintro e w' ⟨rfl, ⟨nd, rfl⟩⟩; refine ⟨_, rfl, ?_⟩))
               go_ret
               exact ⟨by first | rfl | (simp [errW_none, errW_some] <;> rfl) | (simp [*, errW_none, errW_some] <;> rfl), by repeat (first | (with_reducible first | exact HB.out | apply bA | apply bN | apply bD | refine bS ?_ GE449.out | refine bS ?_ GE471.out) | exact HB.out)⟩
              ·rw [if_neg c81] at H
               have c81b0 : decide (t506 < 0) = false := decide_eq_false c81
               clear c81
               by_cases c82 : t506 = t490
               ·rw [if_pos c82] at H
                have c82b0 : (t506 == t490) = true := beq_iff_eq.mpr c82
                have c82b1 : (t506 != t490) = false := bne_eq_false_iff_eq.mpr c82
                clear c82
                obtain rfl := Option.some.inj H
                go_wp2_with (first | ((with_reducible refine gC (f := 32) rfl ?_); refine goesL_ (some 90) rfl rfl Try.func32 (by kernel_rfl) rfl #[.slice Ao65 t491.length co65, .int .i64 1] rfl (by (try simp only [List.map_toArray, List.map_cons, List.map_nil]); first | done | rfl | (simp only [List.length_drop, List.length_take]; rfl)) ?_; (with_reducible refine (laws_heldInt64S.calls kj63 _ _ t491 1 t506 _ ?side1 ?side2 A80.out).mono ?_); (case side1 => repeat (first | exact (Kd.R_reads' HO_7.out).2.2 | (with_reducible refine cA ?_ _) | (with_reducible refine cN ?_ _) | (with_reducible refine cD ?_))); (case side2 => exact (Kd.R_reads' HO_7.out).2.1); rintro e w' ⟨rfl, ⟨nd, rfl⟩⟩; refine ⟨_, rfl, ?_⟩))
                go_ret
                exact ⟨by first | rfl | (simp [errW_none, errW_some] <;> rfl) | (simp [*, errW_none, errW_some] <;> rfl), by repeat (first | (with_reducible first | exact HB.out | apply bA | apply bN | apply bD | refine bS ?_ GE449.out | refine bS ?_ GE471.out) | exact HB.out)⟩
               ·rw [if_neg c82] at H
                have c82b0 : (t506 == t490) = false := beq_eq_false_iff_ne.mpr c82
                have c82b1 : (t506 != t490) = true := bne_iff_ne.mpr c82
                obtain rfl := Option.some.inj H
                go_wp2_with (first | ((with_reducible refine gC (f := 32) rfl ?_); refine goesL_ (some 90) rfl rfl Try.func32 (by kernel_rfl) rfl #[.slice Ao65 t491.length co65, .int .i64 1] rfl (by (try simp only [List.map_toArray, List.map_cons, List.map_nil]); first | done | rfl | (simp only [List.length_drop, List.length_take]; rfl)) ?_; (with_reducible refine (laws_heldInt64S.calls kj63 _ _ t491 1 t506 _ ?side1 ?side2 A80.out).mono ?_); (case side1 => repeat (first | exact (Kd.R_reads' HO_7.out).2.2 | (with_reducible refine cA ?_ _) | (with_reducible refine cN ?_ _) | (with_reducible refine cD ?_))); (case side2 => exact (Kd.R_reads' HO_7.out).2.1); rintro e w' ⟨rfl, ⟨nd, rfl⟩⟩; refine ⟨_, rfl, ?_⟩))
                go_ret
                exact ⟨by first | rfl | (simp [errW_none, errW_some] <;> rfl) | (simp [*, errW_none, errW_some] <;> rfl), by repeat (first | (with_reducible first | exact HB.out | apply bA | apply bN | apply bD | refine bS ?_ GE449.out | refine bS ?_ GE471.out) | exact HB.out)⟩
          ·rw [if_neg c61] at H
           have c61b0 : (t492 == t490) = false := beq_eq_false_iff_ne.mpr c61
           have c61b1 : (t492 != t490) = true := bne_iff_ne.mpr c61
           obtain rfl := Option.some.inj H
           obtain ⟨Ao83, co83, eo83⟩ := Kd.R_slice HO_7.out
           subst eo83
           go_wp2_with (first | ((with_reducible refine gC (f := 31) rfl ?_); refine goesL_ (some 64) rfl rfl Try.func31 (by kernel_rfl) rfl #[.slice Ao83 t472.length co83, .int .i64 1] rfl (by (try simp only [List.map_toArray, List.map_cons, List.map_nil]); first | done | rfl | (simp only [List.length_drop, List.length_take]; rfl)) ?_; (with_reducible refine (laws_markInt64S.calls kj38 (fun k_ => some k_ = (.slice Ao83 t472.length co83 : Value).ownBlock) (.slice Ao83 t472.length co83) t472 1 t490 t491 w _ ?side1 ?side2 A56.out).mono ?_); (case side1 => repeat (first | (with_reducible first | exact HB.out | apply bA | apply bN | apply bD | refine bS ?_ GE449.out | refine bS ?_ GE471.out) | exact HB.out)); (case side2 => exact Kd.R_tight rfl HO_7.out); rintro e w84 ⟨rfl, hy0, hb, hkp⟩; refine ⟨_, rfl, ?_⟩; have n0_ := Aside0.mk (rM (ok' := fun k_ => some k_ ≠ (.slice Ao83 t472.length co83 : Value).ownBlock ∧ some k_ ≠ (.slice Ao25 t487.length co25 : Value).ownBlock) (Kd.R_keptB (HO_4.out) hkp (fun k_ hk_ hs_ => (hk_.1) hs_)) (fun k_ hk_ => ⟨hk_.1.1, hk_.1.2⟩)); have n1_ := Aside0.mk (Kd.R_reok rfl hy0 (fun k_ e_ => HO_7.out.1 k_ e_)); have n2_ := Aside0.mk (rM (ok' := fun k_ => some k_ ≠ (v460 : Value).ownBlock ∧ some k_ ≠ (.slice Ao83 t472.length co83 : Value).ownBlock) (Kd.R_keptB (HO_472002.out) hkp (fun k_ hk_ hs_ => (hk_.2) hs_)) (fun k_ hk_ => ⟨hk_.1.1, hk_.1.2⟩)); have n3_ := Aside0.mk (rM (ok' := fun k_ => True) (Kd.R_keptB ((Kd.R_apart' HO_472003.out (Kd.R_typed HO_7.out) (by decide))) hkp (fun k_ hk_ hs_ => (hk_.2) hs_)) (fun k_ hk_ => trivial)); have n4_ := Aside0.mk (blk_kept (by (with_reducible repeat (first | refine kN ?_ _ | refine kD ?_ | refine kA ?_ _)); exact BK449.out) hkp (fun hs_ => (fun e_ => (Kd.R_ne HO_7.out BK449.out (by decide)) e_) hs_)); have n5_ := Aside0.mk (blk_kept (by (with_reducible repeat (first | refine kN ?_ _ | refine kD ?_ | refine kA ?_ _)); exact BK471.out) hkp (fun hs_ => (fun e_ => (Kd.R_ne HO_7.out BK471.out (by decide)) e_) hs_)); have n6_ := Aside0.mk (hb); clear HO_4; clear HO_7; clear HO_472002; clear HO_472003; clear BK449; clear BK471; clear HB; have HO_4 := n0_; have HO_7 := n1_; have HO_472002 := n2_; have HO_472003 := n3_; have BK449 := n4_; have BK471 := n5_; have HB := n6_; clear n0_ n1_ n2_ n3_ n4_ n5_ n6_; (try clear hb); (try clear hkp); (try clear hy0)) | ((with_reducible refine gC (f := 32) rfl ?_); refine goesL_ (some 67) rfl rfl Try.func32 (by kernel_rfl) rfl #[.slice Ao83 t491.length co83, .int .i64 1] rfl (by (try simp only [List.map_toArray, List.map_cons, List.map_nil]); first | done | (rw [show t491.length = t472.length from (Kd.R_reads' HO_7.out).1.symm] <;> rfl) | rfl | (simp only [List.length_drop, List.length_take]; rfl)) ?_; (with_reducible refine (laws_heldInt64S.calls kj38 _ _ t491 1 t492 _ ?side1 ?side2 A57.out).mono ?_); (case side1 => repeat (first | exact (Kd.R_reads' HO_7.out).2.2 | (with_reducible refine cA ?_ _) | (with_reducible refine cN ?_ _) | (with_reducible refine cD ?_))); (case side2 => rw [show t491.length = t472.length from (Kd.R_reads' HO_7.out).1.symm]; exact (Kd.R_reads' HO_7.out).2.1); rintro e w' ⟨rfl, ⟨nd, rfl⟩⟩; refine ⟨_, rfl, ?_⟩))
           go_ret
           exact ⟨by first | rfl | (simp [errW_none, errW_some] <;> rfl) | (simp [*, errW_none, errW_some] <;> rfl), by repeat (first | (with_reducible first | exact HB.out | apply bA | apply bN | apply bD | refine bS ?_ GE449.out | refine bS ?_ GE471.out) | exact HB.out)⟩
     ·replace c37 := Bool.eq_false_iff.mpr c37
      subst c37
      have H1 : (some false) = some r := by rw [if_neg (show ¬ (false = true) by decide)] at H; exact H
      clear H
      have H := H1
      clear H1
      obtain rfl := Option.some.inj H
      try go_wp2
      have n0_ := Aside0.mk (rD HO_4.out)
      have n1_ := Aside0.mk (rD HO_7.out)
      have n2_ := Aside0.mk (rD HO_472002.out)
      have n3_ := Aside0.mk (rD HO_472003.out)
      have n4_ := Aside0.mk (kD BK449.out)
      have n5_ := Aside0.mk (kD BK471.out)
      have n6_ := Aside0.mk (bD HB.out)
      clear HO_4
      clear HO_7
      clear HO_472002
      clear HO_472003
      clear BK449
      clear BK471
      clear HB
      have HO_4 := n0_
      have HO_7 := n1_
      have HO_472002 := n2_
      have HO_472003 := n3_
      have BK449 := n4_
      have BK471 := n5_
      have HB := n6_
      clear n0_ n1_ n2_ n3_ n4_ n5_ n6_
      refine start_ (n := 5) (S := fun w' => w'.cell? ⟨gb471, 0, none⟩ = some (.int .i64 t463) ∧ w'.cell? ⟨gb471, 1, none⟩ = some (.int .i64 t464) ∧ w'.cell? ⟨gb471, 2, none⟩ = some (.slice Ao25 t465.length co25) ∧ w'.cell? ⟨gb471, 3, none⟩ = some (.slice Ao26 t468.length co26) ∧ w'.cell? ⟨gb449, 0, none⟩ = some (.int .i64 a0_0) ∧ w'.cell? ⟨gb449, 1, none⟩ = some (.int .i64 a0_1) ∧ w'.cell? ⟨gb449, 2, none⟩ = some (.slice A0_2 l0_2.length c0_2) ∧ w'.cell? ⟨gb449, 3, none⟩ = some (.slice A0_3 l0_3.length c0_3)) (ds := []) #[F,F,F,F,F] (by kernel_rfl) rfl rfl ⟨(kC BK471.out 0).trans rfl, (kC BK471.out 1).trans rfl, (kC BK471.out 2).trans rfl, (kC BK471.out 3).trans rfl, (kC BK449.out 0).trans rfl, (kC BK449.out 1).trans rfl, (kC BK449.out 2).trans rfl, (kC BK449.out 3).trans rfl⟩ (fun hHeld => ?_)
      generalize wc.drew = w85 at HO_4 HO_7 HO_472002 HO_472003 BK449 BK471 HB hHeld ⊢
      refine take_ (i := 0) (N := some 41) (v := ?_) (a' := ?_) #[T,F,F,F,F] rfl rfl (by kernel_rfl) (fun _ _ _ h => h) (Or.inl ⟨by rfl, ?_⟩) hHeld ?_ ?_; rotate_left; (·rintro w' ⟨s0, s1, s2, s3, s4, s5, s6, s7⟩; go_simp; with_reducible rfl); rotate_left; (·simp only [Act.put, sI, sZ, sS, iW, jW]; rfl)
      refine take_ (i := 1) (N := some 42) (v := ?_) (a' := ?_) #[T,T,F,F,F] rfl rfl (by kernel_rfl) (fun _ _ _ h => h) (Or.inl ⟨by rfl, ?_⟩) hHeld ?_ ?_; rotate_left; (·rintro w' ⟨s0, s1, s2, s3, s4, s5, s6, s7⟩; go_simp; with_reducible rfl); rotate_left; (·simp only [Act.put, sI, sZ, sS, iW, jW]; rfl)
      refine one_ (i := 2) (N := some 43) #[T,T,T,F,F] rfl rfl (by kernel_rfl) (by decide) (fun K hK => ?_)
      refine goes_ Try.func17 (by kernel_rfl) rfl #[.agg #[.int .i64 a0_0, .int .i64 a0_1, .slice A0_2 l0_2.length c0_2, .slice A0_3 l0_3.length c0_3]] (by rfl) rfl rfl (by (try simp only [List.map_toArray, List.map_cons, List.map_nil]); first | done | rfl | (simp only [List.length_drop, List.length_take]; rfl)) ?_
      with_reducible refine (laws_toGrammar.calls kj10 a0_0 a0_1 _ _ l0_2 _ _ l0_3 t477 t478 t479 t482 _ ?side1 ?side2 ?side3 ?side4 A35.out).mono ?_
      (case side1 => repeat (first | exact (cB HR0_2.out HB.out) | (with_reducible refine cA ?_ _) | (with_reducible refine cN ?_ _) | (with_reducible refine cD ?_)))
      (case side2 => exact HC0_2.out)
      (case side3 => repeat (first | exact (cB HR0_3.out HB.out) | (with_reducible refine cA ?_ _) | (with_reducible refine cN ?_ _) | (with_reducible refine cD ?_)))
      (case side4 => exact HC0_3.out)
      rintro e w86 ⟨v480, v483, rfl, ho0, ho1, hb⟩
      refine ⟨_, rfl, ?_⟩
      have n0_ := Aside0.mk (rE (by (with_reducible repeat (first | apply rA | apply rN | apply rD)); exact HO_4.out) (Kd.R_base ho0) hb)
      have n1_ := Aside0.mk (rE (by (with_reducible repeat (first | apply rA | apply rN | apply rD)); exact HO_7.out) (Kd.R_base ho0) hb)
      have n2_ := Aside0.mk (rE (by (with_reducible repeat (first | apply rA | apply rN | apply rD)); exact HO_472002.out) (Kd.R_base ho0) hb)
      have n3_ := Aside0.mk (rE (by (with_reducible repeat (first | apply rA | apply rN | apply rD)); exact HO_472003.out) (Kd.R_base ho1) hb)
      have n4_ := Aside0.mk (rL (rW (rW (rW ho0 (rT (by (with_reducible repeat (first | apply rA | apply rN | apply rD)); exact HO_4.out))) (rT (by (with_reducible repeat (first | apply rA | apply rN | apply rD)); exact HO_7.out))) (rT (by (with_reducible repeat (first | apply rA | apply rN | apply rD)); exact HO_472002.out))) (bZ (by repeat (first | (with_reducible first | exact HB.out | apply bA | apply bN | apply bD | refine bS ?_ GE449.out | refine bS ?_ GE471.out) | exact HB.out))))
      have n5_ := Aside0.mk (rL (rW ho1 (rT (by (with_reducible repeat (first | apply rA | apply rN | apply rD)); exact HO_472003.out))) (bZ (by repeat (first | (with_reducible first | exact HB.out | apply bA | apply bN | apply bD | refine bS ?_ GE449.out | refine bS ?_ GE471.out) | exact HB.out))))
      have n6_ := Aside0.mk (kB (g := gb449) (o := .cells #[.int .i64 a0_0, .int .i64 a0_1, .slice A0_2 l0_2.length c0_2, .slice A0_3 l0_3.length c0_3] 25 (0, 0)) (by (with_reducible repeat (first | refine kN ?_ _ | refine kD ?_ | refine kA ?_ _)); exact BK449.out) hb)
      have n7_ := Aside0.mk (kB (g := gb471) (o := .cells #[.int .i64 t463, .int .i64 t464, .slice Ao25 t465.length co25, .slice Ao26 t468.length co26] 30 (0, 0)) (by (with_reducible repeat (first | refine kN ?_ _ | refine kD ?_ | refine kA ?_ _)); exact BK471.out) hb)
      have n8_ := Aside0.mk (bP (by repeat (first | (with_reducible first | exact HB.out | apply bA | apply bN | apply bD | refine bS ?_ GE449.out | refine bS ?_ GE471.out) | exact HB.out)) hb)
      clear HO_4
      clear HO_7
      clear HO_472002
      clear HO_472003
      clear BK449
      clear BK471
      clear HB
      have HO_4 := n0_
      have HO_7 := n1_
      have HO_472002 := n2_
      have HO_472003 := n3_
      have HO481 := n4_
      have HO484 := n5_
      have BK449 := n6_
      have BK471 := n7_
      have HB := n8_
      clear n0_ n1_ n2_ n3_ n4_ n5_ n6_ n7_ n8_
      (try clear hb)
      (try clear hb2)
      (try clear hk)
      (try clear hi)
      (try clear ho0)
      (try clear ho1)
      obtain ⟨Ao87, co87, eo87⟩ := Kd.R_slice HO481.out
      (first | subst eo87 | (injection eo87 with f1_ f2_ f3_; have f4_ := f1_.symm; have f5_ := f3_.symm; clear f1_ f2_ f3_; subst f4_; subst f5_))
      obtain ⟨Ao88, co88, eo88⟩ := Kd.R_slice HO484.out
      (first | subst eo88 | (injection eo88 with f1_ f2_ f3_; have f4_ := f1_.symm; have f5_ := f3_.symm; clear f1_ f2_ f3_; subst f4_; subst f5_))
      refine hK.out _ _ ⟨(kC BK471.out 0).trans rfl, (kC BK471.out 1).trans rfl, (kC BK471.out 2).trans rfl, (kC BK471.out 3).trans rfl, (kC BK449.out 0).trans rfl, (kC BK449.out 1).trans rfl, (kC BK449.out 2).trans rfl, (kC BK449.out 3).trans rfl⟩ (fun hHeld => ?_)
      clear hK K
      refine norm_ (a' := ?_) ?_ ?_
      rotate_left
      ·show Act.put _ (some 43) _ = _
       simp only [Act.put, sI, sZ, sS, iW, jW]
       rfl
      refine one_ (i := 3) (N := some 44) #[T,T,T,T,F] rfl rfl (by kernel_rfl) (by decide) (fun K hK => ?_)
      refine goes_ Try.func19 (by kernel_rfl) rfl #[.agg #[.int .i64 t463, .int .i64 t464, .slice Ao25 t465.length co25, .slice Ao26 t468.length co26], .agg #[.int .i64 t477, .int .i64 t478, .slice Ao87 t479.length co87, .slice Ao88 t482.length co88]] (by rfl) rfl rfl (by (try simp only [List.map_toArray, List.map_cons, List.map_nil]); first | done | rfl | (simp only [List.length_drop, List.length_take]; rfl)) ?_
      with_reducible refine (laws_eqGrammar.calls kj10 t463 t464 _ _ t465 _ _ t468 t477 t478 _ _ t479 _ _ t482 false _ ?side1 ?side2 ?side3 ?side4 ?side5 ?side6 ?side7 ?side8 A36.out).mono ?_
      (case side1 => repeat (first | exact (Kd.R_reads' HO_472002.out).2.2 | (with_reducible refine cA ?_ _) | (with_reducible refine cN ?_ _) | (with_reducible refine cD ?_)))
      (case side2 => exact (Kd.R_reads' HO_472002.out).2.1)
      (case side3 => repeat (first | exact (Kd.R_reads' HO_472003.out).2.2 | (with_reducible refine cA ?_ _) | (with_reducible refine cN ?_ _) | (with_reducible refine cD ?_)))
      (case side4 => exact (Kd.R_reads' HO_472003.out).2.1)
      (case side5 => repeat (first | exact (Kd.R_reads' HO481.out).2.2 | (with_reducible refine cA ?_ _) | (with_reducible refine cN ?_ _) | (with_reducible refine cD ?_)))
      (case side6 => exact (Kd.R_reads' HO481.out).2.1)
      (case side7 => repeat (first | exact (Kd.R_reads' HO484.out).2.2 | (with_reducible refine cA ?_ _) | (with_reducible refine cN ?_ _) | (with_reducible refine cD ?_)))
      (case side8 => exact (Kd.R_reads' HO484.out).2.1)
      rintro e w89 ⟨rfl, hb⟩
      refine ⟨_, rfl, ?_⟩
      have n0_ := Aside0.mk (rB (by (with_reducible repeat (first | apply rA | apply rN | apply rD)); exact HO_4.out) hb)
      have n1_ := Aside0.mk (rB (by (with_reducible repeat (first | apply rA | apply rN | apply rD)); exact HO_7.out) hb)
      have n2_ := Aside0.mk (rB (by (with_reducible repeat (first | apply rA | apply rN | apply rD)); exact HO_472002.out) hb)
      have n3_ := Aside0.mk (rB (by (with_reducible repeat (first | apply rA | apply rN | apply rD)); exact HO_472003.out) hb)
      have n4_ := Aside0.mk (rB (by (with_reducible repeat (first | apply rA | apply rN | apply rD)); exact HO481.out) hb)
      have n5_ := Aside0.mk (rB (by (with_reducible repeat (first | apply rA | apply rN | apply rD)); exact HO484.out) hb)
      have n6_ := Aside0.mk (kB (g := gb449) (o := .cells #[.int .i64 a0_0, .int .i64 a0_1, .slice A0_2 l0_2.length c0_2, .slice A0_3 l0_3.length c0_3] 25 (0, 0)) (by (with_reducible repeat (first | refine kN ?_ _ | refine kD ?_ | refine kA ?_ _)); exact BK449.out) hb)
      have n7_ := Aside0.mk (kB (g := gb471) (o := .cells #[.int .i64 t463, .int .i64 t464, .slice Ao25 t465.length co25, .slice Ao26 t468.length co26] 30 (0, 0)) (by (with_reducible repeat (first | refine kN ?_ _ | refine kD ?_ | refine kA ?_ _)); exact BK471.out) hb)
      have n8_ := Aside0.mk (bP (by repeat (first | (with_reducible first | exact HB.out | apply bA | apply bN | apply bD | refine bS ?_ GE449.out | refine bS ?_ GE471.out) | exact HB.out)) hb)
      clear HO_4
      clear HO_7
      clear HO_472002
      clear HO_472003
      clear HO481
      clear HO484
      clear BK449
      clear BK471
      clear HB
      have HO_4 := n0_
      have HO_7 := n1_
      have HO_472002 := n2_
      have HO_472003 := n3_
      have HO481 := n4_
      have HO484 := n5_
      have BK449 := n6_
      have BK471 := n7_
      have HB := n8_
      clear n0_ n1_ n2_ n3_ n4_ n5_ n6_ n7_ n8_
      (try clear hb)
      (try clear hb2)
      (try clear hk)
      (try clear hi)
      refine hK.out _ _ ⟨(kC BK471.out 0).trans rfl, (kC BK471.out 1).trans rfl, (kC BK471.out 2).trans rfl, (kC BK471.out 3).trans rfl, (kC BK449.out 0).trans rfl, (kC BK449.out 1).trans rfl, (kC BK449.out 2).trans rfl, (kC BK449.out 3).trans rfl⟩ (fun hHeld => ?_)
      clear hK K
      refine norm_ (a' := ?_) ?_ ?_
      rotate_left
      ·show Act.put _ (some 44) _ = _
       simp only [Act.put, sI, sZ, sS, iW, jW]
       rfl
      refine pure_ (i := 4) (N := some 45) (v := ?_) (a' := ?_) #[T,T,T,T,T] rfl rfl (by kernel_rfl) (fun _ _ _ h => h) (Or.inl ⟨by rfl, ?_⟩) ?_ ?_; rotate_left; (·intro w'; go_simp; with_reducible rfl); rotate_left; (·simp only [Act.put, sI, sZ, sS, iW, jW]; rfl)
      refine done_ (by kernel_rfl) ?_
      try go_wp2
      go_ret
      exact ⟨by first | rfl | (simp [errW_none, errW_some] <;> rfl) | (simp [*, errW_none, errW_some] <;> rfl), by repeat (first | (with_reducible first | exact HB.out | apply bA | apply bN | apply bD | refine bS ?_ GE449.out | refine bS ?_ GE471.out) | exact HB.out)⟩

/-- THE ONE PURE STATEMENT of laws_FnExactDeadStates. -/
def laws_FnExactDeadStates.Pure : Prop := ∀ (a0_0 : Int) (a0_1 : Int) (l0_2 : List Int) (l0_3 : List (S108)), (Lit.int .i64 a0_0).wf = true → (Lit.int .i64 a0_1).wf = true → (l0_2.length ≤ maxLen ∧ ∀ x ∈ l0_2, (Lit.int .i64 x).wf = true) → (l0_3.length ≤ maxLen ∧ ∀ x ∈ l0_3, (Lit.int .i64 x.f0).wf = true ∧ (Lit.int .i64 x.f1).wf = true ∧ (Lit.int .i64 x.f2).wf = true) → ∃ k, laws_FnExactDeadStates.f k a0_0 a0_1 l0_2 l0_3 = some true

end Go.Proofs.Ytijbhcalknfijaa.M
-- shrunk
-- tight
