/- What functions of the given program compute, as plain Lean functions, and that the code comes to just that; by a program of this session over the kit's print. No condition. -/
import Derived.Test.YtijbhcalknfijaaM2x0
import Derived.Test.YtijbhcalknfijaaM2x1
import Derived.Test.YtijbhcalknfijaaM2x2
import Derived.Test.YtijbhcalknfijaaM2x3
import Derived.Test.YtijbhcalknfijaaM2x5
import Derived.Test.YtijbhcalknfijaaM2x21
import Derived.Test.YtijbhcalknfijaaM2x25
namespace Go.Proofs.Ytijbhcalknfijaa.M2
open Go.RowKit Go.Proofs.YtijbhcalknfijaaW.PrintWords Go.Proofs.YtijbhcalknfijaaW.PrintLast Go.Proofs.YtijbhcalknfijaaW.PrintMore
open Go.Proofs.YtijbhcalknfijaaW.PrintWords renaming below_alloc → bA, pw_below_drewN → bN, below_drew1 → bD, below_set → bS, blk_drewN → kN, blk_drew → kD, blk_alloc → kA, blk_below → kB, below_size → bZ, below_step → bP, blk_far → kF, blk_lt → kL, gate_callee → gC, box_event → bE, blk_cell → kC
open Go.Proofs.YtijbhcalknfijaaW.PrintLast renaming i64_w → iW, i32_w → jW
open Go.Proofs.YtijbhcalknfijaaW.PrintWords.Kd renaming R_alloc → rA, R_drewN → rN, R_drew → rD, C_alloc → cA, C_drewN → cN, C_drew → cD, C_below → cB, R_lower → rL, R_below → rB, R_elder' → rE, R_new' → rW, R_lt → rT, R_mono → rM
open List renaming setIfInBounds_toArray → sI, set_cons_zero → sZ, set_cons_succ → sS
open Bool renaming true → T, false → F
attribute [local go_sem] max2_int min2_int max_two min_two max_three min_three max_four min_four   -- for this text's walks alone
set_option linter.unusedVariables false
set_option linter.unusedSimpArgs false

/-! ### laws_FnExactMelodyNumber: function 11 -/
def laws_FnExactMelodyNumber.j0 : Nat → List Int → List Int → Bool → Int → Int → List Int → List (S108) → Int → Int → List Int → List (S67) → Option (Bool)
 | 0, _, _, _, _, _, _, _, _, _, _, _ => none
 | k + 1, x1, x9, x45, x332000, x332001, x332002, x332003, x355000, x355001, x355002, x355003 => if x45 = true then (some false) else ((laws_toGrammar.f k x332000 x332001 x332002 x332003).bind fun bt360 => ((laws_eqGrammar.f k x355000 x355001 x355002 x355003 bt360.1 bt360.2.1 bt360.2.2.1 bt360.2.2.2).bind fun t368 => (if t368 = true then ((laws_toInt64S.f k x1).bind fun t369 => ((laws_eqInt64S.f k x9 t369).bind fun t372 => (if t372 = true then (some true) else (some false)))) else (some false))))
def laws_FnExactMelodyNumber.f (k : Nat) (a0_0 : Int) (a0_1 : Int) (l0_2 : List Int) (l0_3 : List (S108)) (l1 : List Int) : Option (Bool) := if (l1.length : Int) > 1048576 then (some true) else ((laws_szGrammar.f a0_0 a0_1 l0_2 l0_3 1048576).bind fun t332 => (if t332 < 0 then (some true) else ((laws_toGrammar.f k a0_0 a0_1 l0_2 l0_3).bind fun bt333 => ((laws_toInt64S.f k l1).bind fun t341 => ((spec_MelodyNumber.f k bt333.1 bt333.2.1 bt333.2.2.1 bt333.2.2.2 t341).bind fun bt344 => ((laws_toGrammar.f k a0_0 a0_1 l0_2 l0_3).bind fun bt346 => ((laws_toInt64S.f k l1).bind fun t355 => ((impl_MelodyNumber.f k bt346.1 bt346.2.1 bt346.2.2.1 bt346.2.2.2 t355).bind fun bt358 => (if bt358.1 = bt344.1 then (laws_FnExactMelodyNumber.j0 k l1 t355 (bt358.2 != bt344.2) a0_0 a0_1 l0_2 l0_3 bt346.1 bt346.2.1 bt346.2.2.1 bt346.2.2.2) else (laws_FnExactMelodyNumber.j0 k l1 t355 true a0_0 a0_1 l0_2 l0_3 bt346.1 bt346.2.1 bt346.2.2.1 bt346.2.2.2))))))))))
theorem laws_FnExactMelodyNumber.mono_l : ∀ k, (∀ y0 y1 y2 y3 y4 y5 y6 y7 y8 y9 y10, LeO (laws_FnExactMelodyNumber.j0 k y0 y1 y2 y3 y4 y5 y6 y7 y8 y9 y10) (laws_FnExactMelodyNumber.j0 (k + 1) y0 y1 y2 y3 y4 y5 y6 y7 y8 y9 y10))
 | 0 => fun _ _ _ _ _ _ _ _ _ _ _ r h => by simp [laws_FnExactMelodyNumber.j0] at h
 | k + 1 => by
  have ih0 := laws_FnExactMelodyNumber.mono_l k
  ·intro y0 y1 y2 y3 y4 y5 y6 y7 y8 y9 y10
   unfold laws_FnExactMelodyNumber.j0
   repeat' first
   | (with_reducible exact ih0 _ _ _ _ _ _ _ _ _ _ _)
   | (with_reducible exact impl_MelodyNumber.mono _ _ _ _ _ _)
   | (with_reducible exact laws_eqGrammar.mono _ _ _ _ _ _ _ _ _)
   | (with_reducible exact laws_eqInt64S.mono _ _ _)
   | (with_reducible exact laws_toGrammar.mono _ _ _ _ _)
   | (with_reducible exact laws_toInt64S.mono _ _)
   | (with_reducible exact spec_MelodyNumber.mono _ _ _ _ _ _)
   | (with_reducible exact LeO.refl _)
   | (with_reducible exact LeO.none _)
   | (with_reducible refine LeO.ite ?_ ?_)
   | (with_reducible refine LeO.bind ?_ (fun _ => ?_))
   | exact ih0 _ _ _ _ _ _ _ _ _ _ _
   | exact impl_MelodyNumber.mono _ _ _ _ _ _
   | exact laws_eqGrammar.mono _ _ _ _ _ _ _ _ _
   | exact laws_eqInt64S.mono _ _ _
   | exact laws_toGrammar.mono _ _ _ _ _
   | exact laws_toInt64S.mono _ _
   | exact spec_MelodyNumber.mono _ _ _ _ _ _
   | exact LeO.none _
   | refine LeO.ite ?_ ?_
   | refine LeO.bind ?_ (fun _ => ?_)
theorem laws_FnExactMelodyNumber.mono : ∀ a0 a1 a2 a3 a4 k, LeO (laws_FnExactMelodyNumber.f k a0 a1 a2 a3 a4) (laws_FnExactMelodyNumber.f (k + 1) a0 a1 a2 a3 a4) := by
 intro a0 a1 a2 a3 a4 k
 have ih0 := laws_FnExactMelodyNumber.mono_l k
 unfold laws_FnExactMelodyNumber.f
 repeat' first
   | (with_reducible exact ih0 _ _ _ _ _ _ _ _ _ _ _)
   | (with_reducible exact impl_MelodyNumber.mono _ _ _ _ _ _)
   | (with_reducible exact laws_eqGrammar.mono _ _ _ _ _ _ _ _ _)
   | (with_reducible exact laws_eqInt64S.mono _ _ _)
   | (with_reducible exact laws_toGrammar.mono _ _ _ _ _)
   | (with_reducible exact laws_toInt64S.mono _ _)
   | (with_reducible exact spec_MelodyNumber.mono _ _ _ _ _ _)
   | (with_reducible exact LeO.refl _)
   | (with_reducible exact LeO.none _)
   | (with_reducible refine LeO.ite ?_ ?_)
   | (with_reducible refine LeO.bind ?_ (fun _ => ?_))
   | exact ih0 _ _ _ _ _ _ _ _ _ _ _
   | exact impl_MelodyNumber.mono _ _ _ _ _ _
   | exact laws_eqGrammar.mono _ _ _ _ _ _ _ _ _
   | exact laws_eqInt64S.mono _ _ _
   | exact laws_toGrammar.mono _ _ _ _ _
   | exact laws_toInt64S.mono _ _
   | exact spec_MelodyNumber.mono _ _ _ _ _ _
   | exact LeO.none _
   | refine LeO.ite ?_ ?_
   | refine LeO.bind ?_ (fun _ => ?_)
set_option maxHeartbeats 8000000 in
set_option maxRecDepth 100000 in
theorem laws_FnExactMelodyNumber.calls (k : Nat) (a0_0 : Int) (a0_1 : Int) (A0_2 : Option Addr) (c0_2 : Nat) (l0_2 : List Int) (A0_3 : Option Addr) (c0_3 : Nat) (l0_3 : List (S108)) (A1 : Option Addr) (c1 : Nat) (l1 : List Int) (r : Bool) (w : World) (hr0_2 : Kd.C (Kd.int .i64) w A0_2 l0_2.length l0_2) (hc0_2 : l0_2.length ≤ c0_2) (hr0_3 : Kd.C k108 w A0_3 l0_3.length l0_3) (hc0_3 : l0_3.length ≤ c0_3) (hr1 : Kd.C (Kd.int .i64) w A1 l1.length l1) (hc1 : l1.length ≤ c1) (h : laws_FnExactMelodyNumber.f k a0_0 a0_1 l0_2 l0_3 l1 = some r) :
  Calls Try.prog 11 #[.agg #[.int .i64 a0_0, .int .i64 a0_1, .slice A0_2 l0_2.length c0_2, .slice A0_3 l0_3.length c0_3], .slice A1 l1.length c1] w fun e w' => e = .returned (.bool r) ∧ Below w.heap.size w w' := by
 have hu25 := Try.underlying25
 have hu30 := Try.underlying30
 have HR0_2 := Aside0.mk hr0_2
 have HC0_2 := Aside0.mk hc0_2
 clear hr0_2 hc0_2
 have HR0_3 := Aside0.mk hr0_3
 have HC0_3 := Aside0.mk hc0_3
 clear hr0_3 hc0_3
 have HR1 := Aside0.mk hr1
 have HC1 := Aside0.mk hc1
 clear hr1 hc1
 have HB := Aside0.mk (Below.refl w.heap.size w)
 have H : (if (l1.length : Int) > 1048576 then (some true) else ((laws_szGrammar.f a0_0 a0_1 l0_2 l0_3 1048576).bind fun t332 => (if t332 < 0 then (some true) else ((laws_toGrammar.f k a0_0 a0_1 l0_2 l0_3).bind fun bt333 => ((laws_toInt64S.f k l1).bind fun t341 => ((spec_MelodyNumber.f k bt333.1 bt333.2.1 bt333.2.2.1 bt333.2.2.2 t341).bind fun bt344 => ((laws_toGrammar.f k a0_0 a0_1 l0_2 l0_3).bind fun bt346 => ((laws_toInt64S.f k l1).bind fun t355 => ((impl_MelodyNumber.f k bt346.1 bt346.2.1 bt346.2.2.1 bt346.2.2.2 t355).bind fun bt358 => (if bt358.1 = bt344.1 then (laws_FnExactMelodyNumber.j0 k l1 t355 (bt358.2 != bt344.2) a0_0 a0_1 l0_2 l0_3 bt346.1 bt346.2.1 bt346.2.2.1 bt346.2.2.2) else (laws_FnExactMelodyNumber.j0 k l1 t355 true a0_0 a0_1 l0_2 l0_3 bt346.1 bt346.2.1 bt346.2.2.1 bt346.2.2.2))))))))))) = some r := h
 clear h
 by_cases c3 : (l1.length : Int) > 1048576
 ·rw [if_pos c3] at H
  have c3b0 : decide (1048576 < (l1.length : Int)) = true := decide_eq_true c3
  have c3b1 : decide (1048576 < l1.length) = true := decide_eq_true (by omega)
  clear c3
  obtain rfl := Option.some.inj H
  go_enter Try.func11, Try.ntmps11
  go_wp2_with (first | ((with_reducible refine gate_dst (N := 2) rfl ?_); refine bE ?hg (N := 2) ?hd (cs := #[.int .i64 a0_0, .int .i64 a0_1, .slice A0_2 l0_2.length c0_2, .slice A0_3 l0_3.length c0_3]) (t := 25) ?hr ?_; (case hd => rfl); (case hg => rfl); (case hr => first | (go_simp; done) | (go_simp; rfl)); intro gb331 hg w4 hbox hb; have n0_ := Aside0.mk (bP (by repeat (first | (with_reducible first | exact HB.out | apply bA | apply bN | apply bD) | exact HB.out)) hb); have n1_ := Aside0.mk (hbox); have n2_ := Aside0.mk ((by rw [hg]; exact (bZ (by repeat (first | (with_reducible first | exact HB.out | apply bA | apply bN | apply bD) | exact HB.out))) : w.heap.size ≤ gb331)); have n3_ := Aside0.mk ((by rw [hg]; exact (bZ (by repeat (first | (with_reducible first | exact HB.out | apply bA | apply bN | apply bD) | exact HB.out))) : w.heap.size ≤ gb331)); clear HB; have HB := n0_; have BK331 := n1_; have GW331 := n2_; have GE331 := n3_; clear n0_ n1_ n2_ n3_; clear hb hbox hg))
  go_ret
  exact ⟨by first | rfl | (simp [errW_none, errW_some] <;> rfl) | (simp [*, errW_none, errW_some] <;> rfl), by repeat (first | (with_reducible first | exact HB.out | apply bA | apply bN | apply bD | refine bS ?_ GE331.out) | exact HB.out)⟩
 ·rw [if_neg c3] at H
  have c3b0 : decide (1048576 < (l1.length : Int)) = false := decide_eq_false c3
  have c3b1 : decide (1048576 < l1.length) = false := decide_eq_false (by omega)
  clear c3
  replace H := Option.bind_eq_some_iff.mp H
  obtain ⟨t332, A50, H⟩ := H
  replace H : (if t332 < 0 then (some true) else ((laws_toGrammar.f k a0_0 a0_1 l0_2 l0_3).bind fun bt333 => ((laws_toInt64S.f k l1).bind fun t341 => ((spec_MelodyNumber.f k bt333.1 bt333.2.1 bt333.2.2.1 bt333.2.2.2 t341).bind fun bt344 => ((laws_toGrammar.f k a0_0 a0_1 l0_2 l0_3).bind fun bt346 => ((laws_toInt64S.f k l1).bind fun t355 => ((impl_MelodyNumber.f k bt346.1 bt346.2.1 bt346.2.2.1 bt346.2.2.2 t355).bind fun bt358 => (if bt358.1 = bt344.1 then (laws_FnExactMelodyNumber.j0 k l1 t355 (bt358.2 != bt344.2) a0_0 a0_1 l0_2 l0_3 bt346.1 bt346.2.1 bt346.2.2.1 bt346.2.2.2) else (laws_FnExactMelodyNumber.j0 k l1 t355 true a0_0 a0_1 l0_2 l0_3 bt346.1 bt346.2.1 bt346.2.2.1 bt346.2.2.2))))))))) = some r := H
  have A5 := Aside0.mk A50
  clear A50
  by_cases c6 : t332 < 0
  ·rw [if_pos c6] at H
   have c6b0 : decide (t332 < 0) = true := decide_eq_true c6
   clear c6
   obtain rfl := Option.some.inj H
   go_enter Try.func11, Try.ntmps11
   go_wp2_with (first | ((with_reducible refine gate_dst (N := 2) rfl ?_); refine bE ?hg (N := 2) ?hd (cs := #[.int .i64 a0_0, .int .i64 a0_1, .slice A0_2 l0_2.length c0_2, .slice A0_3 l0_3.length c0_3]) (t := 25) ?hr ?_; (case hd => rfl); (case hg => rfl); (case hr => first | (go_simp; done) | (go_simp; rfl)); intro gb331 hg w7 hbox hb; have n0_ := Aside0.mk (bP (by repeat (first | (with_reducible first | exact HB.out | apply bA | apply bN | apply bD) | exact HB.out)) hb); have n1_ := Aside0.mk (hbox); have n2_ := Aside0.mk ((by rw [hg]; exact (bZ (by repeat (first | (with_reducible first | exact HB.out | apply bA | apply bN | apply bD) | exact HB.out))) : w.heap.size ≤ gb331)); have n3_ := Aside0.mk ((by rw [hg]; exact (bZ (by repeat (first | (with_reducible first | exact HB.out | apply bA | apply bN | apply bD) | exact HB.out))) : w.heap.size ≤ gb331)); clear HB; have HB := n0_; have BK331 := n1_; have GW331 := n2_; have GE331 := n3_; clear n0_ n1_ n2_ n3_; clear hb hbox hg; have hcz8_0 : w7.cell? ⟨gb331, 0, none⟩ = some (.int .i64 a0_0) := (kC BK331.out 0).trans rfl; have hcz8_1 : w7.cell? ⟨gb331, 1, none⟩ = some (.int .i64 a0_1) := (kC BK331.out 1).trans rfl; have hcz8_2 : w7.cell? ⟨gb331, 2, none⟩ = some (.slice A0_2 l0_2.length c0_2) := (kC BK331.out 2).trans rfl; have hcz8_3 : w7.cell? ⟨gb331, 3, none⟩ = some (.slice A0_3 l0_3.length c0_3) := (kC BK331.out 3).trans rfl; have hfz8_0 := blk_frozen BK331.out 0; have hfz8_1 := blk_frozen BK331.out 1; have hfz8_2 := blk_frozen BK331.out 2; have hfz8_3 := blk_frozen BK331.out 3) | ((with_reducible refine gC (f := 15) rfl ?_); refine goesL_ (some 17) rfl rfl Try.func15 (by kernel_rfl) rfl #[.agg #[.int .i64 a0_0, .int .i64 a0_1, .slice A0_2 l0_2.length c0_2, .slice A0_3 l0_3.length c0_3], .int .i64 1048576] rfl (by (try simp only [List.map_toArray, List.map_cons, List.map_nil]); first | done | rfl | (simp only [List.length_drop, List.length_take]; rfl)) ?_; (with_reducible refine (laws_szGrammar.calls a0_0 a0_1 _ _ l0_2 _ _ l0_3 1048576 t332 _ ?side1 ?side2 ?side3 ?side4 A5.out).mono ?_); (case side1 => repeat (first | exact (cB HR0_2.out HB.out) | (with_reducible refine cA ?_ _) | (with_reducible refine cN ?_ _) | (with_reducible refine cD ?_))); (case side2 => exact HC0_2.out); (case side3 => repeat (first | exact (cB HR0_3.out HB.out) | (with_reducible refine cA ?_ _) | (with_reducible refine cN ?_ _) | (with_reducible refine cD ?_))); (case side4 => exact HC0_3.out); rintro e w9 ⟨rfl, hb⟩; refine ⟨_, rfl, ?_⟩; have n0_ := Aside0.mk (kB (g := gb331) (o := .cells #[.int .i64 a0_0, .int .i64 a0_1, .slice A0_2 l0_2.length c0_2, .slice A0_3 l0_3.length c0_3] 25 (0, 0)) (by (with_reducible repeat (first | refine kN ?_ _ | refine kD ?_ | refine kA ?_ _)); exact BK331.out) hb); have n1_ := Aside0.mk (bP (by repeat (first | (with_reducible first | exact HB.out | apply bA | apply bN | apply bD | refine bS ?_ GE331.out) | exact HB.out)) hb); clear BK331; clear HB; have BK331 := n0_; have HB := n1_; clear n0_ n1_; (try clear hb); (try clear hb2); (try clear hk); (try clear hi)))
   go_ret
   exact ⟨by first | rfl | (simp [errW_none, errW_some] <;> rfl) | (simp [*, errW_none, errW_some] <;> rfl), by repeat (first | (with_reducible first | exact HB.out | apply bA | apply bN | apply bD | refine bS ?_ GE331.out) | exact HB.out)⟩
  ·rw [if_neg c6] at H
   have c6b0 : decide (t332 < 0) = false := decide_eq_false c6
   clear c6
   replace H := Option.bind_eq_some_iff.mp H
   obtain ⟨⟨t333, t334, t335, t338⟩, A100, H⟩ := H
   replace H : ((laws_toInt64S.f k l1).bind fun t341 => ((spec_MelodyNumber.f k t333 t334 t335 t338 t341).bind fun bt344 => ((laws_toGrammar.f k a0_0 a0_1 l0_2 l0_3).bind fun bt346 => ((laws_toInt64S.f k l1).bind fun t355 => ((impl_MelodyNumber.f k bt346.1 bt346.2.1 bt346.2.2.1 bt346.2.2.2 t355).bind fun bt358 => (if bt358.1 = bt344.1 then (laws_FnExactMelodyNumber.j0 k l1 t355 (bt358.2 != bt344.2) a0_0 a0_1 l0_2 l0_3 bt346.1 bt346.2.1 bt346.2.2.1 bt346.2.2.2) else (laws_FnExactMelodyNumber.j0 k l1 t355 true a0_0 a0_1 l0_2 l0_3 bt346.1 bt346.2.1 bt346.2.2.1 bt346.2.2.2))))))) = some r := H
   have A10 := Aside0.mk A100
   clear A100
   replace H := Option.bind_eq_some_iff.mp H
   obtain ⟨t341, A110, H⟩ := H
   replace H : ((spec_MelodyNumber.f k t333 t334 t335 t338 t341).bind fun bt344 => ((laws_toGrammar.f k a0_0 a0_1 l0_2 l0_3).bind fun bt346 => ((laws_toInt64S.f k l1).bind fun t355 => ((impl_MelodyNumber.f k bt346.1 bt346.2.1 bt346.2.2.1 bt346.2.2.2 t355).bind fun bt358 => (if bt358.1 = bt344.1 then (laws_FnExactMelodyNumber.j0 k l1 t355 (bt358.2 != bt344.2) a0_0 a0_1 l0_2 l0_3 bt346.1 bt346.2.1 bt346.2.2.1 bt346.2.2.2) else (laws_FnExactMelodyNumber.j0 k l1 t355 true a0_0 a0_1 l0_2 l0_3 bt346.1 bt346.2.1 bt346.2.2.1 bt346.2.2.2)))))) = some r := H
   have A11 := Aside0.mk A110
   clear A110
   replace H := Option.bind_eq_some_iff.mp H
   obtain ⟨⟨t344, t345⟩, A120, H⟩ := H
   replace H : ((laws_toGrammar.f k a0_0 a0_1 l0_2 l0_3).bind fun bt346 => ((laws_toInt64S.f k l1).bind fun t355 => ((impl_MelodyNumber.f k bt346.1 bt346.2.1 bt346.2.2.1 bt346.2.2.2 t355).bind fun bt358 => (if bt358.1 = t344 then (laws_FnExactMelodyNumber.j0 k l1 t355 (bt358.2 != t345) a0_0 a0_1 l0_2 l0_3 bt346.1 bt346.2.1 bt346.2.2.1 bt346.2.2.2) else (laws_FnExactMelodyNumber.j0 k l1 t355 true a0_0 a0_1 l0_2 l0_3 bt346.1 bt346.2.1 bt346.2.2.1 bt346.2.2.2))))) = some r := H
   have A12 := Aside0.mk A120
   clear A120
   replace H := Option.bind_eq_some_iff.mp H
   obtain ⟨⟨t346, t347, t348, t351⟩, A130, H⟩ := H
   replace H : ((laws_toInt64S.f k l1).bind fun t355 => ((impl_MelodyNumber.f k t346 t347 t348 t351 t355).bind fun bt358 => (if bt358.1 = t344 then (laws_FnExactMelodyNumber.j0 k l1 t355 (bt358.2 != t345) a0_0 a0_1 l0_2 l0_3 t346 t347 t348 t351) else (laws_FnExactMelodyNumber.j0 k l1 t355 true a0_0 a0_1 l0_2 l0_3 t346 t347 t348 t351)))) = some r := H
   have A13 := Aside0.mk A130
   clear A130
   replace H := Option.bind_eq_some_iff.mp H
   obtain ⟨t355, A140, H⟩ := H
   replace H : ((impl_MelodyNumber.f k t346 t347 t348 t351 t355).bind fun bt358 => (if bt358.1 = t344 then (laws_FnExactMelodyNumber.j0 k l1 t355 (bt358.2 != t345) a0_0 a0_1 l0_2 l0_3 t346 t347 t348 t351) else (laws_FnExactMelodyNumber.j0 k l1 t355 true a0_0 a0_1 l0_2 l0_3 t346 t347 t348 t351))) = some r := H
   have A14 := Aside0.mk A140
   clear A140
   replace H := Option.bind_eq_some_iff.mp H
   obtain ⟨⟨t358, t359⟩, A150, H⟩ := H
   replace H : (if t358 = t344 then (laws_FnExactMelodyNumber.j0 k l1 t355 (t359 != t345) a0_0 a0_1 l0_2 l0_3 t346 t347 t348 t351) else (laws_FnExactMelodyNumber.j0 k l1 t355 true a0_0 a0_1 l0_2 l0_3 t346 t347 t348 t351)) = some r := H
   have A15 := Aside0.mk A150
   clear A150
   have HC16 := Aside0.mk H
   clear H
   go_enter Try.func11, Try.ntmps11
   go_upto_region 11 with (first | ((with_reducible refine gate_dst (N := 2) rfl ?_); refine bE ?hg (N := 2) ?hd (cs := #[.int .i64 a0_0, .int .i64 a0_1, .slice A0_2 l0_2.length c0_2, .slice A0_3 l0_3.length c0_3]) (t := 25) ?hr ?_; (case hd => rfl); (case hg => rfl); (case hr => first | (go_simp; done) | (go_simp; rfl)); intro gb331 hg w17 hbox hb; have n0_ := Aside0.mk (bP (by repeat (first | (with_reducible first | exact HB.out | apply bA | apply bN | apply bD) | exact HB.out)) hb); have n1_ := Aside0.mk (hbox); have n2_ := Aside0.mk ((by rw [hg]; exact (bZ (by repeat (first | (with_reducible first | exact HB.out | apply bA | apply bN | apply bD) | exact HB.out))) : w.heap.size ≤ gb331)); have n3_ := Aside0.mk ((by rw [hg]; exact (bZ (by repeat (first | (with_reducible first | exact HB.out | apply bA | apply bN | apply bD) | exact HB.out))) : w.heap.size ≤ gb331)); clear HB; have HB := n0_; have BK331 := n1_; have GW331 := n2_; have GE331 := n3_; clear n0_ n1_ n2_ n3_; clear hb hbox hg; have hcz18_0 : w17.cell? ⟨gb331, 0, none⟩ = some (.int .i64 a0_0) := (kC BK331.out 0).trans rfl; have hcz18_1 : w17.cell? ⟨gb331, 1, none⟩ = some (.int .i64 a0_1) := (kC BK331.out 1).trans rfl; have hcz18_2 : w17.cell? ⟨gb331, 2, none⟩ = some (.slice A0_2 l0_2.length c0_2) := (kC BK331.out 2).trans rfl; have hcz18_3 : w17.cell? ⟨gb331, 3, none⟩ = some (.slice A0_3 l0_3.length c0_3) := (kC BK331.out 3).trans rfl; have hfz18_0 := blk_frozen BK331.out 0; have hfz18_1 := blk_frozen BK331.out 1; have hfz18_2 := blk_frozen BK331.out 2; have hfz18_3 := blk_frozen BK331.out 3) | ((with_reducible refine gC (f := 15) rfl ?_); refine goesL_ (some 17) rfl rfl Try.func15 (by kernel_rfl) rfl #[.agg #[.int .i64 a0_0, .int .i64 a0_1, .slice A0_2 l0_2.length c0_2, .slice A0_3 l0_3.length c0_3], .int .i64 1048576] rfl (by (try simp only [List.map_toArray, List.map_cons, List.map_nil]); first | done | rfl | (simp only [List.length_drop, List.length_take]; rfl)) ?_; (with_reducible refine (laws_szGrammar.calls a0_0 a0_1 _ _ l0_2 _ _ l0_3 1048576 t332 _ ?side1 ?side2 ?side3 ?side4 A5.out).mono ?_); (case side1 => repeat (first | exact (cB HR0_2.out HB.out) | (with_reducible refine cA ?_ _) | (with_reducible refine cN ?_ _) | (with_reducible refine cD ?_))); (case side2 => exact HC0_2.out); (case side3 => repeat (first | exact (cB HR0_3.out HB.out) | (with_reducible refine cA ?_ _) | (with_reducible refine cN ?_ _) | (with_reducible refine cD ?_))); (case side4 => exact HC0_3.out); rintro e w19 ⟨rfl, hb⟩; refine ⟨_, rfl, ?_⟩; have n0_ := Aside0.mk (kB (g := gb331) (o := .cells #[.int .i64 a0_0, .int .i64 a0_1, .slice A0_2 l0_2.length c0_2, .slice A0_3 l0_3.length c0_3] 25 (0, 0)) (by (with_reducible repeat (first | refine kN ?_ _ | refine kD ?_ | refine kA ?_ _)); exact BK331.out) hb); have n1_ := Aside0.mk (bP (by repeat (first | (with_reducible first | exact HB.out | apply bA | apply bN | apply bD | refine bS ?_ GE331.out) | exact HB.out)) hb); clear BK331; clear HB; have BK331 := n0_; have HB := n1_; clear n0_ n1_; (try clear hb); (try clear hb2); (try clear hk); (try clear hi); have hcz20_0 : w19.cell? ⟨gb331, 0, none⟩ = some (.int .i64 a0_0) := (kC BK331.out 0).trans rfl; have hcz20_1 : w19.cell? ⟨gb331, 1, none⟩ = some (.int .i64 a0_1) := (kC BK331.out 1).trans rfl; have hcz20_2 : w19.cell? ⟨gb331, 2, none⟩ = some (.slice A0_2 l0_2.length c0_2) := (kC BK331.out 2).trans rfl; have hcz20_3 : w19.cell? ⟨gb331, 3, none⟩ = some (.slice A0_3 l0_3.length c0_3) := (kC BK331.out 3).trans rfl; have hfz20_0 := blk_frozen BK331.out 0; have hfz20_1 := blk_frozen BK331.out 1; have hfz20_2 := blk_frozen BK331.out 2; have hfz20_3 := blk_frozen BK331.out 3) | ((with_reducible refine gC (f := 17) rfl ?_); refine goesL_ (some 22) rfl rfl Try.func17 (by kernel_rfl) rfl #[.agg #[.int .i64 a0_0, .int .i64 a0_1, .slice A0_2 l0_2.length c0_2, .slice A0_3 l0_3.length c0_3]] rfl (by (try simp only [List.map_toArray, List.map_cons, List.map_nil]); first | done | rfl | (simp only [List.length_drop, List.length_take]; rfl)) ?_; (with_reducible refine (laws_toGrammar.calls k a0_0 a0_1 _ _ l0_2 _ _ l0_3 t333 t334 t335 t338 _ ?side1 ?side2 ?side3 ?side4 A10.out).mono ?_); (case side1 => repeat (first | exact (cB HR0_2.out HB.out) | (with_reducible refine cA ?_ _) | (with_reducible refine cN ?_ _) | (with_reducible refine cD ?_))); (case side2 => exact HC0_2.out); (case side3 => repeat (first | exact (cB HR0_3.out HB.out) | (with_reducible refine cA ?_ _) | (with_reducible refine cN ?_ _) | (with_reducible refine cD ?_))); (case side4 => exact HC0_3.out); rintro e w21 ⟨v336, v339, rfl, ho0, ho1, hb⟩; refine ⟨_, rfl, ?_⟩; have n0_ := Aside0.mk (rL ho0 (bZ (by repeat (first | (with_reducible first | exact HB.out | apply bA | apply bN | apply bD | refine bS ?_ GE331.out) | exact HB.out)))); have n1_ := Aside0.mk (rL ho1 (bZ (by repeat (first | (with_reducible first | exact HB.out | apply bA | apply bN | apply bD | refine bS ?_ GE331.out) | exact HB.out)))); have n2_ := Aside0.mk (kB (g := gb331) (o := .cells #[.int .i64 a0_0, .int .i64 a0_1, .slice A0_2 l0_2.length c0_2, .slice A0_3 l0_3.length c0_3] 25 (0, 0)) (by (with_reducible repeat (first | refine kN ?_ _ | refine kD ?_ | refine kA ?_ _)); exact BK331.out) hb); have n3_ := Aside0.mk (bP (by repeat (first | (with_reducible first | exact HB.out | apply bA | apply bN | apply bD | refine bS ?_ GE331.out) | exact HB.out)) hb); clear BK331; clear HB; have HO337 := n0_; have HO340 := n1_; have BK331 := n2_; have HB := n3_; clear n0_ n1_ n2_ n3_; (try clear hb); (try clear hb2); (try clear hk); (try clear hi); (try clear ho0); (try clear ho1)) | ((with_reducible refine gC (f := 25) rfl ?_); refine goesL_ (some 24) rfl rfl Try.func25 (by kernel_rfl) rfl #[.slice A1 l1.length c1] rfl (by (try simp only [List.map_toArray, List.map_cons, List.map_nil]); first | done | rfl | (simp only [List.length_drop, List.length_take]; rfl)) ?_; (with_reducible refine (laws_toInt64S.calls k _ _ l1 t341 _ ?side1 ?side2 A11.out).mono ?_); (case side1 => repeat (first | exact (cB HR1.out HB.out) | (with_reducible refine cA ?_ _) | (with_reducible refine cN ?_ _) | (with_reducible refine cD ?_))); (case side2 => exact HC1.out); rintro e w22 ⟨v342, rfl, ho0, hb⟩; refine ⟨_, rfl, ?_⟩; have n0_ := Aside0.mk (rE (by (with_reducible repeat (first | apply rA | apply rN | apply rD)); exact HO337.out) (Kd.R_base ho0) hb); have n1_ := Aside0.mk (rB (by (with_reducible repeat (first | apply rA | apply rN | apply rD)); exact HO340.out) hb); have n2_ := Aside0.mk (rL (rW ho0 (rT (by (with_reducible repeat (first | apply rA | apply rN | apply rD)); exact HO337.out))) (bZ (by repeat (first | (with_reducible first | exact HB.out | apply bA | apply bN | apply bD | refine bS ?_ GE331.out) | exact HB.out)))); have n3_ := Aside0.mk (kB (g := gb331) (o := .cells #[.int .i64 a0_0, .int .i64 a0_1, .slice A0_2 l0_2.length c0_2, .slice A0_3 l0_3.length c0_3] 25 (0, 0)) (by (with_reducible repeat (first | refine kN ?_ _ | refine kD ?_ | refine kA ?_ _)); exact BK331.out) hb); have n4_ := Aside0.mk (bP (by repeat (first | (with_reducible first | exact HB.out | apply bA | apply bN | apply bD | refine bS ?_ GE331.out) | exact HB.out)) hb); clear HO337; clear HO340; clear BK331; clear HB; have HO337 := n0_; have HO340 := n1_; have HO343 := n2_; have BK331 := n3_; have HB := n4_; clear n0_ n1_ n2_ n3_ n4_; (try clear hb); (try clear hb2); (try clear hk); (try clear hi); (try clear ho0); obtain ⟨Ao23, co23, eo23⟩ := Kd.R_slice HO337.out; subst eo23; obtain ⟨Ao24, co24, eo24⟩ := Kd.R_slice HO340.out; subst eo24; obtain ⟨Ao25, co25, eo25⟩ := Kd.R_slice HO343.out; subst eo25) | ((with_reducible refine gC (f := 39) rfl ?_); refine goesL_ (some 25) rfl rfl Try.func39 (by kernel_rfl) rfl #[.agg #[.int .i64 t333, .int .i64 t334, .slice Ao23 t335.length co23, .slice Ao24 t338.length co24], .slice Ao25 t341.length co25] rfl (by (try simp only [List.map_toArray, List.map_cons, List.map_nil]); first | done | rfl | (simp only [List.length_drop, List.length_take]; rfl)) ?_; (with_reducible refine (spec_MelodyNumber.calls k t333 t334 _ _ t335 _ _ t338 _ _ t341 t344 t345 _ ?side1 ?side2 ?side3 ?side4 ?side5 ?side6 A12.out).mono ?_); (case side1 => repeat (first | exact (Kd.R_reads' HO337.out).2.2 | (with_reducible refine cA ?_ _) | (with_reducible refine cN ?_ _) | (with_reducible refine cD ?_))); (case side2 => exact (Kd.R_reads' HO337.out).2.1); (case side3 => repeat (first | exact (Kd.R_reads' HO340.out).2.2 | (with_reducible refine cA ?_ _) | (with_reducible refine cN ?_ _) | (with_reducible refine cD ?_))); (case side4 => exact (Kd.R_reads' HO340.out).2.1); (case side5 => repeat (first | exact (Kd.R_reads' HO343.out).2.2 | (with_reducible refine cA ?_ _) | (with_reducible refine cN ?_ _) | (with_reducible refine cD ?_))); (case side6 => exact (Kd.R_reads' HO343.out).2.1); rintro e w26 ⟨rfl, hb⟩; refine ⟨_, rfl, ?_⟩; have n0_ := Aside0.mk (rB (by (with_reducible repeat (first | apply rA | apply rN | apply rD)); exact HO337.out) hb); have n1_ := Aside0.mk (rB (by (with_reducible repeat (first | apply rA | apply rN | apply rD)); exact HO340.out) hb); have n2_ := Aside0.mk (rB (by (with_reducible repeat (first | apply rA | apply rN | apply rD)); exact HO343.out) hb); have n3_ := Aside0.mk (kB (g := gb331) (o := .cells #[.int .i64 a0_0, .int .i64 a0_1, .slice A0_2 l0_2.length c0_2, .slice A0_3 l0_3.length c0_3] 25 (0, 0)) (by (with_reducible repeat (first | refine kN ?_ _ | refine kD ?_ | refine kA ?_ _)); exact BK331.out) hb); have n4_ := Aside0.mk (bP (by repeat (first | (with_reducible first | exact HB.out | apply bA | apply bN | apply bD | refine bS ?_ GE331.out) | exact HB.out)) hb); clear HO337; clear HO340; clear HO343; clear BK331; clear HB; have HO337 := n0_; have HO340 := n1_; have HO343 := n2_; have BK331 := n3_; have HB := n4_; clear n0_ n1_ n2_ n3_ n4_; (try clear hb); (try clear hb2); (try clear hk); (try clear hi); have hcz27_0 : w26.cell? ⟨gb331, 0, none⟩ = some (.int .i64 a0_0) := (kC BK331.out 0).trans rfl; have hcz27_1 : w26.cell? ⟨gb331, 1, none⟩ = some (.int .i64 a0_1) := (kC BK331.out 1).trans rfl; have hcz27_2 : w26.cell? ⟨gb331, 2, none⟩ = some (.slice A0_2 l0_2.length c0_2) := (kC BK331.out 2).trans rfl; have hcz27_3 : w26.cell? ⟨gb331, 3, none⟩ = some (.slice A0_3 l0_3.length c0_3) := (kC BK331.out 3).trans rfl; have hfz27_0 := blk_frozen BK331.out 0; have hfz27_1 := blk_frozen BK331.out 1; have hfz27_2 := blk_frozen BK331.out 2; have hfz27_3 := blk_frozen BK331.out 3) | ((with_reducible refine gC (f := 17) rfl ?_); refine goesL_ (some 29) rfl rfl Try.func17 (by kernel_rfl) rfl #[.agg #[.int .i64 a0_0, .int .i64 a0_1, .slice A0_2 l0_2.length c0_2, .slice A0_3 l0_3.length c0_3]] rfl (by (try simp only [List.map_toArray, List.map_cons, List.map_nil]); first | done | rfl | (simp only [List.length_drop, List.length_take]; rfl)) ?_; (with_reducible refine (laws_toGrammar.calls k a0_0 a0_1 _ _ l0_2 _ _ l0_3 t346 t347 t348 t351 _ ?side1 ?side2 ?side3 ?side4 A13.out).mono ?_); (case side1 => repeat (first | exact (cB HR0_2.out HB.out) | (with_reducible refine cA ?_ _) | (with_reducible refine cN ?_ _) | (with_reducible refine cD ?_))); (case side2 => exact HC0_2.out); (case side3 => repeat (first | exact (cB HR0_3.out HB.out) | (with_reducible refine cA ?_ _) | (with_reducible refine cN ?_ _) | (with_reducible refine cD ?_))); (case side4 => exact HC0_3.out); rintro e w28 ⟨v349, v352, rfl, ho0, ho1, hb⟩; refine ⟨_, rfl, ?_⟩; have n0_ := Aside0.mk (rE (by (with_reducible repeat (first | apply rA | apply rN | apply rD)); exact HO337.out) (Kd.R_base ho0) hb); have n1_ := Aside0.mk (rE (by (with_reducible repeat (first | apply rA | apply rN | apply rD)); exact HO340.out) (Kd.R_base ho1) hb); have n2_ := Aside0.mk (rE (by (with_reducible repeat (first | apply rA | apply rN | apply rD)); exact HO343.out) (Kd.R_base ho0) hb); have n3_ := Aside0.mk (rL (rW (rW ho0 (rT (by (with_reducible repeat (first | apply rA | apply rN | apply rD)); exact HO337.out))) (rT (by (with_reducible repeat (first | apply rA | apply rN | apply rD)); exact HO343.out))) (bZ (by repeat (first | (with_reducible first | exact HB.out | apply bA | apply bN | apply bD | refine bS ?_ GE331.out) | exact HB.out)))); have n4_ := Aside0.mk (rL (rW ho1 (rT (by (with_reducible repeat (first | apply rA | apply rN | apply rD)); exact HO340.out))) (bZ (by repeat (first | (with_reducible first | exact HB.out | apply bA | apply bN | apply bD | refine bS ?_ GE331.out) | exact HB.out)))); have n5_ := Aside0.mk (kB (g := gb331) (o := .cells #[.int .i64 a0_0, .int .i64 a0_1, .slice A0_2 l0_2.length c0_2, .slice A0_3 l0_3.length c0_3] 25 (0, 0)) (by (with_reducible repeat (first | refine kN ?_ _ | refine kD ?_ | refine kA ?_ _)); exact BK331.out) hb); have n6_ := Aside0.mk (bP (by repeat (first | (with_reducible first | exact HB.out | apply bA | apply bN | apply bD | refine bS ?_ GE331.out) | exact HB.out)) hb); clear HO337; clear HO340; clear HO343; clear BK331; clear HB; have HO337 := n0_; have HO340 := n1_; have HO343 := n2_; have HO350 := n3_; have HO353 := n4_; have BK331 := n5_; have HB := n6_; clear n0_ n1_ n2_ n3_ n4_ n5_ n6_; (try clear hb); (try clear hb2); (try clear hk); (try clear hi); (try clear ho0); (try clear ho1)) | ((with_reducible refine gate_dst (N := 8) rfl ?_); refine bE ?hg (N := 8) ?hd (cs := #[.int .i64 0, .int .i64 0, .slice none 0 0, .slice none 0 0]) (t := 30) ?hr ?_; (case hd => rfl); (case hg => rfl); (case hr => first | (go_simp; done) | (go_simp; rfl)); intro gb354 hg w29 hbox hb; have n0_ := Aside0.mk (rB (by (with_reducible repeat (first | apply rA | apply rN | apply rD)); exact HO337.out) hb); have n1_ := Aside0.mk (rB (by (with_reducible repeat (first | apply rA | apply rN | apply rD)); exact HO340.out) hb); have n2_ := Aside0.mk (rB (by (with_reducible repeat (first | apply rA | apply rN | apply rD)); exact HO343.out) hb); have n3_ := Aside0.mk (rB (by (with_reducible repeat (first | apply rA | apply rN | apply rD)); exact HO350.out) hb); have n4_ := Aside0.mk (rB (by (with_reducible repeat (first | apply rA | apply rN | apply rD)); exact HO353.out) hb); have n5_ := Aside0.mk (kB (g := gb331) (o := .cells #[.int .i64 a0_0, .int .i64 a0_1, .slice A0_2 l0_2.length c0_2, .slice A0_3 l0_3.length c0_3] 25 (0, 0)) (by (with_reducible repeat (first | refine kN ?_ _ | refine kD ?_ | refine kA ?_ _)); exact BK331.out) hb); have n6_ := Aside0.mk (bP (by repeat (first | (with_reducible first | exact HB.out | apply bA | apply bN | apply bD | refine bS ?_ GE331.out) | exact HB.out)) hb); have n7_ := Aside0.mk (hbox); have n8_ := Aside0.mk ((by rw [hg]; exact (bZ (by repeat (first | (with_reducible first | exact HB.out | apply bA | apply bN | apply bD | refine bS ?_ GE331.out) | exact HB.out))) : w.heap.size ≤ gb354)); have n9_ := Aside0.mk ((by rw [hg]; exact (bZ (by repeat (first | (with_reducible first | exact HB.out | apply bA | apply bN | apply bD | refine bS ?_ GE331.out) | exact HB.out))) : w.heap.size ≤ gb354)); have n10_ := Aside0.mk ((by rw [hg]; exact Nat.ne_of_lt (kL (g := gb331) (o := .cells #[.int .i64 a0_0, .int .i64 a0_1, .slice A0_2 l0_2.length c0_2, .slice A0_3 l0_3.length c0_3] 25 (0, 0)) (by (with_reducible repeat (first | refine kN ?_ _ | refine kD ?_ | refine kA ?_ _)); exact BK331.out)) : gb331 ≠ gb354)); have n11_ := Aside0.mk ((by rw [hg]; exact Nat.ne_of_gt (kL (g := gb331) (o := .cells #[.int .i64 a0_0, .int .i64 a0_1, .slice A0_2 l0_2.length c0_2, .slice A0_3 l0_3.length c0_3] 25 (0, 0)) (by (with_reducible repeat (first | refine kN ?_ _ | refine kD ?_ | refine kA ?_ _)); exact BK331.out)) : gb354 ≠ gb331)); clear HO337; clear HO340; clear HO343; clear HO350; clear HO353; clear BK331; clear HB; have HO337 := n0_; have HO340 := n1_; have HO343 := n2_; have HO350 := n3_; have HO353 := n4_; have BK331 := n5_; have HB := n6_; have BK354 := n7_; have GW354 := n8_; have GE354 := n9_; have NB331_354 := n10_; have NB354_331 := n11_; clear n0_ n1_ n2_ n3_ n4_ n5_ n6_ n7_ n8_ n9_ n10_ n11_; clear hb hbox hg; have hnb30 := NB354_331.out; have hnc30 := NB331_354.out; have hcz31_0 : w29.cell? ⟨gb354, 0, none⟩ = some (.int .i64 0) := (kC BK354.out 0).trans rfl; have hcz31_1 : w29.cell? ⟨gb354, 1, none⟩ = some (.int .i64 0) := (kC BK354.out 1).trans rfl; have hcz31_2 : w29.cell? ⟨gb354, 2, none⟩ = some (.slice none 0 0) := (kC BK354.out 2).trans rfl; have hcz31_3 : w29.cell? ⟨gb354, 3, none⟩ = some (.slice none 0 0) := (kC BK354.out 3).trans rfl; have hfz31_0 := blk_frozen BK354.out 0; have hfz31_1 := blk_frozen BK354.out 1; have hfz31_2 := blk_frozen BK354.out 2; have hfz31_3 := blk_frozen BK354.out 3; obtain ⟨Ao32, co32, eo32⟩ := Kd.R_slice HO350.out; subst eo32; obtain ⟨Ao33, co33, eo33⟩ := Kd.R_slice HO353.out; subst eo33) | ((with_reducible refine gC (f := 25) rfl ?_); refine goesL_ (some 31) rfl rfl Try.func25 (by kernel_rfl) rfl #[.slice A1 l1.length c1] rfl (by (try simp only [List.map_toArray, List.map_cons, List.map_nil]); first | done | rfl | (simp only [List.length_drop, List.length_take]; rfl)) ?_; (with_reducible refine (laws_toInt64S.calls k _ _ l1 t355 _ ?side1 ?side2 A14.out).mono ?_); (case side1 => exact cB HR1.out (by repeat (first | (with_reducible first | exact HB.out | apply bA | apply bN | apply bD | refine bS ?_ GE331.out | refine bS ?_ GE354.out) | exact HB.out))); (case side2 => exact HC1.out); rintro e w34 ⟨v356, rfl, ho0, hb⟩; refine ⟨_, rfl, ?_⟩; have n0_ := Aside0.mk (rE (by (with_reducible repeat (first | apply rA | apply rN | apply rD)); exact (rM (Kd.R_far (p := ⟨gb354, 3, none⟩) (Kd.R_far (p := ⟨gb354, 2, none⟩) (Kd.R_far (p := ⟨gb354, 1, none⟩) (Kd.R_far (p := ⟨gb354, 0, none⟩) (Kd.R_types HO337.out BK354.out (by decide)) (fun _ hk => hk.2) (.int .i64 t346)) (fun _ hk => hk.2) (.int .i64 t347)) (fun _ hk => hk.2) (.slice Ao32 t348.length co32)) (fun _ hk => hk.2) (.slice Ao33 t351.length co33)) (fun _ h_ => h_.1))) (Kd.R_base ho0) hb); have n1_ := Aside0.mk (rB (by (with_reducible repeat (first | apply rA | apply rN | apply rD)); exact (rM (Kd.R_far (p := ⟨gb354, 3, none⟩) (Kd.R_far (p := ⟨gb354, 2, none⟩) (Kd.R_far (p := ⟨gb354, 1, none⟩) (Kd.R_far (p := ⟨gb354, 0, none⟩) (Kd.R_types HO340.out BK354.out (by decide)) (fun _ hk => hk.2) (.int .i64 t346)) (fun _ hk => hk.2) (.int .i64 t347)) (fun _ hk => hk.2) (.slice Ao32 t348.length co32)) (fun _ hk => hk.2) (.slice Ao33 t351.length co33)) (fun _ h_ => h_.1))) hb); have n2_ := Aside0.mk (rE (by (with_reducible repeat (first | apply rA | apply rN | apply rD)); exact (rM (Kd.R_far (p := ⟨gb354, 3, none⟩) (Kd.R_far (p := ⟨gb354, 2, none⟩) (Kd.R_far (p := ⟨gb354, 1, none⟩) (Kd.R_far (p := ⟨gb354, 0, none⟩) (Kd.R_types HO343.out BK354.out (by decide)) (fun _ hk => hk.2) (.int .i64 t346)) (fun _ hk => hk.2) (.int .i64 t347)) (fun _ hk => hk.2) (.slice Ao32 t348.length co32)) (fun _ hk => hk.2) (.slice Ao33 t351.length co33)) (fun _ h_ => h_.1))) (Kd.R_base ho0) hb); have n3_ := Aside0.mk (rE (by (with_reducible repeat (first | apply rA | apply rN | apply rD)); exact (rM (Kd.R_far (p := ⟨gb354, 3, none⟩) (Kd.R_far (p := ⟨gb354, 2, none⟩) (Kd.R_far (p := ⟨gb354, 1, none⟩) (Kd.R_far (p := ⟨gb354, 0, none⟩) (Kd.R_types HO350.out BK354.out (by decide)) (fun _ hk => hk.2) (.int .i64 t346)) (fun _ hk => hk.2) (.int .i64 t347)) (fun _ hk => hk.2) (.slice Ao32 t348.length co32)) (fun _ hk => hk.2) (.slice Ao33 t351.length co33)) (fun _ h_ => h_.1))) (Kd.R_base ho0) hb); have n4_ := Aside0.mk (rB (by (with_reducible repeat (first | apply rA | apply rN | apply rD)); exact (rM (Kd.R_far (p := ⟨gb354, 3, none⟩) (Kd.R_far (p := ⟨gb354, 2, none⟩) (Kd.R_far (p := ⟨gb354, 1, none⟩) (Kd.R_far (p := ⟨gb354, 0, none⟩) (Kd.R_types HO353.out BK354.out (by decide)) (fun _ hk => hk.2) (.int .i64 t346)) (fun _ hk => hk.2) (.int .i64 t347)) (fun _ hk => hk.2) (.slice Ao32 t348.length co32)) (fun _ hk => hk.2) (.slice Ao33 t351.length co33)) (fun _ h_ => h_.1))) hb); have n5_ := Aside0.mk (rL (rW (rW (rW ho0 (rT (by (with_reducible repeat (first | apply rA | apply rN | apply rD)); exact (rM (Kd.R_far (p := ⟨gb354, 3, none⟩) (Kd.R_far (p := ⟨gb354, 2, none⟩) (Kd.R_far (p := ⟨gb354, 1, none⟩) (Kd.R_far (p := ⟨gb354, 0, none⟩) (Kd.R_types HO337.out BK354.out (by decide)) (fun _ hk => hk.2) (.int .i64 t346)) (fun _ hk => hk.2) (.int .i64 t347)) (fun _ hk => hk.2) (.slice Ao32 t348.length co32)) (fun _ hk => hk.2) (.slice Ao33 t351.length co33)) (fun _ h_ => h_.1))))) (rT (by (with_reducible repeat (first | apply rA | apply rN | apply rD)); exact (rM (Kd.R_far (p := ⟨gb354, 3, none⟩) (Kd.R_far (p := ⟨gb354, 2, none⟩) (Kd.R_far (p := ⟨gb354, 1, none⟩) (Kd.R_far (p := ⟨gb354, 0, none⟩) (Kd.R_types HO343.out BK354.out (by decide)) (fun _ hk => hk.2) (.int .i64 t346)) (fun _ hk => hk.2) (.int .i64 t347)) (fun _ hk => hk.2) (.slice Ao32 t348.length co32)) (fun _ hk => hk.2) (.slice Ao33 t351.length co33)) (fun _ h_ => h_.1))))) (rT (by (with_reducible repeat (first | apply rA | apply rN | apply rD)); exact (rM (Kd.R_far (p := ⟨gb354, 3, none⟩) (Kd.R_far (p := ⟨gb354, 2, none⟩) (Kd.R_far (p := ⟨gb354, 1, none⟩) (Kd.R_far (p := ⟨gb354, 0, none⟩) (Kd.R_types HO350.out BK354.out (by decide)) (fun _ hk => hk.2) (.int .i64 t346)) (fun _ hk => hk.2) (.int .i64 t347)) (fun _ hk => hk.2) (.slice Ao32 t348.length co32)) (fun _ hk => hk.2) (.slice Ao33 t351.length co33)) (fun _ h_ => h_.1))))) (bZ (by repeat (first | (with_reducible first | exact HB.out | apply bA | apply bN | apply bD | refine bS ?_ GE331.out | refine bS ?_ GE354.out) | exact HB.out)))); have n6_ := Aside0.mk (kB (g := gb331) (o := .cells #[.int .i64 a0_0, .int .i64 a0_1, .slice A0_2 l0_2.length c0_2, .slice A0_3 l0_3.length c0_3] 25 (0, 0)) (by (with_reducible repeat (first | refine kN ?_ _ | refine kD ?_ | refine kA ?_ _)); refine kF ?_ NB331_354.out _; (with_reducible repeat (first | refine kN ?_ _ | refine kD ?_ | refine kA ?_ _)); refine kF ?_ NB331_354.out _; (with_reducible repeat (first | refine kN ?_ _ | refine kD ?_ | refine kA ?_ _)); refine kF ?_ NB331_354.out _; (with_reducible repeat (first | refine kN ?_ _ | refine kD ?_ | refine kA ?_ _)); refine kF ?_ NB331_354.out _; (with_reducible repeat (first | refine kN ?_ _ | refine kD ?_ | refine kA ?_ _)); exact BK331.out) hb); have n7_ := Aside0.mk (kB (g := gb354) (o := .cells #[.int .i64 t346, .int .i64 t347, .slice Ao32 t348.length co32, .slice Ao33 t351.length co33] 30 (0, 0)) (by (with_reducible repeat (first | refine kN ?_ _ | refine kD ?_ | refine kA ?_ _)); refine blk_put (cs := #[.int .i64 t346, .int .i64 t347, .slice Ao32 t348.length co32, .slice none 0 0]) ?_ 3 _ rfl; (with_reducible repeat (first | refine kN ?_ _ | refine kD ?_ | refine kA ?_ _)); refine blk_put (cs := #[.int .i64 t346, .int .i64 t347, .slice none 0 0, .slice none 0 0]) ?_ 2 _ rfl; (with_reducible repeat (first | refine kN ?_ _ | refine kD ?_ | refine kA ?_ _)); refine blk_put (cs := #[.int .i64 t346, .int .i64 0, .slice none 0 0, .slice none 0 0]) ?_ 1 _ rfl; (with_reducible repeat (first | refine kN ?_ _ | refine kD ?_ | refine kA ?_ _)); refine blk_put (cs := #[.int .i64 0, .int .i64 0, .slice none 0 0, .slice none 0 0]) ?_ 0 _ rfl; (with_reducible repeat (first | refine kN ?_ _ | refine kD ?_ | refine kA ?_ _)); exact BK354.out) hb); have n8_ := Aside0.mk (bP (by repeat (first | (with_reducible first | exact HB.out | apply bA | apply bN | apply bD | refine bS ?_ GE331.out | refine bS ?_ GE354.out) | exact HB.out)) hb); clear HO337; clear HO340; clear HO343; clear HO350; clear HO353; clear BK331; clear BK354; clear HB; have HO337 := n0_; have HO340 := n1_; have HO343 := n2_; have HO350 := n3_; have HO353 := n4_; have HO357 := n5_; have BK331 := n6_; have BK354 := n7_; have HB := n8_; clear n0_ n1_ n2_ n3_ n4_ n5_ n6_ n7_ n8_; (try clear hb); (try clear hb2); (try clear hk); (try clear hi); (try clear ho0); have hcz35_0 : w34.cell? ⟨gb354, 0, none⟩ = some (.int .i64 t346) := (kC BK354.out 0).trans rfl; have hcz35_1 : w34.cell? ⟨gb354, 1, none⟩ = some (.int .i64 t347) := (kC BK354.out 1).trans rfl; have hcz35_2 : w34.cell? ⟨gb354, 2, none⟩ = some (.slice Ao32 t348.length co32) := (kC BK354.out 2).trans rfl; have hcz35_3 : w34.cell? ⟨gb354, 3, none⟩ = some (.slice Ao33 t351.length co33) := (kC BK354.out 3).trans rfl; have hfz35_0 := blk_frozen BK354.out 0; have hfz35_1 := blk_frozen BK354.out 1; have hfz35_2 := blk_frozen BK354.out 2; have hfz35_3 := blk_frozen BK354.out 3; obtain ⟨Ao36, co36, eo36⟩ := Kd.R_slice HO357.out; subst eo36) | ((with_reducible refine gC (f := 40) rfl ?_); refine goesL_ (some 35) rfl rfl Try.func40 (by kernel_rfl) rfl #[.agg #[.int .i64 t346, .int .i64 t347, .slice Ao32 t348.length co32, .slice Ao33 t351.length co33], .slice Ao36 t355.length co36] rfl (by (try simp only [List.map_toArray, List.map_cons, List.map_nil]); first | done | rfl | (simp only [List.length_drop, List.length_take]; rfl)) ?_; (with_reducible refine (impl_MelodyNumber.calls k t346 t347 _ _ t348 _ _ t351 _ _ t355 t358 t359 _ ?side1 ?side2 ?side3 ?side4 ?side5 ?side6 A15.out).mono ?_); (case side1 => repeat (first | exact (Kd.R_reads' HO350.out).2.2 | (with_reducible refine cA ?_ _) | (with_reducible refine cN ?_ _) | (with_reducible refine cD ?_))); (case side2 => exact (Kd.R_reads' HO350.out).2.1); (case side3 => repeat (first | exact (Kd.R_reads' HO353.out).2.2 | (with_reducible refine cA ?_ _) | (with_reducible refine cN ?_ _) | (with_reducible refine cD ?_))); (case side4 => exact (Kd.R_reads' HO353.out).2.1); (case side5 => repeat (first | exact (Kd.R_reads' HO357.out).2.2 | (with_reducible refine cA ?_ _) | (with_reducible refine cN ?_ _) | (with_reducible refine cD ?_))); (case side6 => exact (Kd.R_reads' HO357.out).2.1); rintro e w37 ⟨rfl, hb⟩; refine ⟨_, rfl, ?_⟩; have n0_ := Aside0.mk (rB (by (with_reducible repeat (first | apply rA | apply rN | apply rD)); exact HO337.out) hb); have n1_ := Aside0.mk (rB (by (with_reducible repeat (first | apply rA | apply rN | apply rD)); exact HO340.out) hb); have n2_ := Aside0.mk (rB (by (with_reducible repeat (first | apply rA | apply rN | apply rD)); exact HO343.out) hb); have n3_ := Aside0.mk (rB (by (with_reducible repeat (first | apply rA | apply rN | apply rD)); exact HO350.out) hb); have n4_ := Aside0.mk (rB (by (with_reducible repeat (first | apply rA | apply rN | apply rD)); exact HO353.out) hb); have n5_ := Aside0.mk (rB (by (with_reducible repeat (first | apply rA | apply rN | apply rD)); exact HO357.out) hb); have n6_ := Aside0.mk (kB (g := gb331) (o := .cells #[.int .i64 a0_0, .int .i64 a0_1, .slice A0_2 l0_2.length c0_2, .slice A0_3 l0_3.length c0_3] 25 (0, 0)) (by (with_reducible repeat (first | refine kN ?_ _ | refine kD ?_ | refine kA ?_ _)); exact BK331.out) hb); have n7_ := Aside0.mk (kB (g := gb354) (o := .cells #[.int .i64 t346, .int .i64 t347, .slice Ao32 t348.length co32, .slice Ao33 t351.length co33] 30 (0, 0)) (by (with_reducible repeat (first | refine kN ?_ _ | refine kD ?_ | refine kA ?_ _)); exact BK354.out) hb); have n8_ := Aside0.mk (bP (by repeat (first | (with_reducible first | exact HB.out | apply bA | apply bN | apply bD | refine bS ?_ GE331.out | refine bS ?_ GE354.out) | exact HB.out)) hb); clear HO337; clear HO340; clear HO343; clear HO350; clear HO353; clear HO357; clear BK331; clear BK354; clear HB; have HO337 := n0_; have HO340 := n1_; have HO343 := n2_; have HO350 := n3_; have HO353 := n4_; have HO357 := n5_; have BK331 := n6_; have BK354 := n7_; have HB := n8_; clear n0_ n1_ n2_ n3_ n4_ n5_ n6_ n7_ n8_; (try clear hb); (try clear hb2); (try clear hk); (try clear hi)))
   (try simp only [Act.put, sI, sZ, sS])
   go_cut [45] (fun v45 wc => ∃ (kq : Nat) (x45_15 : Bool), v45 = .bool x45_15 ∧ Aside0 (laws_FnExactMelodyNumber.j0 kq l1 t355 x45_15 a0_0 a0_1 l0_2 l0_3 t346 t347 t348 t351 = some r) ∧ Aside0 (kq ≤ k) ∧ Aside0 (Kd.R (Kd.int .i64) 2 wc w.heap.size (fun k_ => some k_ ≠ ((.slice Ao32 t348.length co32) : Value).ownBlock) (.slice Ao36 t355.length co36) t355) ∧ Aside0 (Kd.R (Kd.int .i64) 2 wc w.heap.size (fun k_ => some k_ ≠ ((.slice Ao36 t355.length co36) : Value).ownBlock) (.slice Ao32 t348.length co32) t348) ∧ Aside0 (Kd.R k67 67 wc w.heap.size (fun _ => True) (.slice Ao33 t351.length co33) t351) ∧ Aside0 (wc.heap[gb331]? = some (.cells #[.int .i64 a0_0, .int .i64 a0_1, (.slice A0_2 l0_2.length c0_2), (.slice A0_3 l0_3.length c0_3)] 25 (0, 0))) ∧ Aside0 (wc.heap[gb354]? = some (.cells #[.int .i64 t346, .int .i64 t347, (.slice Ao32 t348.length co32), (.slice Ao33 t351.length co33)] 30 (0, 0))) ∧ Aside0 (Below w.heap.size w wc))
   case first =>
    have H := HC16.out
    clear HC16
    by_cases c38 : t358 = t344
    ·rw [if_pos c38] at H
     have c38b0 : (t358 == t344) = true := beq_iff_eq.mpr c38
     have c38b1 : (t358 != t344) = false := bne_eq_false_iff_eq.mpr c38
     clear c38
     (first | rw [c38b0] | (simp only [iW, jW]; rw [c38b0]) | skip)
     have H' := Aside0.mk H
     clear H
     go_wp2
     go_meet
     case rel => exact ⟨_, ((t359 != t345)), (by first | rfl | (simp; done) | (simp [*]; done)), H', ⟨by first | omega | exact Nat.le_refl _⟩, ⟨by (with_reducible repeat (first | apply rA | apply rN | apply rD)); exact rM HO357.out (fun _ hk => hk.2)⟩, ⟨by (with_reducible repeat (first | apply rA | apply rN | apply rD)); exact rM HO350.out (fun _ hk => hk.2)⟩, ⟨by (with_reducible repeat (first | apply rA | apply rN | apply rD)); exact rM HO353.out (fun _ hk => trivial)⟩, ⟨by (with_reducible repeat (first | refine kN ?_ _ | refine kD ?_ | refine kA ?_ _)); exact BK331.out⟩, ⟨by (with_reducible repeat (first | refine kN ?_ _ | refine kD ?_ | refine kA ?_ _)); exact BK354.out⟩, ⟨by repeat (first | (with_reducible first | exact HB.out | apply bA | apply bN | apply bD | refine bS ?_ GE331.out | refine bS ?_ GE354.out) | exact HB.out)⟩⟩
    ·rw [if_neg c38] at H
     have c38b0 : (t358 == t344) = false := beq_eq_false_iff_ne.mpr c38
     have c38b1 : (t358 != t344) = true := bne_iff_ne.mpr c38
     (first | rw [c38b0] | (simp only [iW, jW]; rw [c38b0]) | skip)
     have H' := Aside0.mk H
     clear H
     go_wp2
     go_meet
     case rel => exact ⟨_, (true), (by first | rfl | (simp; done) | (simp [*]; done)), H', ⟨by first | omega | exact Nat.le_refl _⟩, ⟨by (with_reducible repeat (first | apply rA | apply rN | apply rD)); exact rM HO357.out (fun _ hk => hk.2)⟩, ⟨by (with_reducible repeat (first | apply rA | apply rN | apply rD)); exact rM HO350.out (fun _ hk => hk.2)⟩, ⟨by (with_reducible repeat (first | apply rA | apply rN | apply rD)); exact rM HO353.out (fun _ hk => trivial)⟩, ⟨by (with_reducible repeat (first | refine kN ?_ _ | refine kD ?_ | refine kA ?_ _)); exact BK331.out⟩, ⟨by (with_reducible repeat (first | refine kN ?_ _ | refine kD ?_ | refine kA ?_ _)); exact BK354.out⟩, ⟨by repeat (first | (with_reducible first | exact HB.out | apply bA | apply bN | apply bD | refine bS ?_ GE331.out | refine bS ?_ GE354.out) | exact HB.out)⟩⟩
   case rest =>
    clear HC16
    try clear c1
    try clear c2
    try clear p2
    try clear c3
    try clear c3b0
    try clear c3b1
    try clear c4
    try clear c6
    try clear c6b0
    try clear c11
    try clear c15
    try clear c17
    try clear c25
    try clear c30
    try clear c38
    try clear c38b0
    try clear c38b1
    try clear hcz18_0
    try clear hcz18_1
    try clear hcz18_2
    try clear hcz18_3
    try clear hcz20_0
    try clear hcz20_1
    try clear hcz20_2
    try clear hcz20_3
    try clear hcz27_0
    try clear hcz27_1
    try clear hcz27_2
    try clear hcz27_3
    try clear hcz31_0
    try clear hcz31_1
    try clear hcz31_2
    try clear hcz31_3
    try clear hcz35_0
    try clear hcz35_1
    try clear hcz35_2
    try clear hcz35_3
    try clear hcz8_0
    try clear hcz8_1
    try clear hcz8_2
    try clear hcz8_3
    try clear hfz18_0
    try clear hfz18_1
    try clear hfz18_2
    try clear hfz18_3
    try clear hfz20_0
    try clear hfz20_1
    try clear hfz20_2
    try clear hfz20_3
    try clear hfz27_0
    try clear hfz27_1
    try clear hfz27_2
    try clear hfz27_3
    try clear hfz31_0
    try clear hfz31_1
    try clear hfz31_2
    try clear hfz31_3
    try clear hfz35_0
    try clear hfz35_1
    try clear hfz35_2
    try clear hfz35_3
    try clear hfz8_0
    try clear hfz8_1
    try clear hfz8_2
    try clear hfz8_3
    obtain ⟨kq, x45_15, rfl, HA, HJ15, HO_9, HO_355002, HO_355003, BK331, BK354, HB⟩ := hcut
    cases kq with
    | zero => exact absurd HA.out (by simp [laws_FnExactMelodyNumber.j0])
    | succ kj15 =>
     have H := HA.out
     clear HA
     simp only [laws_FnExactMelodyNumber.j0] at H
     by_cases c39 : x45_15 = true
     ·subst c39
      have H1 : (some false) = some r := by rw [if_pos rfl] at H; exact H
      clear H
      have H := H1
      clear H1
      obtain rfl := Option.some.inj H
      go_wp2
      go_ret
      exact ⟨by first | rfl | (simp [errW_none, errW_some] <;> rfl) | (simp [*, errW_none, errW_some] <;> rfl), by repeat (first | (with_reducible first | exact HB.out | apply bA | apply bN | apply bD | refine bS ?_ GE331.out | refine bS ?_ GE354.out) | exact HB.out)⟩
     ·replace c39 := Bool.eq_false_iff.mpr c39
      subst c39
      have H1 : ((laws_toGrammar.f kj15 a0_0 a0_1 l0_2 l0_3).bind fun bt360 => ((laws_eqGrammar.f kj15 t346 t347 t348 t351 bt360.1 bt360.2.1 bt360.2.2.1 bt360.2.2.2).bind fun t368 => (if t368 = true then ((laws_toInt64S.f kj15 l1).bind fun t369 => ((laws_eqInt64S.f kj15 t355 t369).bind fun t372 => (if t372 = true then (some true) else (some false)))) else (some false)))) = some r := by rw [if_neg (show ¬ (false = true) by decide)] at H; exact H
      clear H
      have H := H1
      clear H1
      replace H := Option.bind_eq_some_iff.mp H
      obtain ⟨⟨t360, t361, t362, t365⟩, A400, H⟩ := H
      replace H : ((laws_eqGrammar.f kj15 t346 t347 t348 t351 t360 t361 t362 t365).bind fun t368 => (if t368 = true then ((laws_toInt64S.f kj15 l1).bind fun t369 => ((laws_eqInt64S.f kj15 t355 t369).bind fun t372 => (if t372 = true then (some true) else (some false)))) else (some false))) = some r := H
      have A40 := Aside0.mk A400
      clear A400
      replace H := Option.bind_eq_some_iff.mp H
      obtain ⟨t368, A410, H⟩ := H
      replace H : (if t368 = true then ((laws_toInt64S.f kj15 l1).bind fun t369 => ((laws_eqInt64S.f kj15 t355 t369).bind fun t372 => (if t372 = true then (some true) else (some false)))) else (some false)) = some r := H
      have A41 := Aside0.mk A410
      clear A410
      by_cases c42 : t368 = true
      ·subst c42
       have H1 : ((laws_toInt64S.f kj15 l1).bind fun t369 => ((laws_eqInt64S.f kj15 t355 t369).bind fun t372 => (if t372 = true then (some true) else (some false)))) = some r := by rw [if_pos rfl] at H; exact H
       clear H
       have H := H1
       clear H1
       replace H := Option.bind_eq_some_iff.mp H
       obtain ⟨t369, A430, H⟩ := H
       replace H : ((laws_eqInt64S.f kj15 t355 t369).bind fun t372 => (if t372 = true then (some true) else (some false))) = some r := H
       have A43 := Aside0.mk A430
       clear A430
       replace H := Option.bind_eq_some_iff.mp H
       obtain ⟨t372, A440, H⟩ := H
       replace H : (if t372 = true then (some true) else (some false)) = some r := H
       have A44 := Aside0.mk A440
       clear A440
       by_cases c45 : t372 = true
       ·subst c45
        have H1 : (some true) = some r := by rw [if_pos rfl] at H; exact H
        clear H
        have H := H1
        clear H1
        obtain rfl := Option.some.inj H
        try go_wp2
        have n0_ := Aside0.mk (rD HO_9.out)
        have n1_ := Aside0.mk (rD HO_355002.out)
        have n2_ := Aside0.mk (rD HO_355003.out)
        have n3_ := Aside0.mk (kD BK331.out)
        have n4_ := Aside0.mk (kD BK354.out)
        have n5_ := Aside0.mk (bD HB.out)
        clear HO_9
        clear HO_355002
        clear HO_355003
        clear BK331
        clear BK354
        clear HB
        have HO_9 := n0_
        have HO_355002 := n1_
        have HO_355003 := n2_
        have BK331 := n3_
        have BK354 := n4_
        have HB := n5_
        clear n0_ n1_ n2_ n3_ n4_ n5_
        refine start_ (n := 5) (S := fun w' => w'.cell? ⟨gb354, 0, none⟩ = some (.int .i64 t346) ∧ w'.cell? ⟨gb354, 1, none⟩ = some (.int .i64 t347) ∧ w'.cell? ⟨gb354, 2, none⟩ = some (.slice Ao32 t348.length co32) ∧ w'.cell? ⟨gb354, 3, none⟩ = some (.slice Ao33 t351.length co33) ∧ w'.cell? ⟨gb331, 0, none⟩ = some (.int .i64 a0_0) ∧ w'.cell? ⟨gb331, 1, none⟩ = some (.int .i64 a0_1) ∧ w'.cell? ⟨gb331, 2, none⟩ = some (.slice A0_2 l0_2.length c0_2) ∧ w'.cell? ⟨gb331, 3, none⟩ = some (.slice A0_3 l0_3.length c0_3)) (ds := []) #[F,F,F,F,F] (by kernel_rfl) rfl rfl ⟨(kC BK354.out 0).trans rfl, (kC BK354.out 1).trans rfl, (kC BK354.out 2).trans rfl, (kC BK354.out 3).trans rfl, (kC BK331.out 0).trans rfl, (kC BK331.out 1).trans rfl, (kC BK331.out 2).trans rfl, (kC BK331.out 3).trans rfl⟩ (fun hHeld => ?_)
        generalize wc.drew = w46 at HO_9 HO_355002 HO_355003 BK331 BK354 HB hHeld ⊢
        refine take_ (i := 0) (N := some 46) (v := ?_) (a' := ?_) #[T,F,F,F,F] rfl rfl (by kernel_rfl) (fun _ _ _ h => h) (Or.inl ⟨by rfl, ?_⟩) hHeld ?_ ?_; rotate_left; (·rintro w' ⟨s0, s1, s2, s3, s4, s5, s6, s7⟩; go_simp; with_reducible rfl); rotate_left; (·simp only [Act.put, sI, sZ, sS, iW, jW]; rfl)
        refine take_ (i := 1) (N := some 47) (v := ?_) (a' := ?_) #[T,T,F,F,F] rfl rfl (by kernel_rfl) (fun _ _ _ h => h) (Or.inl ⟨by rfl, ?_⟩) hHeld ?_ ?_; rotate_left; (·rintro w' ⟨s0, s1, s2, s3, s4, s5, s6, s7⟩; go_simp; with_reducible rfl); rotate_left; (·simp only [Act.put, sI, sZ, sS, iW, jW]; rfl)
        refine one_ (i := 2) (N := some 48) #[T,T,T,F,F] rfl rfl (by kernel_rfl) (by decide) (fun K hK => ?_)
        refine goes_ Try.func17 (by kernel_rfl) rfl #[.agg #[.int .i64 a0_0, .int .i64 a0_1, .slice A0_2 l0_2.length c0_2, .slice A0_3 l0_3.length c0_3]] (by rfl) rfl rfl (by (try simp only [List.map_toArray, List.map_cons, List.map_nil]); first | done | rfl | (simp only [List.length_drop, List.length_take]; rfl)) ?_
        with_reducible refine (laws_toGrammar.calls kj15 a0_0 a0_1 _ _ l0_2 _ _ l0_3 t360 t361 t362 t365 _ ?side1 ?side2 ?side3 ?side4 A40.out).mono ?_
        (case side1 => repeat (first | exact (cB HR0_2.out HB.out) | (with_reducible refine cA ?_ _) | (with_reducible refine cN ?_ _) | (with_reducible refine cD ?_)))
        (case side2 => exact HC0_2.out)
        (case side3 => repeat (first | exact (cB HR0_3.out HB.out) | (with_reducible refine cA ?_ _) | (with_reducible refine cN ?_ _) | (with_reducible refine cD ?_)))
        (case side4 => exact HC0_3.out)
        rintro e w47 ⟨v363, v366, rfl, ho0, ho1, hb⟩
        refine ⟨_, rfl, ?_⟩
        have n0_ := Aside0.mk (rE (by (with_reducible repeat (first | apply rA | apply rN | apply rD)); exact HO_9.out) (Kd.R_base ho0) hb)
        have n1_ := Aside0.mk (rE (by (with_reducible repeat (first | apply rA | apply rN | apply rD)); exact HO_355002.out) (Kd.R_base ho0) hb)
        have n2_ := Aside0.mk (rE (by (with_reducible repeat (first | apply rA | apply rN | apply rD)); exact HO_355003.out) (Kd.R_base ho1) hb)
        have n3_ := Aside0.mk (rL (rW (rW ho0 (rT (by (with_reducible repeat (first | apply rA | apply rN | apply rD)); exact HO_9.out))) (rT (by (with_reducible repeat (first | apply rA | apply rN | apply rD)); exact HO_355002.out))) (bZ (by repeat (first | (with_reducible first | exact HB.out | apply bA | apply bN | apply bD | refine bS ?_ GE331.out | refine bS ?_ GE354.out) | exact HB.out))))
        have n4_ := Aside0.mk (rL (rW ho1 (rT (by (with_reducible repeat (first | apply rA | apply rN | apply rD)); exact HO_355003.out))) (bZ (by repeat (first | (with_reducible first | exact HB.out | apply bA | apply bN | apply bD | refine bS ?_ GE331.out | refine bS ?_ GE354.out) | exact HB.out))))
        have n5_ := Aside0.mk (kB (g := gb331) (o := .cells #[.int .i64 a0_0, .int .i64 a0_1, .slice A0_2 l0_2.length c0_2, .slice A0_3 l0_3.length c0_3] 25 (0, 0)) (by (with_reducible repeat (first | refine kN ?_ _ | refine kD ?_ | refine kA ?_ _)); exact BK331.out) hb)
        have n6_ := Aside0.mk (kB (g := gb354) (o := .cells #[.int .i64 t346, .int .i64 t347, .slice Ao32 t348.length co32, .slice Ao33 t351.length co33] 30 (0, 0)) (by (with_reducible repeat (first | refine kN ?_ _ | refine kD ?_ | refine kA ?_ _)); exact BK354.out) hb)
        have n7_ := Aside0.mk (bP (by repeat (first | (with_reducible first | exact HB.out | apply bA | apply bN | apply bD | refine bS ?_ GE331.out | refine bS ?_ GE354.out) | exact HB.out)) hb)
        clear HO_9
        clear HO_355002
        clear HO_355003
        clear BK331
        clear BK354
        clear HB
        have HO_9 := n0_
        have HO_355002 := n1_
        have HO_355003 := n2_
        have HO364 := n3_
        have HO367 := n4_
        have BK331 := n5_
        have BK354 := n6_
        have HB := n7_
        clear n0_ n1_ n2_ n3_ n4_ n5_ n6_ n7_
        (try clear hb)
        (try clear hb2)
        (try clear hk)
        (try clear hi)
        (try clear ho0)
        (try clear ho1)
        obtain ⟨Ao48, co48, eo48⟩ := Kd.R_slice HO364.out
        (first | subst eo48 | (injection eo48 with f1_ f2_ f3_; have f4_ := f1_.symm; have f5_ := f3_.symm; clear f1_ f2_ f3_; subst f4_; subst f5_))
        obtain ⟨Ao49, co49, eo49⟩ := Kd.R_slice HO367.out
        (first | subst eo49 | (injection eo49 with f1_ f2_ f3_; have f4_ := f1_.symm; have f5_ := f3_.symm; clear f1_ f2_ f3_; subst f4_; subst f5_))
        refine hK.out _ _ ⟨(kC BK354.out 0).trans rfl, (kC BK354.out 1).trans rfl, (kC BK354.out 2).trans rfl, (kC BK354.out 3).trans rfl, (kC BK331.out 0).trans rfl, (kC BK331.out 1).trans rfl, (kC BK331.out 2).trans rfl, (kC BK331.out 3).trans rfl⟩ (fun hHeld => ?_)
        clear hK K
        refine norm_ (a' := ?_) ?_ ?_
        rotate_left
        ·show Act.put _ (some 48) _ = _
         simp only [Act.put, sI, sZ, sS, iW, jW]
         rfl
        refine one_ (i := 3) (N := some 49) #[T,T,T,T,F] rfl rfl (by kernel_rfl) (by decide) (fun K hK => ?_)
        refine goes_ Try.func19 (by kernel_rfl) rfl #[.agg #[.int .i64 t346, .int .i64 t347, .slice Ao32 t348.length co32, .slice Ao33 t351.length co33], .agg #[.int .i64 t360, .int .i64 t361, .slice Ao48 t362.length co48, .slice Ao49 t365.length co49]] (by rfl) rfl rfl (by (try simp only [List.map_toArray, List.map_cons, List.map_nil]); first | done | rfl | (simp only [List.length_drop, List.length_take]; rfl)) ?_
        with_reducible refine (laws_eqGrammar.calls kj15 t346 t347 _ _ t348 _ _ t351 t360 t361 _ _ t362 _ _ t365 true _ ?side1 ?side2 ?side3 ?side4 ?side5 ?side6 ?side7 ?side8 A41.out).mono ?_
        (case side1 => repeat (first | exact (Kd.R_reads' HO_355002.out).2.2 | (with_reducible refine cA ?_ _) | (with_reducible refine cN ?_ _) | (with_reducible refine cD ?_)))
        (case side2 => exact (Kd.R_reads' HO_355002.out).2.1)
        (case side3 => repeat (first | exact (Kd.R_reads' HO_355003.out).2.2 | (with_reducible refine cA ?_ _) | (with_reducible refine cN ?_ _) | (with_reducible refine cD ?_)))
        (case side4 => exact (Kd.R_reads' HO_355003.out).2.1)
        (case side5 => repeat (first | exact (Kd.R_reads' HO364.out).2.2 | (with_reducible refine cA ?_ _) | (with_reducible refine cN ?_ _) | (with_reducible refine cD ?_)))
        (case side6 => exact (Kd.R_reads' HO364.out).2.1)
        (case side7 => repeat (first | exact (Kd.R_reads' HO367.out).2.2 | (with_reducible refine cA ?_ _) | (with_reducible refine cN ?_ _) | (with_reducible refine cD ?_)))
        (case side8 => exact (Kd.R_reads' HO367.out).2.1)
        rintro e w50 ⟨rfl, hb⟩
        refine ⟨_, rfl, ?_⟩
        have n0_ := Aside0.mk (rB (by (with_reducible repeat (first | apply rA | apply rN | apply rD)); exact HO_9.out) hb)
        have n1_ := Aside0.mk (rB (by (with_reducible repeat (first | apply rA | apply rN | apply rD)); exact HO_355002.out) hb)
        have n2_ := Aside0.mk (rB (by (with_reducible repeat (first | apply rA | apply rN | apply rD)); exact HO_355003.out) hb)
        have n3_ := Aside0.mk (rB (by (with_reducible repeat (first | apply rA | apply rN | apply rD)); exact HO364.out) hb)
        have n4_ := Aside0.mk (rB (by (with_reducible repeat (first | apply rA | apply rN | apply rD)); exact HO367.out) hb)
        have n5_ := Aside0.mk (kB (g := gb331) (o := .cells #[.int .i64 a0_0, .int .i64 a0_1, .slice A0_2 l0_2.length c0_2, .slice A0_3 l0_3.length c0_3] 25 (0, 0)) (by (with_reducible repeat (first | refine kN ?_ _ | refine kD ?_ | refine kA ?_ _)); exact BK331.out) hb)
        have n6_ := Aside0.mk (kB (g := gb354) (o := .cells #[.int .i64 t346, .int .i64 t347, .slice Ao32 t348.length co32, .slice Ao33 t351.length co33] 30 (0, 0)) (by (with_reducible repeat (first | refine kN ?_ _ | refine kD ?_ | refine kA ?_ _)); exact BK354.out) hb)
        have n7_ := Aside0.mk (bP (by repeat (first | (with_reducible first | exact HB.out | apply bA | apply bN | apply bD | refine bS ?_ GE331.out | refine bS ?_ GE354.out) | exact HB.out)) hb)
        clear HO_9
        clear HO_355002
        clear HO_355003
        clear HO364
        clear HO367
        clear BK331
        clear BK354
        clear HB
        have HO_9 := n0_
        have HO_355002 := n1_
        have HO_355003 := n2_
        have HO364 := n3_
        have HO367 := n4_
        have BK331 := n5_
        have BK354 := n6_
        have HB := n7_
        clear n0_ n1_ n2_ n3_ n4_ n5_ n6_ n7_
        (try clear hb)
        (try clear hb2)
        (try clear hk)
        (try clear hi)
        refine hK.out _ _ ⟨(kC BK354.out 0).trans rfl, (kC BK354.out 1).trans rfl, (kC BK354.out 2).trans rfl, (kC BK354.out 3).trans rfl, (kC BK331.out 0).trans rfl, (kC BK331.out 1).trans rfl, (kC BK331.out 2).trans rfl, (kC BK331.out 3).trans rfl⟩ (fun hHeld => ?_)
        clear hK K
        refine norm_ (a' := ?_) ?_ ?_
        rotate_left
        ·show Act.put _ (some 49) _ = _
         simp only [Act.put, sI, sZ, sS, iW, jW]
         rfl
        refine pure_ (i := 4) (N := some 50) (v := ?_) (a' := ?_) #[T,T,T,T,T] rfl rfl (by kernel_rfl) (fun _ _ _ h => h) (Or.inl ⟨by rfl, ?_⟩) ?_ ?_; rotate_left; (·intro w'; go_simp; with_reducible rfl); rotate_left; (·simp only [Act.put, sI, sZ, sS, iW, jW]; rfl)
        refine done_ (by kernel_rfl) ?_
        try go_wp2_with (first | ((with_reducible refine gC (f := 25) rfl ?_); refine goesL_ (some 53) rfl rfl Try.func25 (by kernel_rfl) rfl #[.slice A1 l1.length c1] rfl (by (try simp only [List.map_toArray, List.map_cons, List.map_nil]); first | done | rfl | (simp only [List.length_drop, List.length_take]; rfl)) ?_; (with_reducible refine (laws_toInt64S.calls kj15 _ _ l1 t369 _ ?side1 ?side2 A43.out).mono ?_); (case side1 => repeat (first | exact (cB HR1.out HB.out) | (with_reducible refine cA ?_ _) | (with_reducible refine cN ?_ _) | (with_reducible refine cD ?_))); (case side2 => exact HC1.out); rintro e w51 ⟨v370, rfl, ho0, hb⟩; refine ⟨_, rfl, ?_⟩; have n0_ := Aside0.mk (rE (by (with_reducible repeat (first | apply rA | apply rN | apply rD)); exact HO_9.out) (Kd.R_base ho0) hb); have n1_ := Aside0.mk (rE (by (with_reducible repeat (first | apply rA | apply rN | apply rD)); exact HO_355002.out) (Kd.R_base ho0) hb); have n2_ := Aside0.mk (rB (by (with_reducible repeat (first | apply rA | apply rN | apply rD)); exact HO_355003.out) hb); have n3_ := Aside0.mk (rE (by (with_reducible repeat (first | apply rA | apply rN | apply rD)); exact HO364.out) (Kd.R_base ho0) hb); have n4_ := Aside0.mk (rB (by (with_reducible repeat (first | apply rA | apply rN | apply rD)); exact HO367.out) hb); have n5_ := Aside0.mk (rL (rW (rW (rW ho0 (rT (by (with_reducible repeat (first | apply rA | apply rN | apply rD)); exact HO_9.out))) (rT (by (with_reducible repeat (first | apply rA | apply rN | apply rD)); exact HO_355002.out))) (rT (by (with_reducible repeat (first | apply rA | apply rN | apply rD)); exact HO364.out))) (bZ (by repeat (first | (with_reducible first | exact HB.out | apply bA | apply bN | apply bD | refine bS ?_ GE331.out | refine bS ?_ GE354.out) | exact HB.out)))); have n6_ := Aside0.mk (kB (g := gb331) (o := .cells #[.int .i64 a0_0, .int .i64 a0_1, .slice A0_2 l0_2.length c0_2, .slice A0_3 l0_3.length c0_3] 25 (0, 0)) (by (with_reducible repeat (first | refine kN ?_ _ | refine kD ?_ | refine kA ?_ _)); exact BK331.out) hb); have n7_ := Aside0.mk (kB (g := gb354) (o := .cells #[.int .i64 t346, .int .i64 t347, .slice Ao32 t348.length co32, .slice Ao33 t351.length co33] 30 (0, 0)) (by (with_reducible repeat (first | refine kN ?_ _ | refine kD ?_ | refine kA ?_ _)); exact BK354.out) hb); have n8_ := Aside0.mk (bP (by repeat (first | (with_reducible first | exact HB.out | apply bA | apply bN | apply bD | refine bS ?_ GE331.out | refine bS ?_ GE354.out) | exact HB.out)) hb); clear HO_9; clear HO_355002; clear HO_355003; clear HO364; clear HO367; clear BK331; clear BK354; clear HB; have HO_9 := n0_; have HO_355002 := n1_; have HO_355003 := n2_; have HO364 := n3_; have HO367 := n4_; have HO371 := n5_; have BK331 := n6_; have BK354 := n7_; have HB := n8_; clear n0_ n1_ n2_ n3_ n4_ n5_ n6_ n7_ n8_; (try clear hb); (try clear hb2); (try clear hk); (try clear hi); (try clear ho0); obtain ⟨Ao52, co52, eo52⟩ := Kd.R_slice HO371.out; subst eo52) | ((with_reducible refine gC (f := 27) rfl ?_); refine goesL_ (some 54) rfl rfl Try.func27 (by kernel_rfl) rfl #[.slice Ao36 t355.length co36, .slice Ao52 t369.length co52] rfl (by (try simp only [List.map_toArray, List.map_cons, List.map_nil]); first | done | rfl | (simp only [List.length_drop, List.length_take]; rfl)) ?_; (with_reducible refine (laws_eqInt64S.calls kj15 _ _ t355 _ _ t369 true _ ?side1 ?side2 ?side3 ?side4 A44.out).mono ?_); (case side1 => repeat (first | exact (Kd.R_reads' HO_9.out).2.2 | (with_reducible refine cA ?_ _) | (with_reducible refine cN ?_ _) | (with_reducible refine cD ?_))); (case side2 => exact (Kd.R_reads' HO_9.out).2.1); (case side3 => repeat (first | exact (Kd.R_reads' HO371.out).2.2 | (with_reducible refine cA ?_ _) | (with_reducible refine cN ?_ _) | (with_reducible refine cD ?_))); (case side4 => exact (Kd.R_reads' HO371.out).2.1); rintro e w' ⟨rfl, ⟨nd, rfl⟩⟩; refine ⟨_, rfl, ?_⟩))
        go_ret
        exact ⟨by first | rfl | (simp [errW_none, errW_some] <;> rfl) | (simp [*, errW_none, errW_some] <;> rfl), by repeat (first | (with_reducible first | exact HB.out | apply bA | apply bN | apply bD | refine bS ?_ GE331.out | refine bS ?_ GE354.out) | exact HB.out)⟩
       ·replace c45 := Bool.eq_false_iff.mpr c45
        subst c45
        have H1 : (some false) = some r := by rw [if_neg (show ¬ (false = true) by decide)] at H; exact H
        clear H
        have H := H1
        clear H1
        obtain rfl := Option.some.inj H
        try go_wp2
        have n0_ := Aside0.mk (rD HO_9.out)
        have n1_ := Aside0.mk (rD HO_355002.out)
        have n2_ := Aside0.mk (rD HO_355003.out)
        have n3_ := Aside0.mk (kD BK331.out)
        have n4_ := Aside0.mk (kD BK354.out)
        have n5_ := Aside0.mk (bD HB.out)
        clear HO_9
        clear HO_355002
        clear HO_355003
        clear BK331
        clear BK354
        clear HB
        have HO_9 := n0_
        have HO_355002 := n1_
        have HO_355003 := n2_
        have BK331 := n3_
        have BK354 := n4_
        have HB := n5_
        clear n0_ n1_ n2_ n3_ n4_ n5_
        refine start_ (n := 5) (S := fun w' => w'.cell? ⟨gb354, 0, none⟩ = some (.int .i64 t346) ∧ w'.cell? ⟨gb354, 1, none⟩ = some (.int .i64 t347) ∧ w'.cell? ⟨gb354, 2, none⟩ = some (.slice Ao32 t348.length co32) ∧ w'.cell? ⟨gb354, 3, none⟩ = some (.slice Ao33 t351.length co33) ∧ w'.cell? ⟨gb331, 0, none⟩ = some (.int .i64 a0_0) ∧ w'.cell? ⟨gb331, 1, none⟩ = some (.int .i64 a0_1) ∧ w'.cell? ⟨gb331, 2, none⟩ = some (.slice A0_2 l0_2.length c0_2) ∧ w'.cell? ⟨gb331, 3, none⟩ = some (.slice A0_3 l0_3.length c0_3)) (ds := []) #[F,F,F,F,F] (by kernel_rfl) rfl rfl ⟨(kC BK354.out 0).trans rfl, (kC BK354.out 1).trans rfl, (kC BK354.out 2).trans rfl, (kC BK354.out 3).trans rfl, (kC BK331.out 0).trans rfl, (kC BK331.out 1).trans rfl, (kC BK331.out 2).trans rfl, (kC BK331.out 3).trans rfl⟩ (fun hHeld => ?_)
        generalize wc.drew = w53 at HO_9 HO_355002 HO_355003 BK331 BK354 HB hHeld ⊢
        refine take_ (i := 0) (N := some 46) (v := ?_) (a' := ?_) #[T,F,F,F,F] rfl rfl (by kernel_rfl) (fun _ _ _ h => h) (Or.inl ⟨by rfl, ?_⟩) hHeld ?_ ?_; rotate_left; (·rintro w' ⟨s0, s1, s2, s3, s4, s5, s6, s7⟩; go_simp; with_reducible rfl); rotate_left; (·simp only [Act.put, sI, sZ, sS, iW, jW]; rfl)
        refine take_ (i := 1) (N := some 47) (v := ?_) (a' := ?_) #[T,T,F,F,F] rfl rfl (by kernel_rfl) (fun _ _ _ h => h) (Or.inl ⟨by rfl, ?_⟩) hHeld ?_ ?_; rotate_left; (·rintro w' ⟨s0, s1, s2, s3, s4, s5, s6, s7⟩; go_simp; with_reducible rfl); rotate_left; (·simp only [Act.put, sI, sZ, sS, iW, jW]; rfl)
        refine one_ (i := 2) (N := some 48) #[T,T,T,F,F] rfl rfl (by kernel_rfl) (by decide) (fun K hK => ?_)
        refine goes_ Try.func17 (by kernel_rfl) rfl #[.agg #[.int .i64 a0_0, .int .i64 a0_1, .slice A0_2 l0_2.length c0_2, .slice A0_3 l0_3.length c0_3]] (by rfl) rfl rfl (by (try simp only [List.map_toArray, List.map_cons, List.map_nil]); first | done | rfl | (simp only [List.length_drop, List.length_take]; rfl)) ?_
        with_reducible refine (laws_toGrammar.calls kj15 a0_0 a0_1 _ _ l0_2 _ _ l0_3 t360 t361 t362 t365 _ ?side1 ?side2 ?side3 ?side4 A40.out).mono ?_
        (case side1 => repeat (first | exact (cB HR0_2.out HB.out) | (with_reducible refine cA ?_ _) | (with_reducible refine cN ?_ _) | (with_reducible refine cD ?_)))
        (case side2 => exact HC0_2.out)
        (case side3 => repeat (first | exact (cB HR0_3.out HB.out) | (with_reducible refine cA ?_ _) | (with_reducible refine cN ?_ _) | (with_reducible refine cD ?_)))
        (case side4 => exact HC0_3.out)
        rintro e w54 ⟨v363, v366, rfl, ho0, ho1, hb⟩
        refine ⟨_, rfl, ?_⟩
        have n0_ := Aside0.mk (rE (by (with_reducible repeat (first | apply rA | apply rN | apply rD)); exact HO_9.out) (Kd.R_base ho0) hb)
        have n1_ := Aside0.mk (rE (by (with_reducible repeat (first | apply rA | apply rN | apply rD)); exact HO_355002.out) (Kd.R_base ho0) hb)
        have n2_ := Aside0.mk (rE (by (with_reducible repeat (first | apply rA | apply rN | apply rD)); exact HO_355003.out) (Kd.R_base ho1) hb)
        have n3_ := Aside0.mk (rL (rW (rW ho0 (rT (by (with_reducible repeat (first | apply rA | apply rN | apply rD)); exact HO_9.out))) (rT (by (with_reducible repeat (first | apply rA | apply rN | apply rD)); exact HO_355002.out))) (bZ (by repeat (first | (with_reducible first | exact HB.out | apply bA | apply bN | apply bD | refine bS ?_ GE331.out | refine bS ?_ GE354.out) | exact HB.out))))
        have n4_ := Aside0.mk (rL (rW ho1 (rT (by (with_reducible repeat (first | apply rA | apply rN | apply rD)); exact HO_355003.out))) (bZ (by repeat (first | (with_reducible first | exact HB.out | apply bA | apply bN | apply bD | refine bS ?_ GE331.out | refine bS ?_ GE354.out) | exact HB.out))))
        have n5_ := Aside0.mk (kB (g := gb331) (o := .cells #[.int .i64 a0_0, .int .i64 a0_1, .slice A0_2 l0_2.length c0_2, .slice A0_3 l0_3.length c0_3] 25 (0, 0)) (by (with_reducible repeat (first | refine kN ?_ _ | refine kD ?_ | refine kA ?_ _)); exact BK331.out) hb)
        have n6_ := Aside0.mk (kB (g := gb354) (o := .cells #[.int .i64 t346, .int .i64 t347, .slice Ao32 t348.length co32, .slice Ao33 t351.length co33] 30 (0, 0)) (by (with_reducible repeat (first | refine kN ?_ _ | refine kD ?_ | refine kA ?_ _)); exact BK354.out) hb)
        have n7_ := Aside0.mk (bP (by repeat (first | (with_reducible first | exact HB.out | apply bA | apply bN | apply bD | refine bS ?_ GE331.out | refine bS ?_ GE354.out) | exact HB.out)) hb)
        clear HO_9
        clear HO_355002
        clear HO_355003
        clear BK331
        clear BK354
        clear HB
        have HO_9 := n0_
        have HO_355002 := n1_
        have HO_355003 := n2_
        have HO364 := n3_
        have HO367 := n4_
        have BK331 := n5_
        have BK354 := n6_
        have HB := n7_
        clear n0_ n1_ n2_ n3_ n4_ n5_ n6_ n7_
        (try clear hb)
        (try clear hb2)
        (try clear hk)
        (try clear hi)
        (try clear ho0)
        (try clear ho1)
        obtain ⟨Ao55, co55, eo55⟩ := Kd.R_slice HO364.out
        (first | subst eo55 | (injection eo55 with f1_ f2_ f3_; have f4_ := f1_.symm; have f5_ := f3_.symm; clear f1_ f2_ f3_; subst f4_; subst f5_))
        obtain ⟨Ao56, co56, eo56⟩ := Kd.R_slice HO367.out
        (first | subst eo56 | (injection eo56 with f1_ f2_ f3_; have f4_ := f1_.symm; have f5_ := f3_.symm; clear f1_ f2_ f3_; subst f4_; subst f5_))
        refine hK.out _ _ ⟨(kC BK354.out 0).trans rfl, (kC BK354.out 1).trans rfl, (kC BK354.out 2).trans rfl, (kC BK354.out 3).trans rfl, (kC BK331.out 0).trans rfl, (kC BK331.out 1).trans rfl, (kC BK331.out 2).trans rfl, (kC BK331.out 3).trans rfl⟩ (fun hHeld => ?_)
        clear hK K
        refine norm_ (a' := ?_) ?_ ?_
        rotate_left
        ·show Act.put _ (some 48) _ = _
         simp only [Act.put, sI, sZ, sS, iW, jW]
         rfl
        refine one_ (i := 3) (N := some 49) #[T,T,T,T,F] rfl rfl (by kernel_rfl) (by decide) (fun K hK => ?_)
        refine goes_ Try.func19 (by kernel_rfl) rfl #[.agg #[.int .i64 t346, .int .i64 t347, .slice Ao32 t348.length co32, .slice Ao33 t351.length co33], .agg #[.int .i64 t360, .int .i64 t361, .slice Ao55 t362.length co55, .slice Ao56 t365.length co56]] (by rfl) rfl rfl (by (try simp only [List.map_toArray, List.map_cons, List.map_nil]); first | done | rfl | (simp only [List.length_drop, List.length_take]; rfl)) ?_
        with_reducible refine (laws_eqGrammar.calls kj15 t346 t347 _ _ t348 _ _ t351 t360 t361 _ _ t362 _ _ t365 true _ ?side1 ?side2 ?side3 ?side4 ?side5 ?side6 ?side7 ?side8 A41.out).mono ?_
        (case side1 => repeat (first | exact (Kd.R_reads' HO_355002.out).2.2 | (with_reducible refine cA ?_ _) | (with_reducible refine cN ?_ _) | (with_reducible refine cD ?_)))
        (case side2 => exact (Kd.R_reads' HO_355002.out).2.1)
        (case side3 => repeat (first | exact (Kd.R_reads' HO_355003.out).2.2 | (with_reducible refine cA ?_ _) | (with_reducible refine cN ?_ _) | (with_reducible refine cD ?_)))
        (case side4 => exact (Kd.R_reads' HO_355003.out).2.1)
        (case side5 => repeat (first | exact (Kd.R_reads' HO364.out).2.2 | (with_reducible refine cA ?_ _) | (with_reducible refine cN ?_ _) | (with_reducible refine cD ?_)))
        (case side6 => exact (Kd.R_reads' HO364.out).2.1)
        (case side7 => repeat (first | exact (Kd.R_reads' HO367.out).2.2 | (with_reducible refine cA ?_ _) | (with_reducible refine cN ?_ _) | (with_reducible refine cD ?_)))
        (case side8 => exact (Kd.R_reads' HO367.out).2.1)
        rintro e w57 ⟨rfl, hb⟩
        refine ⟨_, rfl, ?_⟩
        have n0_ := Aside0.mk (rB (by (with_reducible repeat (first | apply rA | apply rN | apply rD)); exact HO_9.out) hb)
        have n1_ := Aside0.mk (rB (by (with_reducible repeat (first | apply rA | apply rN | apply rD)); exact HO_355002.out) hb)
        have n2_ := Aside0.mk (rB (by (with_reducible repeat (first | apply rA | apply rN | apply rD)); exact HO_355003.out) hb)
        have n3_ := Aside0.mk (rB (by (with_reducible repeat (first | apply rA | apply rN | apply rD)); exact HO364.out) hb)
        have n4_ := Aside0.mk (rB (by (with_reducible repeat (first | apply rA | apply rN | apply rD)); exact HO367.out) hb)
        have n5_ := Aside0.mk (kB (g := gb331) (o := .cells #[.int .i64 a0_0, .int .i64 a0_1, .slice A0_2 l0_2.length c0_2, .slice A0_3 l0_3.length c0_3] 25 (0, 0)) (by (with_reducible repeat (first | refine kN ?_ _ | refine kD ?_ | refine kA ?_ _)); exact BK331.out) hb)
        have n6_ := Aside0.mk (kB (g := gb354) (o := .cells #[.int .i64 t346, .int .i64 t347, .slice Ao32 t348.length co32, .slice Ao33 t351.length co33] 30 (0, 0)) (by (with_reducible repeat (first | refine kN ?_ _ | refine kD ?_ | refine kA ?_ _)); exact BK354.out) hb)
        have n7_ := Aside0.mk (bP (by repeat (first | (with_reducible first | exact HB.out | apply bA | apply bN | apply bD | refine bS ?_ GE331.out | refine bS ?_ GE354.out) | exact HB.out)) hb)
        clear HO_9
        clear HO_355002
        clear HO_355003
        clear HO364
        clear HO367
        clear BK331
        clear BK354
        clear HB
        have HO_9 := n0_
        have HO_355002 := n1_
        have HO_355003 := n2_
        have HO364 := n3_
        have HO367 := n4_
        have BK331 := n5_
        have BK354 := n6_
        have HB := n7_
        clear n0_ n1_ n2_ n3_ n4_ n5_ n6_ n7_
        (try clear hb)
        (try clear hb2)
        (try clear hk)
        (try clear hi)
        refine hK.out _ _ ⟨(kC BK354.out 0).trans rfl, (kC BK354.out 1).trans rfl, (kC BK354.out 2).trans rfl, (kC BK354.out 3).trans rfl, (kC BK331.out 0).trans rfl, (kC BK331.out 1).trans rfl, (kC BK331.out 2).trans rfl, (kC BK331.out 3).trans rfl⟩ (fun hHeld => ?_)
        clear hK K
        refine norm_ (a' := ?_) ?_ ?_
        rotate_left
        ·show Act.put _ (some 49) _ = _
         simp only [Act.put, sI, sZ, sS, iW, jW]
         rfl
        refine pure_ (i := 4) (N := some 50) (v := ?_) (a' := ?_) #[T,T,T,T,T] rfl rfl (by kernel_rfl) (fun _ _ _ h => h) (Or.inl ⟨by rfl, ?_⟩) ?_ ?_; rotate_left; (·intro w'; go_simp; with_reducible rfl); rotate_left; (·simp only [Act.put, sI, sZ, sS, iW, jW]; rfl)
        refine done_ (by kernel_rfl) ?_
        try go_wp2_with (first | ((with_reducible refine gC (f := 25) rfl ?_); refine goesL_ (some 53) rfl rfl Try.func25 (by kernel_rfl) rfl #[.slice A1 l1.length c1] rfl (by (try simp only [List.map_toArray, List.map_cons, List.map_nil]); first | done | rfl | (simp only [List.length_drop, List.length_take]; rfl)) ?_; (with_reducible refine (laws_toInt64S.calls kj15 _ _ l1 t369 _ ?side1 ?side2 A43.out).mono ?_); (case side1 => repeat (first | exact (cB HR1.out HB.out) | (with_reducible refine cA ?_ _) | (with_reducible refine cN ?_ _) | (with_reducible refine cD ?_))); (case side2 => exact HC1.out); rintro e w58 ⟨v370, rfl, ho0, hb⟩; refine ⟨_, rfl, ?_⟩; have n0_ := Aside0.mk (rE (by (with_reducible repeat (first | apply rA | apply rN | apply rD)); exact HO_9.out) (Kd.R_base ho0) hb); have n1_ := Aside0.mk (rE (by (with_reducible repeat (first | apply rA | apply rN | apply rD)); exact HO_355002.out) (Kd.R_base ho0) hb); have n2_ := Aside0.mk (rB (by (with_reducible repeat (first | apply rA | apply rN | apply rD)); exact HO_355003.out) hb); have n3_ := Aside0.mk (rE (by (with_reducible repeat (first | apply rA | apply rN | apply rD)); exact HO364.out) (Kd.R_base ho0) hb); have n4_ := Aside0.mk (rB (by (with_reducible repeat (first | apply rA | apply rN | apply rD)); exact HO367.out) hb); have n5_ := Aside0.mk (rL (rW (rW (rW ho0 (rT (by (with_reducible repeat (first | apply rA | apply rN | apply rD)); exact HO_9.out))) (rT (by (with_reducible repeat (first | apply rA | apply rN | apply rD)); exact HO_355002.out))) (rT (by (with_reducible repeat (first | apply rA | apply rN | apply rD)); exact HO364.out))) (bZ (by repeat (first | (with_reducible first | exact HB.out | apply bA | apply bN | apply bD | refine bS ?_ GE331.out | refine bS ?_ GE354.out) | exact HB.out)))); have n6_ := Aside0.mk (kB (g := gb331) (o := .cells #[.int .i64 a0_0, .int .i64 a0_1, .slice A0_2 l0_2.length c0_2, .slice A0_3 l0_3.length c0_3] 25 (0, 0)) (by (with_reducible repeat (first | refine kN ?_ _ | refine kD ?_ | refine kA ?_ _)); exact BK331.out) hb); have n7_ := Aside0.mk (kB (g := gb354) (o := .cells #[.int .i64 t346, .int .i64 t347, .slice Ao32 t348.length co32, .slice Ao33 t351.length co33] 30 (0, 0)) (by (with_reducible repeat (first | refine kN ?_ _ | refine kD ?_ | refine kA ?_ _)); exact BK354.out) hb); have n8_ := Aside0.mk (bP (by repeat (first | (with_reducible first | exact HB.out | apply bA | apply bN | apply bD | refine bS ?_ GE331.out | refine bS ?_ GE354.out) | exact HB.out)) hb); clear HO_9; clear HO_355002; clear HO_355003; clear HO364; clear HO367; clear BK331; clear BK354; clear HB; have HO_9 := n0_; have HO_355002 := n1_; have HO_355003 := n2_; have HO364 := n3_; have HO367 := n4_; have HO371 := n5_; have BK331 := n6_; have BK354 := n7_; have HB := n8_; clear n0_ n1_ n2_ n3_ n4_ n5_ n6_ n7_ n8_; (try clear hb); (try clear hb2); (try clear hk); (try clear hi); (try clear ho0); obtain ⟨Ao59, co59, eo59⟩ := Kd.R_slice HO371.out; subst eo59) | ((with_reducible refine gC (f := 27) rfl ?_); refine goesL_ (some 54) rfl rfl Try.func27 (by kernel_rfl) rfl #[.slice Ao36 t355.length co36, .slice Ao59 t369.length co59] rfl (by (try simp only [List.map_toArray, List.map_cons, List.map_nil]); first | done | rfl | (simp only [List.length_drop, List.length_take]; rfl)) ?_; (with_reducible refine (laws_eqInt64S.calls kj15 _ _ t355 _ _ t369 false _ ?side1 ?side2 ?side3 ?side4 A44.out).mono ?_); (case side1 => repeat (first | exact (Kd.R_reads' HO_9.out).2.2 | (with_reducible refine cA ?_ _) | (with_reducible refine cN ?_ _) | (with_reducible refine cD ?_))); (case side2 => exact (Kd.R_reads' HO_9.out).2.1); (case side3 => repeat (first | exact (Kd.R_reads' HO371.out).2.2 | (with_reducible refine cA ?_ _) | (with_reducible refine cN ?_ _) | (with_reducible refine cD ?_))); (case side4 => exact (Kd.R_reads' HO371.out).2.1); rintro e w' ⟨rfl, ⟨nd, rfl⟩⟩; refine ⟨_, rfl, ?_⟩))
        go_ret
        exact ⟨by first | rfl | (simp [errW_none, errW_some] <;> rfl) | (simp [*, errW_none, errW_some] <;> rfl), by repeat (first | (with_reducible first | exact HB.out | apply bA | apply bN | apply bD | refine bS ?_ GE331.out | refine bS ?_ GE354.out) | exact HB.out)⟩
      ·replace c42 := Bool.eq_false_iff.mpr c42
       subst c42
       have H1 : (some false) = some r := by rw [if_neg (show ¬ (false = true) by decide)] at H; exact H
       clear H
       have H := H1
       clear H1
       obtain rfl := Option.some.inj H
       try go_wp2
       have n0_ := Aside0.mk (rD HO_9.out)
       have n1_ := Aside0.mk (rD HO_355002.out)
       have n2_ := Aside0.mk (rD HO_355003.out)
       have n3_ := Aside0.mk (kD BK331.out)
       have n4_ := Aside0.mk (kD BK354.out)
       have n5_ := Aside0.mk (bD HB.out)
       clear HO_9
       clear HO_355002
       clear HO_355003
       clear BK331
       clear BK354
       clear HB
       have HO_9 := n0_
       have HO_355002 := n1_
       have HO_355003 := n2_
       have BK331 := n3_
       have BK354 := n4_
       have HB := n5_
       clear n0_ n1_ n2_ n3_ n4_ n5_
       refine start_ (n := 5) (S := fun w' => w'.cell? ⟨gb354, 0, none⟩ = some (.int .i64 t346) ∧ w'.cell? ⟨gb354, 1, none⟩ = some (.int .i64 t347) ∧ w'.cell? ⟨gb354, 2, none⟩ = some (.slice Ao32 t348.length co32) ∧ w'.cell? ⟨gb354, 3, none⟩ = some (.slice Ao33 t351.length co33) ∧ w'.cell? ⟨gb331, 0, none⟩ = some (.int .i64 a0_0) ∧ w'.cell? ⟨gb331, 1, none⟩ = some (.int .i64 a0_1) ∧ w'.cell? ⟨gb331, 2, none⟩ = some (.slice A0_2 l0_2.length c0_2) ∧ w'.cell? ⟨gb331, 3, none⟩ = some (.slice A0_3 l0_3.length c0_3)) (ds := []) #[F,F,F,F,F] (by kernel_rfl) rfl rfl ⟨(kC BK354.out 0).trans rfl, (kC BK354.out 1).trans rfl, (kC BK354.out 2).trans rfl, (kC BK354.out 3).trans rfl, (kC BK331.out 0).trans rfl, (kC BK331.out 1).trans rfl, (kC BK331.out 2).trans rfl, (kC BK331.out 3).trans rfl⟩ (fun hHeld => ?_)
       generalize wc.drew = w60 at HO_9 HO_355002 HO_355003 BK331 BK354 HB hHeld ⊢
       refine take_ (i := 0) (N := some 46) (v := ?_) (a' := ?_) #[T,F,F,F,F] rfl rfl (by kernel_rfl) (fun _ _ _ h => h) (Or.inl ⟨by rfl, ?_⟩) hHeld ?_ ?_; rotate_left; (·rintro w' ⟨s0, s1, s2, s3, s4, s5, s6, s7⟩; go_simp; with_reducible rfl); rotate_left; (·simp only [Act.put, sI, sZ, sS, iW, jW]; rfl)
       refine take_ (i := 1) (N := some 47) (v := ?_) (a' := ?_) #[T,T,F,F,F] rfl rfl (by kernel_rfl) (fun _ _ _ h => h) (Or.inl ⟨by rfl, ?_⟩) hHeld ?_ ?_; rotate_left; (·rintro w' ⟨s0, s1, s2, s3, s4, s5, s6, s7⟩; go_simp; with_reducible rfl); rotate_left; (·simp only [Act.put, sI, sZ, sS, iW, jW]; rfl)
       refine one_ (i := 2) (N := some 48) #[T,T,T,F,F] rfl rfl (by kernel_rfl) (by decide) (fun K hK => ?_)
       refine goes_ Try.func17 (by kernel_rfl) rfl #[.agg #[.int .i64 a0_0, .int .i64 a0_1, .slice A0_2 l0_2.length c0_2, .slice A0_3 l0_3.length c0_3]] (by rfl) rfl rfl (by (try simp only [List.map_toArray, List.map_cons, List.map_nil]); first | done | rfl | (simp only [List.length_drop, List.length_take]; rfl)) ?_
       with_reducible refine (laws_toGrammar.calls kj15 a0_0 a0_1 _ _ l0_2 _ _ l0_3 t360 t361 t362 t365 _ ?side1 ?side2 ?side3 ?side4 A40.out).mono ?_
       (case side1 => repeat (first | exact (cB HR0_2.out HB.out) | (with_reducible refine cA ?_ _) | (with_reducible refine cN ?_ _) | (with_reducible refine cD ?_)))
       (case side2 => exact HC0_2.out)
       (case side3 => repeat (first | exact (cB HR0_3.out HB.out) | (with_reducible refine cA ?_ _) | (with_reducible refine cN ?_ _) | (with_reducible refine cD ?_)))
       (case side4 => exact HC0_3.out)
       rintro e w61 ⟨v363, v366, rfl, ho0, ho1, hb⟩
       refine ⟨_, rfl, ?_⟩
       have n0_ := Aside0.mk (rE (by (with_reducible repeat (first | apply rA | apply rN | apply rD)); exact HO_9.out) (Kd.R_base ho0) hb)
       have n1_ := Aside0.mk (rE (by (with_reducible repeat (first | apply rA | apply rN | apply rD)); exact HO_355002.out) (Kd.R_base ho0) hb)
       have n2_ := Aside0.mk (rE (by (with_reducible repeat (first | apply rA | apply rN | apply rD)); exact HO_355003.out) (Kd.R_base ho1) hb)
       have n3_ := Aside0.mk (rL (rW (rW ho0 (rT (by (with_reducible repeat (first | apply rA | apply rN | apply rD)); exact HO_9.out))) (rT (by (with_reducible repeat (first | apply rA | apply rN | apply rD)); exact HO_355002.out))) (bZ (by repeat (first | (with_reducible first | exact HB.out | apply bA | apply bN | apply bD | refine bS ?_ GE331.out | refine bS ?_ GE354.out) | exact HB.out))))
       have n4_ := Aside0.mk (rL (rW ho1 (rT (by (with_reducible repeat (first | apply rA | apply rN | apply rD)); exact HO_355003.out))) (bZ (by repeat (first | (with_reducible first | exact HB.out | apply bA | apply bN | apply bD | refine bS ?_ GE331.out | refine bS ?_ GE354.out) | exact HB.out))))
       have n5_ := Aside0.mk (kB (g := gb331) (o := .cells #[.int .i64 a0_0, .int .i64 a0_1, .slice A0_2 l0_2.length c0_2, .slice A0_3 l0_3.length c0_3] 25 (0, 0)) (by (with_reducible repeat (first | refine kN ?_ _ | refine kD ?_ | refine kA ?_ _)); exact BK331.out) hb)
       have n6_ := Aside0.mk (kB (g := gb354) (o := .cells #[.int .i64 t346, .int .i64 t347, .slice Ao32 t348.length co32, .slice Ao33 t351.length co33] 30 (0, 0)) (by (with_reducible repeat (first | refine kN ?_ _ | refine kD ?_ | refine kA ?_ _)); exact BK354.out) hb)
       have n7_ := Aside0.mk (bP (by repeat (first | (with_reducible first | exact HB.out | apply bA | apply bN | apply bD | refine bS ?_ GE331.out | refine bS ?_ GE354.out) | exact HB.out)) hb)
       clear HO_9
       clear HO_355002
       clear HO_355003
       clear BK331
       clear BK354
       clear HB
       have HO_9 := n0_
       have HO_355002 := n1_
       have HO_355003 := n2_
       have HO364 := n3_
       have HO367 := n4_
       have BK331 := n5_
       have BK354 := n6_
       have HB := n7_
       clear n0_ n1_ n2_ n3_ n4_ n5_ n6_ n7_
       (try clear hb)
       (try clear hb2)
       (try clear hk)
       (try clear hi)
       (try clear ho0)
       (try clear ho1)
       obtain ⟨Ao62, co62, eo62⟩ := Kd.R_slice HO364.out
       (first | subst eo62 | (injection eo62 with f1_ f2_ f3_; have f4_ := f1_.symm; have f5_ := f3_.symm; clear f1_ f2_ f3_; subst f4_; subst f5_))
       obtain ⟨Ao63, co63, eo63⟩ := Kd.R_slice HO367.out
       (first | subst eo63 | (injection eo63 with f1_ f2_ f3_; have f4_ := f1_.symm; have f5_ := f3_.symm; clear f1_ f2_ f3_; subst f4_; subst f5_))
       refine hK.out _ _ ⟨(kC BK354.out 0).trans rfl, (kC BK354.out 1).trans rfl, (kC BK354.out 2).trans rfl, (kC BK354.out 3).trans rfl, (kC BK331.out 0).trans rfl, (kC BK331.out 1).trans rfl, (kC BK331.out 2).trans rfl, (kC BK331.out 3).trans rfl⟩ (fun hHeld => ?_)
       clear hK K
       refine norm_ (a' := ?_) ?_ ?_
       rotate_left
       ·show Act.put _ (some 48) _ = _
        simp only [Act.put, sI, sZ, sS, iW, jW]
        rfl
       refine one_ (i := 3) (N := some 49) #[T,T,T,T,F] rfl rfl (by kernel_rfl) (by decide) (fun K hK => ?_)
       refine goes_ Try.func19 (by kernel_rfl) rfl #[.agg #[.int .i64 t346, .int .i64 t347, .slice Ao32 t348.length co32, .slice Ao33 t351.length co33], .agg #[.int .i64 t360, .int .i64 t361, .slice Ao62 t362.length co62, .slice Ao63 t365.length co63]] (by rfl) rfl rfl (by (try simp only [List.map_toArray, List.map_cons, List.map_nil]); first | done | rfl | (simp only [List.length_drop, List.length_take]; rfl)) ?_
       with_reducible refine (laws_eqGrammar.calls kj15 t346 t347 _ _ t348 _ _ t351 t360 t361 _ _ t362 _ _ t365 false _ ?side1 ?side2 ?side3 ?side4 ?side5 ?side6 ?side7 ?side8 A41.out).mono ?_
       (case side1 => repeat (first | exact (Kd.R_reads' HO_355002.out).2.2 | (with_reducible refine cA ?_ _) | (with_reducible refine cN ?_ _) | (with_reducible refine cD ?_)))
       (case side2 => exact (Kd.R_reads' HO_355002.out).2.1)
       (case side3 => repeat (first | exact (Kd.R_reads' HO_355003.out).2.2 | (with_reducible refine cA ?_ _) | (with_reducible refine cN ?_ _) | (with_reducible refine cD ?_)))
       (case side4 => exact (Kd.R_reads' HO_355003.out).2.1)
       (case side5 => repeat (first | exact (Kd.R_reads' HO364.out).2.2 | (with_reducible refine cA ?_ _) | (with_reducible refine cN ?_ _) | (with_reducible refine cD ?_)))
       (case side6 => exact (Kd.R_reads' HO364.out).2.1)
       (case side7 => repeat (first | exact (Kd.R_reads' HO367.out).2.2 | (with_reducible refine cA ?_ _) | (with_reducible refine cN ?_ _) | (with_reducible refine cD ?_)))
       (case side8 => exact (Kd.R_reads' HO367.out).2.1)
       rintro e w64 ⟨rfl, hb⟩
       refine ⟨_, rfl, ?_⟩
       have n0_ := Aside0.mk (rB (by (with_reducible repeat (first | apply rA | apply rN | apply rD)); exact HO_9.out) hb)
       have n1_ := Aside0.mk (rB (by (with_reducible repeat (first | apply rA | apply rN | apply rD)); exact HO_355002.out) hb)
       have n2_ := Aside0.mk (rB (by (with_reducible repeat (first | apply rA | apply rN | apply rD)); exact HO_355003.out) hb)
       have n3_ := Aside0.mk (rB (by (with_reducible repeat (first | apply rA | apply rN | apply rD)); exact HO364.out) hb)
       have n4_ := Aside0.mk (rB (by (with_reducible repeat (first | apply rA | apply rN | apply rD)); exact HO367.out) hb)
       have n5_ := Aside0.mk (kB (g := gb331) (o := .cells #[.int .i64 a0_0, .int .i64 a0_1, .slice A0_2 l0_2.length c0_2, .slice A0_3 l0_3.length c0_3] 25 (0, 0)) (by (with_reducible repeat (first | refine kN ?_ _ | refine kD ?_ | refine kA ?_ _)); exact BK331.out) hb)
       have n6_ := Aside0.mk (kB (g := gb354) (o := .cells #[.int .i64 t346, .int .i64 t347, .slice Ao32 t348.length co32, .slice Ao33 t351.length co33] 30 (0, 0)) (by (with_reducible repeat (first | refine kN ?_ _ | refine kD ?_ | refine kA ?_ _)); exact BK354.out) hb)
       have n7_ := Aside0.mk (bP (by repeat (first | (with_reducible first | exact HB.out | apply bA | apply bN | apply bD | refine bS ?_ GE331.out | refine bS ?_ GE354.out) | exact HB.out)) hb)
       clear HO_9
       clear HO_355002
       clear HO_355003
       clear HO364
       clear HO367
       clear BK331
       clear BK354
       clear HB
       have HO_9 := n0_
       have HO_355002 := n1_
       have HO_355003 := n2_
       have HO364 := n3_
       have HO367 := n4_
       have BK331 := n5_
       have BK354 := n6_
       have HB := n7_
       clear n0_ n1_ n2_ n3_ n4_ n5_ n6_ n7_
       (try clear hb)
       (try clear hb2)
       (try clear hk)
       (try clear hi)
       refine hK.out _ _ ⟨(kC BK354.out 0).trans rfl, (kC BK354.out 1).trans rfl, (kC BK354.out 2).trans rfl, (kC BK354.out 3).trans rfl, (kC BK331.out 0).trans rfl, (kC BK331.out 1).trans rfl, (kC BK331.out 2).trans rfl, (kC BK331.out 3).trans rfl⟩ (fun hHeld => ?_)
       clear hK K
       refine norm_ (a' := ?_) ?_ ?_
       rotate_left
       ·show Act.put _ (some 49) _ = _
        simp only [Act.put, sI, sZ, sS, iW, jW]
        rfl
       refine pure_ (i := 4) (N := some 50) (v := ?_) (a' := ?_) #[T,T,T,T,T] rfl rfl (by kernel_rfl) (fun _ _ _ h => h) (Or.inl ⟨by rfl, ?_⟩) ?_ ?_; rotate_left; (·intro w'; go_simp; with_reducible rfl); rotate_left; (·simp only [Act.put, sI, sZ, sS, iW, jW]; rfl)
       refine done_ (by kernel_rfl) ?_
       try go_wp2
       go_ret
       exact ⟨by first | rfl | (simp [errW_none, errW_some] <;> rfl) | (simp [*, errW_none, errW_some] <;> rfl), by repeat (first | (with_reducible first | exact HB.out | apply bA | apply bN | apply bD | refine bS ?_ GE331.out | refine bS ?_ GE354.out) | exact HB.out)⟩

/-- THE ONE PURE STATEMENT of laws_FnExactMelodyNumber. -/
def laws_FnExactMelodyNumber.Pure : Prop := ∀ (a0_0 : Int) (a0_1 : Int) (l0_2 : List Int) (l0_3 : List (S108)) (l1 : List Int), (Lit.int .i64 a0_0).wf = true → (Lit.int .i64 a0_1).wf = true → (l0_2.length ≤ maxLen ∧ ∀ x ∈ l0_2, (Lit.int .i64 x).wf = true) → (l0_3.length ≤ maxLen ∧ ∀ x ∈ l0_3, (Lit.int .i64 x.f0).wf = true ∧ (Lit.int .i64 x.f1).wf = true ∧ (Lit.int .i64 x.f2).wf = true) → (l1.length ≤ maxLen ∧ ∀ x ∈ l1, (Lit.int .i64 x).wf = true) → ∃ k, laws_FnExactMelodyNumber.f k a0_0 a0_1 l0_2 l0_3 l1 = some true

end Go.Proofs.Ytijbhcalknfijaa.M2
-- shrunk
-- tight
