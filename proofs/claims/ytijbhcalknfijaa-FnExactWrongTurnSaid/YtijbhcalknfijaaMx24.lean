/- What functions of the given program compute, as plain Lean functions, and that the code comes to just that; by a program of this session over the kit's print. No condition. -/
import Derived.Test.YtijbhcalknfijaaMx0
import Derived.Test.YtijbhcalknfijaaMx2
import Derived.Test.YtijbhcalknfijaaMx3
import Derived.Test.YtijbhcalknfijaaMx4
import Derived.Test.YtijbhcalknfijaaMx6
import Derived.Test.YtijbhcalknfijaaMx20
import Derived.Test.YtijbhcalknfijaaMx21
import Derived.Test.YtijbhcalknfijaaMx22
import Derived.Test.YtijbhcalknfijaaMx23
namespace Go.Proofs.Ytijbhcalknfijaa.M
open Go.RowKit Go.Proofs.YtijbhcalknfijaaW.PrintWords Go.Proofs.YtijbhcalknfijaaW.PrintLast
open Go.Proofs.YtijbhcalknfijaaW.PrintWords renaming below_alloc → bA, pw_below_drewN → bN, below_drew1 → bD, below_set → bS, blk_drewN → kN, blk_drew → kD, blk_alloc → kA, blk_below → kB, below_size → bZ, below_step → bP, blk_far → kF, blk_lt → kL, gate_callee → gC, box_event → bE, blk_cell → kC
open Go.Proofs.YtijbhcalknfijaaW.PrintLast renaming i64_w → iW, i32_w → jW
open Go.Proofs.YtijbhcalknfijaaW.PrintWords.Kd renaming R_alloc → rA, R_drewN → rN, R_drew → rD, C_alloc → cA, C_drewN → cN, C_drew → cD, C_below → cB, R_lower → rL, R_below → rB, R_elder' → rE, R_new' → rW, R_lt → rT, R_mono → rM
open List renaming setIfInBounds_toArray → sI, set_cons_zero → sZ, set_cons_succ → sS
open Bool renaming true → T, false → F
set_option linter.unusedVariables false
set_option linter.unusedSimpArgs false

/-! ### laws_FnExactWrongTurn: function 9 -/
mutual
def laws_FnExactWrongTurn.j0 : Nat → List Int → Int → List Int → Int → List Int → Int → List Int → Int → Bool → Int → Int → List Int → List (S108) → Int → Int → List Int → List (S67) → Option (Bool)
 | 0, _, _, _, _, _, _, _, _, _, _, _, _, _, _, _, _, _ => none
 | k + 1, x1, x6, x7, x8, x10, x11, x12, x13, x61, x326000, x326001, x326002, x326003, x352000, x352001, x352002, x352003 => if x61 = true then (some false) else ((laws_toGrammar.f k x326000 x326001 x326002 x326003).bind fun bt361 => ((laws_eqGrammar.f k x352000 x352001 x352002 x352003 bt361.1 bt361.2.1 bt361.2.2.1 bt361.2.2.2).bind fun t369 => (if t369 = true then ((laws_toInt64S.f k x1).bind fun t370 => ((laws_eqInt64S.f k x10 t370).bind fun t373 => (if t373 = true then ((laws_markGrammar.f k x352000 x352001 x352002 x352003 1).bind fun bt374 => ((laws_markInt64S.f k x10 bt374.1).bind fun bt377 => (if bt377.1 < 0 then (laws_FnExactWrongTurn.j1 k x1 x6 x7 x8 x12 true x326000 x326001 x326002 x326003) else (if x11 = x6 then ((laws_eqInt64S.f k x12 x7).bind fun t379 => (if t379 = true then (laws_FnExactWrongTurn.j1 k x1 x6 x7 x8 x12 (x13 != x8) x326000 x326001 x326002 x326003) else (laws_FnExactWrongTurn.j1 k x1 x6 x7 x8 x12 true x326000 x326001 x326002 x326003))) else (laws_FnExactWrongTurn.j1 k x1 x6 x7 x8 x12 true x326000 x326001 x326002 x326003))))) else (some false)))) else (some false))))
def laws_FnExactWrongTurn.j1 : Nat → List Int → Int → List Int → Int → List Int → Bool → Int → Int → List Int → List (S108) → Option (Bool)
 | 0, _, _, _, _, _, _, _, _, _, _ => none
 | k + 1, x1, x6, x7, x8, x12, x95, x326000, x326001, x326002, x326003 => if x95 = true then (some false) else ((laws_markInt64S.f k x12 1).bind fun bt380 => ((laws_heldInt64S.f k bt380.2 1).bind fun t382 => (if t382 < 0 then (some false) else (if t382 = bt380.1 then ((laws_toGrammar.f k x326000 x326001 x326002 x326003).bind fun bt383 => ((laws_toInt64S.f k x1).bind fun t391 => ((impl_WrongTurn.f k bt383.1 bt383.2.1 bt383.2.2.1 bt383.2.2.2 t391).bind fun bt394 => (if bt394.1 = x6 then ((laws_eqInt64S.f k bt394.2.1 x7).bind fun t399 => (if t399 = true then (laws_FnExactWrongTurn.j2 k bt380.2 bt380.1 (bt394.2.2 != x8)) else (laws_FnExactWrongTurn.j2 k bt380.2 bt380.1 true))) else (laws_FnExactWrongTurn.j2 k bt380.2 bt380.1 true))))) else (some false)))))
def laws_FnExactWrongTurn.j2 : Nat → List Int → Int → Bool → Option (Bool)
 | 0, _, _, _ => none
 | k + 1, x12, x15, x129 => if x129 = true then (some false) else ((laws_heldInt64S.f k x12 1).bind fun t400 => (if t400 < 0 then (some false) else (if t400 = x15 then (some true) else (some false))))
end
def laws_FnExactWrongTurn.f (k : Nat) (a0_0 : Int) (a0_1 : Int) (l0_2 : List Int) (l0_3 : List (S108)) (l1 : List Int) : Option (Bool) := if (l1.length : Int) > 1048576 then (some true) else ((laws_szGrammar.f a0_0 a0_1 l0_2 l0_3 1048576).bind fun t326 => (if t326 < 0 then (some true) else ((laws_toGrammar.f k a0_0 a0_1 l0_2 l0_3).bind fun bt327 => ((laws_toInt64S.f k l1).bind fun t335 => ((spec_WrongTurn.f k bt327.1 bt327.2.1 bt327.2.2.1 bt327.2.2.2 t335).bind fun bt338 => ((laws_toGrammar.f k a0_0 a0_1 l0_2 l0_3).bind fun bt343 => ((laws_toInt64S.f k l1).bind fun t352 => ((impl_WrongTurn.f k bt343.1 bt343.2.1 bt343.2.2.1 bt343.2.2.2 t352).bind fun bt355 => (if bt355.1 = bt338.1 then ((laws_eqInt64S.f k bt355.2.1 bt338.2.1).bind fun t360 => (if t360 = true then (laws_FnExactWrongTurn.j0 k l1 bt338.1 bt338.2.1 bt338.2.2 t352 bt355.1 bt355.2.1 bt355.2.2 (bt355.2.2 != bt338.2.2) a0_0 a0_1 l0_2 l0_3 bt343.1 bt343.2.1 bt343.2.2.1 bt343.2.2.2) else (laws_FnExactWrongTurn.j0 k l1 bt338.1 bt338.2.1 bt338.2.2 t352 bt355.1 bt355.2.1 bt355.2.2 true a0_0 a0_1 l0_2 l0_3 bt343.1 bt343.2.1 bt343.2.2.1 bt343.2.2.2))) else (laws_FnExactWrongTurn.j0 k l1 bt338.1 bt338.2.1 bt338.2.2 t352 bt355.1 bt355.2.1 bt355.2.2 true a0_0 a0_1 l0_2 l0_3 bt343.1 bt343.2.1 bt343.2.2.1 bt343.2.2.2))))))))))
theorem laws_FnExactWrongTurn.mono_l : ∀ k, (∀ y0 y1 y2 y3 y4 y5 y6 y7 y8 y9 y10 y11 y12 y13 y14 y15 y16, LeO (laws_FnExactWrongTurn.j0 k y0 y1 y2 y3 y4 y5 y6 y7 y8 y9 y10 y11 y12 y13 y14 y15 y16) (laws_FnExactWrongTurn.j0 (k + 1) y0 y1 y2 y3 y4 y5 y6 y7 y8 y9 y10 y11 y12 y13 y14 y15 y16)) ∧ (∀ y0 y1 y2 y3 y4 y5 y6 y7 y8 y9, LeO (laws_FnExactWrongTurn.j1 k y0 y1 y2 y3 y4 y5 y6 y7 y8 y9) (laws_FnExactWrongTurn.j1 (k + 1) y0 y1 y2 y3 y4 y5 y6 y7 y8 y9)) ∧ (∀ y0 y1 y2, LeO (laws_FnExactWrongTurn.j2 k y0 y1 y2) (laws_FnExactWrongTurn.j2 (k + 1) y0 y1 y2))
 | 0 => ⟨fun _ _ _ _ _ _ _ _ _ _ _ _ _ _ _ _ _ r h => by simp [laws_FnExactWrongTurn.j0] at h, fun _ _ _ _ _ _ _ _ _ _ r h => by simp [laws_FnExactWrongTurn.j1] at h, fun _ _ _ r h => by simp [laws_FnExactWrongTurn.j2] at h⟩
 | k + 1 => by
  obtain ⟨ih0, ih1, ih2⟩ := laws_FnExactWrongTurn.mono_l k
  refine ⟨?_, ?_, ?_⟩
  ·intro y0 y1 y2 y3 y4 y5 y6 y7 y8 y9 y10 y11 y12 y13 y14 y15 y16
   unfold laws_FnExactWrongTurn.j0
   repeat' first
   | (with_reducible exact ih0 _ _ _ _ _ _ _ _ _ _ _ _ _ _ _ _ _)
   | (with_reducible exact ih1 _ _ _ _ _ _ _ _ _ _)
   | (with_reducible exact ih2 _ _ _)
   | (with_reducible exact impl_WrongTurn.mono _ _ _ _ _ _)
   | (with_reducible exact laws_eqGrammar.mono _ _ _ _ _ _ _ _ _)
   | (with_reducible exact laws_eqInt64S.mono _ _ _)
   | (with_reducible exact laws_heldInt64S.mono _ _ _)
   | (with_reducible exact laws_markGrammar.mono _ _ _ _ _ _)
   | (with_reducible exact laws_markInt64S.mono _ _ _)
   | (with_reducible exact laws_toGrammar.mono _ _ _ _ _)
   | (with_reducible exact laws_toInt64S.mono _ _)
   | (with_reducible exact spec_WrongTurn.mono _ _ _ _ _ _)
   | (with_reducible exact LeO.refl _)
   | (with_reducible exact LeO.none _)
   | (with_reducible refine LeO.ite ?_ ?_)
   | (with_reducible refine LeO.bind ?_ (fun _ => ?_))
   | exact ih0 _ _ _ _ _ _ _ _ _ _ _ _ _ _ _ _ _
   | exact ih1 _ _ _ _ _ _ _ _ _ _
   | exact ih2 _ _ _
   | exact impl_WrongTurn.mono _ _ _ _ _ _
   | exact laws_eqGrammar.mono _ _ _ _ _ _ _ _ _
   | exact laws_eqInt64S.mono _ _ _
   | exact laws_heldInt64S.mono _ _ _
   | exact laws_markGrammar.mono _ _ _ _ _ _
   | exact laws_markInt64S.mono _ _ _
   | exact laws_toGrammar.mono _ _ _ _ _
   | exact laws_toInt64S.mono _ _
   | exact spec_WrongTurn.mono _ _ _ _ _ _
   | exact LeO.none _
   | refine LeO.ite ?_ ?_
   | refine LeO.bind ?_ (fun _ => ?_)
  ·intro y0 y1 y2 y3 y4 y5 y6 y7 y8 y9
   unfold laws_FnExactWrongTurn.j1
   repeat' first
   | (with_reducible exact ih0 _ _ _ _ _ _ _ _ _ _ _ _ _ _ _ _ _)
   | (with_reducible exact ih1 _ _ _ _ _ _ _ _ _ _)
   | (with_reducible exact ih2 _ _ _)
   | (with_reducible exact impl_WrongTurn.mono _ _ _ _ _ _)
   | (with_reducible exact laws_eqGrammar.mono _ _ _ _ _ _ _ _ _)
   | (with_reducible exact laws_eqInt64S.mono _ _ _)
   | (with_reducible exact laws_heldInt64S.mono _ _ _)
   | (with_reducible exact laws_markGrammar.mono _ _ _ _ _ _)
   | (with_reducible exact laws_markInt64S.mono _ _ _)
   | (with_reducible exact laws_toGrammar.mono _ _ _ _ _)
   | (with_reducible exact laws_toInt64S.mono _ _)
   | (with_reducible exact spec_WrongTurn.mono _ _ _ _ _ _)
   | (with_reducible exact LeO.refl _)
   | (with_reducible exact LeO.none _)
   | (with_reducible refine LeO.ite ?_ ?_)
   | (with_reducible refine LeO.bind ?_ (fun _ => ?_))
   | exact ih0 _ _ _ _ _ _ _ _ _ _ _ _ _ _ _ _ _
   | exact ih1 _ _ _ _ _ _ _ _ _ _
   | exact ih2 _ _ _
   | exact impl_WrongTurn.mono _ _ _ _ _ _
   | exact laws_eqGrammar.mono _ _ _ _ _ _ _ _ _
   | exact laws_eqInt64S.mono _ _ _
   | exact laws_heldInt64S.mono _ _ _
   | exact laws_markGrammar.mono _ _ _ _ _ _
   | exact laws_markInt64S.mono _ _ _
   | exact laws_toGrammar.mono _ _ _ _ _
   | exact laws_toInt64S.mono _ _
   | exact spec_WrongTurn.mono _ _ _ _ _ _
   | exact LeO.none _
   | refine LeO.ite ?_ ?_
   | refine LeO.bind ?_ (fun _ => ?_)
  ·intro y0 y1 y2
   unfold laws_FnExactWrongTurn.j2
   repeat' first
   | (with_reducible exact ih0 _ _ _ _ _ _ _ _ _ _ _ _ _ _ _ _ _)
   | (with_reducible exact ih1 _ _ _ _ _ _ _ _ _ _)
   | (with_reducible exact ih2 _ _ _)
   | (with_reducible exact impl_WrongTurn.mono _ _ _ _ _ _)
   | (with_reducible exact laws_eqGrammar.mono _ _ _ _ _ _ _ _ _)
   | (with_reducible exact laws_eqInt64S.mono _ _ _)
   | (with_reducible exact laws_heldInt64S.mono _ _ _)
   | (with_reducible exact laws_markGrammar.mono _ _ _ _ _ _)
   | (with_reducible exact laws_markInt64S.mono _ _ _)
   | (with_reducible exact laws_toGrammar.mono _ _ _ _ _)
   | (with_reducible exact laws_toInt64S.mono _ _)
   | (with_reducible exact spec_WrongTurn.mono _ _ _ _ _ _)
   | (with_reducible exact LeO.refl _)
   | (with_reducible exact LeO.none _)
   | (with_reducible refine LeO.ite ?_ ?_)
   | (with_reducible refine LeO.bind ?_ (fun _ => ?_))
   | exact ih0 _ _ _ _ _ _ _ _ _ _ _ _ _ _ _ _ _
   | exact ih1 _ _ _ _ _ _ _ _ _ _
   | exact ih2 _ _ _
   | exact impl_WrongTurn.mono _ _ _ _ _ _
   | exact laws_eqGrammar.mono _ _ _ _ _ _ _ _ _
   | exact laws_eqInt64S.mono _ _ _
   | exact laws_heldInt64S.mono _ _ _
   | exact laws_markGrammar.mono _ _ _ _ _ _
   | exact laws_markInt64S.mono _ _ _
   | exact laws_toGrammar.mono _ _ _ _ _
   | exact laws_toInt64S.mono _ _
   | exact spec_WrongTurn.mono _ _ _ _ _ _
   | exact LeO.none _
   | refine LeO.ite ?_ ?_
   | refine LeO.bind ?_ (fun _ => ?_)
theorem laws_FnExactWrongTurn.mono : ∀ a0 a1 a2 a3 a4 k, LeO (laws_FnExactWrongTurn.f k a0 a1 a2 a3 a4) (laws_FnExactWrongTurn.f (k + 1) a0 a1 a2 a3 a4) := by
 intro a0 a1 a2 a3 a4 k
 obtain ⟨ih0, ih1, ih2⟩ := laws_FnExactWrongTurn.mono_l k
 unfold laws_FnExactWrongTurn.f
 repeat' first
   | (with_reducible exact ih0 _ _ _ _ _ _ _ _ _ _ _ _ _ _ _ _ _)
   | (with_reducible exact ih1 _ _ _ _ _ _ _ _ _ _)
   | (with_reducible exact ih2 _ _ _)
   | (with_reducible exact impl_WrongTurn.mono _ _ _ _ _ _)
   | (with_reducible exact laws_eqGrammar.mono _ _ _ _ _ _ _ _ _)
   | (with_reducible exact laws_eqInt64S.mono _ _ _)
   | (with_reducible exact laws_heldInt64S.mono _ _ _)
   | (with_reducible exact laws_markGrammar.mono _ _ _ _ _ _)
   | (with_reducible exact laws_markInt64S.mono _ _ _)
   | (with_reducible exact laws_toGrammar.mono _ _ _ _ _)
   | (with_reducible exact laws_toInt64S.mono _ _)
   | (with_reducible exact spec_WrongTurn.mono _ _ _ _ _ _)
   | (with_reducible exact LeO.refl _)
   | (with_reducible exact LeO.none _)
   | (with_reducible refine LeO.ite ?_ ?_)
   | (with_reducible refine LeO.bind ?_ (fun _ => ?_))
   | exact ih0 _ _ _ _ _ _ _ _ _ _ _ _ _ _ _ _ _
   | exact ih1 _ _ _ _ _ _ _ _ _ _
   | exact ih2 _ _ _
   | exact impl_WrongTurn.mono _ _ _ _ _ _
   | exact laws_eqGrammar.mono _ _ _ _ _ _ _ _ _
   | exact laws_eqInt64S.mono _ _ _
   | exact laws_heldInt64S.mono _ _ _
   | exact laws_markGrammar.mono _ _ _ _ _ _
   | exact laws_markInt64S.mono _ _ _
   | exact laws_toGrammar.mono _ _ _ _ _
   | exact laws_toInt64S.mono _ _
   | exact spec_WrongTurn.mono _ _ _ _ _ _
   | exact LeO.none _
   | refine LeO.ite ?_ ?_
   | refine LeO.bind ?_ (fun _ => ?_)
set_option maxHeartbeats 8000000 in
set_option maxRecDepth 100000 in
theorem laws_FnExactWrongTurn.calls (k : Nat) (a0_0 : Int) (a0_1 : Int) (A0_2 : Option Addr) (c0_2 : Nat) (l0_2 : List Int) (A0_3 : Option Addr) (c0_3 : Nat) (l0_3 : List (S108)) (A1 : Option Addr) (c1 : Nat) (l1 : List Int) (r : Bool) (w : World) (hr0_2 : Kd.C (Kd.int .i64) w A0_2 l0_2.length l0_2) (hc0_2 : l0_2.length ≤ c0_2) (hr0_3 : Kd.C k108 w A0_3 l0_3.length l0_3) (hc0_3 : l0_3.length ≤ c0_3) (hr1 : Kd.C (Kd.int .i64) w A1 l1.length l1) (hc1 : l1.length ≤ c1) (h : laws_FnExactWrongTurn.f k a0_0 a0_1 l0_2 l0_3 l1 = some r) :
  Calls Try.prog 9 #[.agg #[.int .i64 a0_0, .int .i64 a0_1, .slice A0_2 l0_2.length c0_2, .slice A0_3 l0_3.length c0_3], .slice A1 l1.length c1] w fun e w' => e = .returned (.bool r) ∧ Below w.heap.size w w' := by
 have hu25 := Try.underlying25
 have hu30 := Try.underlying30
 have HR0_2 := Aside0.mk hr0_2
 have HC0_2 := Aside0.mk hc0_2
 clear hr0_2 hc0_2
 have HR0_3 := Aside0.mk hr0_3
 have HC0_3 := Aside0.mk hc0_3
 clear hr0_3 hc0_3
 have HR1 := Aside0.mk hr1
 have HC1 := Aside0.mk hc1
 clear hr1 hc1
 have HB := Aside0.mk (Below.refl w.heap.size w)
 have H : (if (l1.length : Int) > 1048576 then (some true) else ((laws_szGrammar.f a0_0 a0_1 l0_2 l0_3 1048576).bind fun t326 => (if t326 < 0 then (some true) else ((laws_toGrammar.f k a0_0 a0_1 l0_2 l0_3).bind fun bt327 => ((laws_toInt64S.f k l1).bind fun t335 => ((spec_WrongTurn.f k bt327.1 bt327.2.1 bt327.2.2.1 bt327.2.2.2 t335).bind fun bt338 => ((laws_toGrammar.f k a0_0 a0_1 l0_2 l0_3).bind fun bt343 => ((laws_toInt64S.f k l1).bind fun t352 => ((impl_WrongTurn.f k bt343.1 bt343.2.1 bt343.2.2.1 bt343.2.2.2 t352).bind fun bt355 => (if bt355.1 = bt338.1 then ((laws_eqInt64S.f k bt355.2.1 bt338.2.1).bind fun t360 => (if t360 = true then (laws_FnExactWrongTurn.j0 k l1 bt338.1 bt338.2.1 bt338.2.2 t352 bt355.1 bt355.2.1 bt355.2.2 (bt355.2.2 != bt338.2.2) a0_0 a0_1 l0_2 l0_3 bt343.1 bt343.2.1 bt343.2.2.1 bt343.2.2.2) else (laws_FnExactWrongTurn.j0 k l1 bt338.1 bt338.2.1 bt338.2.2 t352 bt355.1 bt355.2.1 bt355.2.2 true a0_0 a0_1 l0_2 l0_3 bt343.1 bt343.2.1 bt343.2.2.1 bt343.2.2.2))) else (laws_FnExactWrongTurn.j0 k l1 bt338.1 bt338.2.1 bt338.2.2 t352 bt355.1 bt355.2.1 bt355.2.2 true a0_0 a0_1 l0_2 l0_3 bt343.1 bt343.2.1 bt343.2.2.1 bt343.2.2.2))))))))))) = some r := h
 clear h
 by_cases c3 : (l1.length : Int) > 1048576
 ·rw [if_pos c3] at H
  have c3b0 : decide (1048576 < (l1.length : Int)) = true := decide_eq_true c3
  have c3b1 : decide (1048576 < l1.length) = true := decide_eq_true (by omega)
  clear c3
  obtain rfl := Option.some.inj H
  go_enter Try.func9, Try.ntmps9
  go_wp2_with (first | ((with_reducible refine gate_dst (N := 2) rfl ?_); refine bE ?hg (N := 2) ?hd (cs := #[.int .i64 a0_0, .int .i64 a0_1, .slice A0_2 l0_2.length c0_2, .slice A0_3 l0_3.length c0_3]) (t := 25) ?hr ?_; (case hd => rfl); (case hg => rfl); (case hr => first | (go_simp; done) | (go_simp; rfl)); intro gb325 hg w4 hbox hb; have n0_ := Aside0.mk (bP (by repeat (first | (with_reducible first | exact HB.out | apply bA | apply bN | apply bD) | exact HB.out)) hb); have n1_ := Aside0.mk (hbox); have n2_ := Aside0.mk ((by rw [hg]; exact (bZ (by repeat (first | (with_reducible first | exact HB.out | apply bA | apply bN | apply bD) | exact HB.out))) : w.heap.size ≤ gb325)); have n3_ := Aside0.mk ((by rw [hg]; exact (bZ (by repeat (first | (with_reducible first | exact HB.out | apply bA | apply bN | apply bD) | exact HB.out))) : w.heap.size ≤ gb325)); clear HB; have HB := n0_; have BK325 := n1_; have GW325 := n2_; have GE325 := n3_; clear n0_ n1_ n2_ n3_; clear hb hbox hg))
  go_ret
  exact ⟨by first | rfl | (simp [errW_none, errW_some] <;> rfl) | (simp [*, errW_none, errW_some] <;> rfl), by repeat (first | (with_reducible first | exact HB.out | apply bA | apply bN | apply bD | refine bS ?_ GE325.out) | exact HB.out)⟩
 ·rw [if_neg c3] at H
  have c3b0 : decide (1048576 < (l1.length : Int)) = false := decide_eq_false c3
  have c3b1 : decide (1048576 < l1.length) = false := decide_eq_false (by omega)
  clear c3
  replace H := Option.bind_eq_some_iff.mp H
  obtain ⟨t326, A50, H⟩ := H
  replace H : (if t326 < 0 then (some true) else ((laws_toGrammar.f k a0_0 a0_1 l0_2 l0_3).bind fun bt327 => ((laws_toInt64S.f k l1).bind fun t335 => ((spec_WrongTurn.f k bt327.1 bt327.2.1 bt327.2.2.1 bt327.2.2.2 t335).bind fun bt338 => ((laws_toGrammar.f k a0_0 a0_1 l0_2 l0_3).bind fun bt343 => ((laws_toInt64S.f k l1).bind fun t352 => ((impl_WrongTurn.f k bt343.1 bt343.2.1 bt343.2.2.1 bt343.2.2.2 t352).bind fun bt355 => (if bt355.1 = bt338.1 then ((laws_eqInt64S.f k bt355.2.1 bt338.2.1).bind fun t360 => (if t360 = true then (laws_FnExactWrongTurn.j0 k l1 bt338.1 bt338.2.1 bt338.2.2 t352 bt355.1 bt355.2.1 bt355.2.2 (bt355.2.2 != bt338.2.2) a0_0 a0_1 l0_2 l0_3 bt343.1 bt343.2.1 bt343.2.2.1 bt343.2.2.2) else (laws_FnExactWrongTurn.j0 k l1 bt338.1 bt338.2.1 bt338.2.2 t352 bt355.1 bt355.2.1 bt355.2.2 true a0_0 a0_1 l0_2 l0_3 bt343.1 bt343.2.1 bt343.2.2.1 bt343.2.2.2))) else (laws_FnExactWrongTurn.j0 k l1 bt338.1 bt338.2.1 bt338.2.2 t352 bt355.1 bt355.2.1 bt355.2.2 true a0_0 a0_1 l0_2 l0_3 bt343.1 bt343.2.1 bt343.2.2.1 bt343.2.2.2))))))))) = some r := H
  have A5 := Aside0.mk A50
  clear A50
  by_cases c6 : t326 < 0
  ·rw [if_pos c6] at H
   have c6b0 : decide (t326 < 0) = true := decide_eq_true c6
   clear c6
   obtain rfl := Option.some.inj H
   go_enter Try.func9, Try.ntmps9
   go_wp2_with (first | ((with_reducible refine gate_dst (N := 2) rfl ?_); refine bE ?hg (N := 2) ?hd (cs := #[.int .i64 a0_0, .int .i64 a0_1, .slice A0_2 l0_2.length c0_2, .slice A0_3 l0_3.length c0_3]) (t := 25) ?hr ?_; (case hd => rfl); (case hg => rfl); (case hr => first | (go_simp; done) | (go_simp; rfl)); intro gb325 hg w7 hbox hb; have n0_ := Aside0.mk (bP (by repeat (first | (with_reducible first | exact HB.out | apply bA | apply bN | apply bD) | exact HB.out)) hb); have n1_ := Aside0.mk (hbox); have n2_ := Aside0.mk ((by rw [hg]; exact (bZ (by repeat (first | (with_reducible first | exact HB.out | apply bA | apply bN | apply bD) | exact HB.out))) : w.heap.size ≤ gb325)); have n3_ := Aside0.mk ((by rw [hg]; exact (bZ (by repeat (first | (with_reducible first | exact HB.out | apply bA | apply bN | apply bD) | exact HB.out))) : w.heap.size ≤ gb325)); clear HB; have HB := n0_; have BK325 := n1_; have GW325 := n2_; have GE325 := n3_; clear n0_ n1_ n2_ n3_; clear hb hbox hg; have hcz8_0 : w7.cell? ⟨gb325, 0, none⟩ = some (.int .i64 a0_0) := (kC BK325.out 0).trans rfl; have hcz8_1 : w7.cell? ⟨gb325, 1, none⟩ = some (.int .i64 a0_1) := (kC BK325.out 1).trans rfl; have hcz8_2 : w7.cell? ⟨gb325, 2, none⟩ = some (.slice A0_2 l0_2.length c0_2) := (kC BK325.out 2).trans rfl; have hcz8_3 : w7.cell? ⟨gb325, 3, none⟩ = some (.slice A0_3 l0_3.length c0_3) := (kC BK325.out 3).trans rfl; have hfz8_0 := blk_frozen BK325.out 0; have hfz8_1 := blk_frozen BK325.out 1; have hfz8_2 := blk_frozen BK325.out 2; have hfz8_3 := blk_frozen BK325.out 3) | ((with_reducible refine gC (f := 15) rfl ?_); refine goesL_ (some 25) rfl rfl Try.func15 (by kernel_rfl) rfl #[.agg #[.int .i64 a0_0, .int .i64 a0_1, .slice A0_2 l0_2.length c0_2, .slice A0_3 l0_3.length c0_3], .int .i64 1048576] rfl (by (try simp only [List.map_toArray, List.map_cons, List.map_nil]); first | done | rfl | (simp only [List.length_drop, List.length_take]; rfl)) ?_; (with_reducible refine (laws_szGrammar.calls a0_0 a0_1 _ _ l0_2 _ _ l0_3 1048576 t326 _ ?side1 ?side2 ?side3 ?side4 A5.out).mono ?_); (case side1 => repeat (first | exact (cB HR0_2.out HB.out) | (with_reducible refine cA ?_ _) | (with_reducible refine cN ?_ _) | (with_reducible refine cD ?_))); (case side2 => exact HC0_2.out); (case side3 => repeat (first | exact (cB HR0_3.out HB.out) | (with_reducible refine cA ?_ _) | (with_reducible refine cN ?_ _) | (with_reducible refine cD ?_))); (case side4 => exact HC0_3.out); rintro e w9 ⟨rfl, hb⟩; refine ⟨_, rfl, ?_⟩; have n0_ := Aside0.mk (kB (g := gb325) (o := .cells #[.int .i64 a0_0, .int .i64 a0_1, .slice A0_2 l0_2.length c0_2, .slice A0_3 l0_3.length c0_3] 25 (0, 0)) (by (with_reducible repeat (first | refine kN ?_ _ | refine kD ?_ | refine kA ?_ _)); exact BK325.out) hb); have n1_ := Aside0.mk (bP (by repeat (first | (with_reducible first | exact HB.out | apply bA | apply bN | apply bD | refine bS ?_ GE325.out) | exact HB.out)) hb); clear BK325; clear HB; have BK325 := n0_; have HB := n1_; clear n0_ n1_; (try clear hb); (try clear hb2); (try clear hk); (try clear hi)))
   go_ret
   exact ⟨by first | rfl | (simp [errW_none, errW_some] <;> rfl) | (simp [*, errW_none, errW_some] <;> rfl), by repeat (first | (with_reducible first | exact HB.out | apply bA | apply bN | apply bD | refine bS ?_ GE325.out) | exact HB.out)⟩
  ·rw [if_neg c6] at H
   have c6b0 : decide (t326 < 0) = false := decide_eq_false c6
   clear c6
   replace H := Option.bind_eq_some_iff.mp H
   obtain ⟨⟨t327, t328, t329, t332⟩, A100, H⟩ := H
   replace H : ((laws_toInt64S.f k l1).bind fun t335 => ((spec_WrongTurn.f k t327 t328 t329 t332 t335).bind fun bt338 => ((laws_toGrammar.f k a0_0 a0_1 l0_2 l0_3).bind fun bt343 => ((laws_toInt64S.f k l1).bind fun t352 => ((impl_WrongTurn.f k bt343.1 bt343.2.1 bt343.2.2.1 bt343.2.2.2 t352).bind fun bt355 => (if bt355.1 = bt338.1 then ((laws_eqInt64S.f k bt355.2.1 bt338.2.1).bind fun t360 => (if t360 = true then (laws_FnExactWrongTurn.j0 k l1 bt338.1 bt338.2.1 bt338.2.2 t352 bt355.1 bt355.2.1 bt355.2.2 (bt355.2.2 != bt338.2.2) a0_0 a0_1 l0_2 l0_3 bt343.1 bt343.2.1 bt343.2.2.1 bt343.2.2.2) else (laws_FnExactWrongTurn.j0 k l1 bt338.1 bt338.2.1 bt338.2.2 t352 bt355.1 bt355.2.1 bt355.2.2 true a0_0 a0_1 l0_2 l0_3 bt343.1 bt343.2.1 bt343.2.2.1 bt343.2.2.2))) else (laws_FnExactWrongTurn.j0 k l1 bt338.1 bt338.2.1 bt338.2.2 t352 bt355.1 bt355.2.1 bt355.2.2 true a0_0 a0_1 l0_2 l0_3 bt343.1 bt343.2.1 bt343.2.2.1 bt343.2.2.2))))))) = some r := H
   have A10 := Aside0.mk A100
   clear A100
   replace H := Option.bind_eq_some_iff.mp H
   obtain ⟨t335, A110, H⟩ := H
   replace H : ((spec_WrongTurn.f k t327 t328 t329 t332 t335).bind fun bt338 => ((laws_toGrammar.f k a0_0 a0_1 l0_2 l0_3).bind fun bt343 => ((laws_toInt64S.f k l1).bind fun t352 => ((impl_WrongTurn.f k bt343.1 bt343.2.1 bt343.2.2.1 bt343.2.2.2 t352).bind fun bt355 => (if bt355.1 = bt338.1 then ((laws_eqInt64S.f k bt355.2.1 bt338.2.1).bind fun t360 => (if t360 = true then (laws_FnExactWrongTurn.j0 k l1 bt338.1 bt338.2.1 bt338.2.2 t352 bt355.1 bt355.2.1 bt355.2.2 (bt355.2.2 != bt338.2.2) a0_0 a0_1 l0_2 l0_3 bt343.1 bt343.2.1 bt343.2.2.1 bt343.2.2.2) else (laws_FnExactWrongTurn.j0 k l1 bt338.1 bt338.2.1 bt338.2.2 t352 bt355.1 bt355.2.1 bt355.2.2 true a0_0 a0_1 l0_2 l0_3 bt343.1 bt343.2.1 bt343.2.2.1 bt343.2.2.2))) else (laws_FnExactWrongTurn.j0 k l1 bt338.1 bt338.2.1 bt338.2.2 t352 bt355.1 bt355.2.1 bt355.2.2 true a0_0 a0_1 l0_2 l0_3 bt343.1 bt343.2.1 bt343.2.2.1 bt343.2.2.2)))))) = some r := H
   have A11 := Aside0.mk A110
   clear A110
   replace H := Option.bind_eq_some_iff.mp H
   obtain ⟨⟨t338, t339, t342⟩, A120, H⟩ := H
   replace H : ((laws_toGrammar.f k a0_0 a0_1 l0_2 l0_3).bind fun bt343 => ((laws_toInt64S.f k l1).bind fun t352 => ((impl_WrongTurn.f k bt343.1 bt343.2.1 bt343.2.2.1 bt343.2.2.2 t352).bind fun bt355 => (if bt355.1 = t338 then ((laws_eqInt64S.f k bt355.2.1 t339).bind fun t360 => (if t360 = true then (laws_FnExactWrongTurn.j0 k l1 t338 t339 t342 t352 bt355.1 bt355.2.1 bt355.2.2 (bt355.2.2 != t342) a0_0 a0_1 l0_2 l0_3 bt343.1 bt343.2.1 bt343.2.2.1 bt343.2.2.2) else (laws_FnExactWrongTurn.j0 k l1 t338 t339 t342 t352 bt355.1 bt355.2.1 bt355.2.2 true a0_0 a0_1 l0_2 l0_3 bt343.1 bt343.2.1 bt343.2.2.1 bt343.2.2.2))) else (laws_FnExactWrongTurn.j0 k l1 t338 t339 t342 t352 bt355.1 bt355.2.1 bt355.2.2 true a0_0 a0_1 l0_2 l0_3 bt343.1 bt343.2.1 bt343.2.2.1 bt343.2.2.2))))) = some r := H
   have A12 := Aside0.mk A120
   clear A120
   replace H := Option.bind_eq_some_iff.mp H
   obtain ⟨⟨t343, t344, t345, t348⟩, A130, H⟩ := H
   replace H : ((laws_toInt64S.f k l1).bind fun t352 => ((impl_WrongTurn.f k t343 t344 t345 t348 t352).bind fun bt355 => (if bt355.1 = t338 then ((laws_eqInt64S.f k bt355.2.1 t339).bind fun t360 => (if t360 = true then (laws_FnExactWrongTurn.j0 k l1 t338 t339 t342 t352 bt355.1 bt355.2.1 bt355.2.2 (bt355.2.2 != t342) a0_0 a0_1 l0_2 l0_3 t343 t344 t345 t348) else (laws_FnExactWrongTurn.j0 k l1 t338 t339 t342 t352 bt355.1 bt355.2.1 bt355.2.2 true a0_0 a0_1 l0_2 l0_3 t343 t344 t345 t348))) else (laws_FnExactWrongTurn.j0 k l1 t338 t339 t342 t352 bt355.1 bt355.2.1 bt355.2.2 true a0_0 a0_1 l0_2 l0_3 t343 t344 t345 t348)))) = some r := H
   have A13 := Aside0.mk A130
   clear A130
   replace H := Option.bind_eq_some_iff.mp H
   obtain ⟨t352, A140, H⟩ := H
   replace H : ((impl_WrongTurn.f k t343 t344 t345 t348 t352).bind fun bt355 => (if bt355.1 = t338 then ((laws_eqInt64S.f k bt355.2.1 t339).bind fun t360 => (if t360 = true then (laws_FnExactWrongTurn.j0 k l1 t338 t339 t342 t352 bt355.1 bt355.2.1 bt355.2.2 (bt355.2.2 != t342) a0_0 a0_1 l0_2 l0_3 t343 t344 t345 t348) else (laws_FnExactWrongTurn.j0 k l1 t338 t339 t342 t352 bt355.1 bt355.2.1 bt355.2.2 true a0_0 a0_1 l0_2 l0_3 t343 t344 t345 t348))) else (laws_FnExactWrongTurn.j0 k l1 t338 t339 t342 t352 bt355.1 bt355.2.1 bt355.2.2 true a0_0 a0_1 l0_2 l0_3 t343 t344 t345 t348))) = some r := H
   have A14 := Aside0.mk A140
   clear A140
   replace H := Option.bind_eq_some_iff.mp H
   obtain ⟨⟨t355, t356, t359⟩, A150, H⟩ := H
   replace H : (if t355 = t338 then ((laws_eqInt64S.f k t356 t339).bind fun t360 => (if t360 = true then (laws_FnExactWrongTurn.j0 k l1 t338 t339 t342 t352 t355 t356 t359 (t359 != t342) a0_0 a0_1 l0_2 l0_3 t343 t344 t345 t348) else (laws_FnExactWrongTurn.j0 k l1 t338 t339 t342 t352 t355 t356 t359 true a0_0 a0_1 l0_2 l0_3 t343 t344 t345 t348))) else (laws_FnExactWrongTurn.j0 k l1 t338 t339 t342 t352 t355 t356 t359 true a0_0 a0_1 l0_2 l0_3 t343 t344 t345 t348)) = some r := H
   have A15 := Aside0.mk A150
   clear A150
   have HC16 := Aside0.mk H
   clear H
   go_enter Try.func9, Try.ntmps9
   go_upto_region 11 with (first | ((with_reducible refine gate_dst (N := 2) rfl ?_); refine bE ?hg (N := 2) ?hd (cs := #[.int .i64 a0_0, .int .i64 a0_1, .slice A0_2 l0_2.length c0_2, .slice A0_3 l0_3.length c0_3]) (t := 25) ?hr ?_; (case hd => rfl); (case hg => rfl); (case hr => first | (go_simp; done) | (go_simp; rfl)); intro gb325 hg w17 hbox hb; have n0_ := Aside0.mk (bP (by repeat (first | (with_reducible first | exact HB.out | apply bA | apply bN | apply bD) | exact HB.out)) hb); have n1_ := Aside0.mk (hbox); have n2_ := Aside0.mk ((by rw [hg]; exact (bZ (by repeat (first | (with_reducible first | exact HB.out | apply bA | apply bN | apply bD) | exact HB.out))) : w.heap.size ≤ gb325)); have n3_ := Aside0.mk ((by rw [hg]; exact (bZ (by repeat (first | (with_reducible first | exact HB.out | apply bA | apply bN | apply bD) | exact HB.out))) : w.heap.size ≤ gb325)); clear HB; have HB := n0_; have BK325 := n1_; have GW325 := n2_; have GE325 := n3_; clear n0_ n1_ n2_ n3_; clear hb hbox hg; have hcz18_0 : w17.cell? ⟨gb325, 0, none⟩ = some (.int .i64 a0_0) := (kC BK325.out 0).trans rfl; have hcz18_1 : w17.cell? ⟨gb325, 1, none⟩ = some (.int .i64 a0_1) := (kC BK325.out 1).trans rfl; have hcz18_2 : w17.cell? ⟨gb325, 2, none⟩ = some (.slice A0_2 l0_2.length c0_2) := (kC BK325.out 2).trans rfl; have hcz18_3 : w17.cell? ⟨gb325, 3, none⟩ = some (.slice A0_3 l0_3.length c0_3) := (kC BK325.out 3).trans rfl; have hfz18_0 := blk_frozen BK325.out 0; have hfz18_1 := blk_frozen BK325.out 1; have hfz18_2 := blk_frozen BK325.out 2; have hfz18_3 := blk_frozen BK325.out 3) | ((with_reducible refine gC (f := 15) rfl ?_); refine goesL_ (some 25) rfl rfl Try.func15 (by kernel_rfl) rfl #[.agg #[.int .i64 a0_0, .int .i64 a0_1, .slice A0_2 l0_2.length c0_2, .slice A0_3 l0_3.length c0_3], .int .i64 1048576] rfl (by (try simp only [List.map_toArray, List.map_cons, List.map_nil]); first | done | rfl | (simp only [List.length_drop, List.length_take]; rfl)) ?_; (with_reducible refine (laws_szGrammar.calls a0_0 a0_1 _ _ l0_2 _ _ l0_3 1048576 t326 _ ?side1 ?side2 ?side3 ?side4 A5.out).mono ?_); (case side1 => repeat (first | exact (cB HR0_2.out HB.out) | (with_reducible refine cA ?_ _) | (with_reducible refine cN ?_ _) | (with_reducible refine cD ?_))); (case side2 => exact HC0_2.out); (case side3 => repeat (first | exact (cB HR0_3.out HB.out) | (with_reducible refine cA ?_ _) | (with_reducible refine cN ?_ _) | (with_reducible refine cD ?_))); (case side4 => exact HC0_3.out); rintro e w19 ⟨rfl, hb⟩; refine ⟨_, rfl, ?_⟩; have n0_ := Aside0.mk (kB (g := gb325) (o := .cells #[.int .i64 a0_0, .int .i64 a0_1, .slice A0_2 l0_2.length c0_2, .slice A0_3 l0_3.length c0_3] 25 (0, 0)) (by (with_reducible repeat (first | refine kN ?_ _ | refine kD ?_ | refine kA ?_ _)); exact BK325.out) hb); have n1_ := Aside0.mk (bP (by repeat (first | (with_reducible first | exact HB.out | apply bA | apply bN | apply bD | refine bS ?_ GE325.out) | exact HB.out)) hb); clear BK325; clear HB; have BK325 := n0_; have HB := n1_; clear n0_ n1_; (try clear hb); (try clear hb2); (try clear hk); (try clear hi); have hcz20_0 : w19.cell? ⟨gb325, 0, none⟩ = some (.int .i64 a0_0) := (kC BK325.out 0).trans rfl; have hcz20_1 : w19.cell? ⟨gb325, 1, none⟩ = some (.int .i64 a0_1) := (kC BK325.out 1).trans rfl; have hcz20_2 : w19.cell? ⟨gb325, 2, none⟩ = some (.slice A0_2 l0_2.length c0_2) := (kC BK325.out 2).trans rfl; have hcz20_3 : w19.cell? ⟨gb325, 3, none⟩ = some (.slice A0_3 l0_3.length c0_3) := (kC BK325.out 3).trans rfl; have hfz20_0 := blk_frozen BK325.out 0; have hfz20_1 := blk_frozen BK325.out 1; have hfz20_2 := blk_frozen BK325.out 2; have hfz20_3 := blk_frozen BK325.out 3) | ((with_reducible refine gC (f := 17) rfl ?_); refine goesL_ (some 30) rfl rfl Try.func17 (by kernel_rfl) rfl #[.agg #[.int .i64 a0_0, .int .i64 a0_1, .slice A0_2 l0_2.length c0_2, .slice A0_3 l0_3.length c0_3]] rfl (by (try simp only [List.map_toArray, List.map_cons, List.map_nil]); first | done | rfl | (simp only [List.length_drop, List.length_take]; rfl)) ?_; (with_reducible refine (laws_toGrammar.calls k a0_0 a0_1 _ _ l0_2 _ _ l0_3 t327 t328 t329 t332 _ ?side1 ?side2 ?side3 ?side4 A10.out).mono ?_); (case side1 => repeat (first | exact (cB HR0_2.out HB.out) | (with_reducible refine cA ?_ _) | (with_reducible refine cN ?_ _) | (with_reducible refine cD ?_))); (case side2 => exact HC0_2.out); (case side3 => repeat (first | exact (cB HR0_3.out HB.out) | (with_reducible refine cA ?_ _) | (with_reducible refine cN ?_ _) | (with_reducible refine cD ?_))); (case side4 => exact HC0_3.out); rintro e w21 ⟨v330, v333, rfl, ho0, ho1, hb⟩; refine ⟨_, rfl, ?_⟩; have n0_ := Aside0.mk (rL ho0 (bZ (by repeat (first | (with_reducible first | exact HB.out | apply bA | apply bN | apply bD | refine bS ?_ GE325.out) | exact HB.out)))); have n1_ := Aside0.mk (rL ho1 (bZ (by repeat (first | (with_reducible first | exact HB.out | apply bA | apply bN | apply bD | refine bS ?_ GE325.out) | exact HB.out)))); have n2_ := Aside0.mk (kB (g := gb325) (o := .cells #[.int .i64 a0_0, .int .i64 a0_1, .slice A0_2 l0_2.length c0_2, .slice A0_3 l0_3.length c0_3] 25 (0, 0)) (by (with_reducible repeat (first | refine kN ?_ _ | refine kD ?_ | refine kA ?_ _)); exact BK325.out) hb); have n3_ := Aside0.mk (bP (by repeat (first | (with_reducible first | exact HB.out | apply bA | apply bN | apply bD | refine bS ?_ GE325.out) | exact HB.out)) hb); clear BK325; clear HB; have HO331 := n0_; have HO334 := n1_; have BK325 := n2_; have HB := n3_; clear n0_ n1_ n2_ n3_; (try clear hb); (try clear hb2); (try clear hk); (try clear hi); (try clear ho0); (try clear ho1)) | ((with_reducible refine gC (f := 25) rfl ?_); refine goesL_ (some 32) rfl rfl Try.func25 (by kernel_rfl) rfl #[.slice A1 l1.length c1] rfl (by (try simp only [List.map_toArray, List.map_cons, List.map_nil]); first | done | rfl | (simp only [List.length_drop, List.length_take]; rfl)) ?_; (with_reducible refine (laws_toInt64S.calls k _ _ l1 t335 _ ?side1 ?side2 A11.out).mono ?_); (case side1 => repeat (first | exact (cB HR1.out HB.out) | (with_reducible refine cA ?_ _) | (with_reducible refine cN ?_ _) | (with_reducible refine cD ?_))); (case side2 => exact HC1.out); rintro e w22 ⟨v336, rfl, ho0, hb⟩; refine ⟨_, rfl, ?_⟩; have n0_ := Aside0.mk (rE (by (with_reducible repeat (first | apply rA | apply rN | apply rD)); exact HO331.out) (Kd.R_base ho0) hb); have n1_ := Aside0.mk (rB (by (with_reducible repeat (first | apply rA | apply rN | apply rD)); exact HO334.out) hb); have n2_ := Aside0.mk (rL (rW ho0 (rT (by (with_reducible repeat (first | apply rA | apply rN | apply rD)); exact HO331.out))) (bZ (by repeat (first | (with_reducible first | exact HB.out | apply bA | apply bN | apply bD | refine bS ?_ GE325.out) | exact HB.out)))); have n3_ := Aside0.mk (kB (g := gb325) (o := .cells #[.int .i64 a0_0, .int .i64 a0_1, .slice A0_2 l0_2.length c0_2, .slice A0_3 l0_3.length c0_3] 25 (0, 0)) (by (with_reducible repeat (first | refine kN ?_ _ | refine kD ?_ | refine kA ?_ _)); exact BK325.out) hb); have n4_ := Aside0.mk (bP (by repeat (first | (with_reducible first | exact HB.out | apply bA | apply bN | apply bD | refine bS ?_ GE325.out) | exact HB.out)) hb); clear HO331; clear HO334; clear BK325; clear HB; have HO331 := n0_; have HO334 := n1_; have HO337 := n2_; have BK325 := n3_; have HB := n4_; clear n0_ n1_ n2_ n3_ n4_; (try clear hb); (try clear hb2); (try clear hk); (try clear hi); (try clear ho0); obtain ⟨Ao23, co23, eo23⟩ := Kd.R_slice HO331.out; subst eo23; obtain ⟨Ao24, co24, eo24⟩ := Kd.R_slice HO334.out; subst eo24; obtain ⟨Ao25, co25, eo25⟩ := Kd.R_slice HO337.out; subst eo25) | ((with_reducible refine gC (f := 35) rfl ?_); refine goesL_ (some 33) rfl rfl Try.func35 (by kernel_rfl) rfl #[.agg #[.int .i64 t327, .int .i64 t328, .slice Ao23 t329.length co23, .slice Ao24 t332.length co24], .slice Ao25 t335.length co25] rfl (by (try simp only [List.map_toArray, List.map_cons, List.map_nil]); first | done | rfl | (simp only [List.length_drop, List.length_take]; rfl)) ?_; (with_reducible refine (spec_WrongTurn.calls k t327 t328 _ _ t329 _ _ t332 _ _ t335 t338 t339 t342 _ ?side1 ?side2 ?side3 ?side4 ?side5 ?side6 A12.out).mono ?_); (case side1 => repeat (first | exact (Kd.R_reads' HO331.out).2.2 | (with_reducible refine cA ?_ _) | (with_reducible refine cN ?_ _) | (with_reducible refine cD ?_))); (case side2 => exact (Kd.R_reads' HO331.out).2.1); (case side3 => repeat (first | exact (Kd.R_reads' HO334.out).2.2 | (with_reducible refine cA ?_ _) | (with_reducible refine cN ?_ _) | (with_reducible refine cD ?_))); (case side4 => exact (Kd.R_reads' HO334.out).2.1); (case side5 => repeat (first | exact (Kd.R_reads' HO337.out).2.2 | (with_reducible refine cA ?_ _) | (with_reducible refine cN ?_ _) | (with_reducible refine cD ?_))); (case side6 => exact (Kd.R_reads' HO337.out).2.1); rintro e w26 ⟨v340, rfl, ho0, hb⟩; refine ⟨_, rfl, ?_⟩; have n0_ := Aside0.mk (rE (by (with_reducible repeat (first | apply rA | apply rN | apply rD)); exact HO331.out) (Kd.R_base ho0) hb); have n1_ := Aside0.mk (rB (by (with_reducible repeat (first | apply rA | apply rN | apply rD)); exact HO334.out) hb); have n2_ := Aside0.mk (rE (by (with_reducible repeat (first | apply rA | apply rN | apply rD)); exact HO337.out) (Kd.R_base ho0) hb); have n3_ := Aside0.mk (rL (rW (rW ho0 (rT (by (with_reducible repeat (first | apply rA | apply rN | apply rD)); exact HO331.out))) (rT (by (with_reducible repeat (first | apply rA | apply rN | apply rD)); exact HO337.out))) (bZ (by repeat (first | (with_reducible first | exact HB.out | apply bA | apply bN | apply bD | refine bS ?_ GE325.out) | exact HB.out)))); have n4_ := Aside0.mk (kB (g := gb325) (o := .cells #[.int .i64 a0_0, .int .i64 a0_1, .slice A0_2 l0_2.length c0_2, .slice A0_3 l0_3.length c0_3] 25 (0, 0)) (by (with_reducible repeat (first | refine kN ?_ _ | refine kD ?_ | refine kA ?_ _)); exact BK325.out) hb); have n5_ := Aside0.mk (bP (by repeat (first | (with_reducible first | exact HB.out | apply bA | apply bN | apply bD | refine bS ?_ GE325.out) | exact HB.out)) hb); clear HO331; clear HO334; clear HO337; clear BK325; clear HB; have HO331 := n0_; have HO334 := n1_; have HO337 := n2_; have HO341 := n3_; have BK325 := n4_; have HB := n5_; clear n0_ n1_ n2_ n3_ n4_ n5_; (try clear hb); (try clear hb2); (try clear hk); (try clear hi); (try clear ho0); have hcz27_0 : w26.cell? ⟨gb325, 0, none⟩ = some (.int .i64 a0_0) := (kC BK325.out 0).trans rfl; have hcz27_1 : w26.cell? ⟨gb325, 1, none⟩ = some (.int .i64 a0_1) := (kC BK325.out 1).trans rfl; have hcz27_2 : w26.cell? ⟨gb325, 2, none⟩ = some (.slice A0_2 l0_2.length c0_2) := (kC BK325.out 2).trans rfl; have hcz27_3 : w26.cell? ⟨gb325, 3, none⟩ = some (.slice A0_3 l0_3.length c0_3) := (kC BK325.out 3).trans rfl; have hfz27_0 := blk_frozen BK325.out 0; have hfz27_1 := blk_frozen BK325.out 1; have hfz27_2 := blk_frozen BK325.out 2; have hfz27_3 := blk_frozen BK325.out 3) | ((with_reducible refine gC (f := 17) rfl ?_); refine goesL_ (some 38) rfl rfl Try.func17 (by kernel_rfl) rfl #[.agg #[.int .i64 a0_0, .int .i64 a0_1, .slice A0_2 l0_2.length c0_2, .slice A0_3 l0_3.length c0_3]] rfl (by (try simp only [List.map_toArray, List.map_cons, List.map_nil]); first | done | rfl | (simp only [List.length_drop, List.length_take]; rfl)) ?_; (with_reducible refine (laws_toGrammar.calls k a0_0 a0_1 _ _ l0_2 _ _ l0_3 t343 t344 t345 t348 _ ?side1 ?side2 ?side3 ?side4 A13.out).mono ?_); (case side1 => repeat (first | exact (cB HR0_2.out HB.out) | (with_reducible refine cA ?_ _) | (with_reducible refine cN ?_ _) | (with_reducible refine cD ?_))); (case side2 => exact HC0_2.out); (case side3 => repeat (first | exact (cB HR0_3.out HB.out) | (with_reducible refine cA ?_ _) | (with_reducible refine cN ?_ _) | (with_reducible refine cD ?_))); (case side4 => exact HC0_3.out); rintro e w28 ⟨v346, v349, rfl, ho0, ho1, hb⟩; refine ⟨_, rfl, ?_⟩; have n0_ := Aside0.mk (rE (by (with_reducible repeat (first | apply rA | apply rN | apply rD)); exact HO331.out) (Kd.R_base ho0) hb); have n1_ := Aside0.mk (rE (by (with_reducible repeat (first | apply rA | apply rN | apply rD)); exact HO334.out) (Kd.R_base ho1) hb); have n2_ := Aside0.mk (rE (by (with_reducible repeat (first | apply rA | apply rN | apply rD)); exact HO337.out) (Kd.R_base ho0) hb); have n3_ := Aside0.mk (rE (by (with_reducible repeat (first | apply rA | apply rN | apply rD)); exact HO341.out) (Kd.R_base ho0) hb); have n4_ := Aside0.mk (rL (rW (rW (rW ho0 (rT (by (with_reducible repeat (first | apply rA | apply rN | apply rD)); exact HO331.out))) (rT (by (with_reducible repeat (first | apply rA | apply rN | apply rD)); exact HO337.out))) (rT (by (with_reducible repeat (first | apply rA | apply rN | apply rD)); exact HO341.out))) (bZ (by repeat (first | (with_reducible first | exact HB.out | apply bA | apply bN | apply bD | refine bS ?_ GE325.out) | exact HB.out)))); have n5_ := Aside0.mk (rL (rW ho1 (rT (by (with_reducible repeat (first | apply rA | apply rN | apply rD)); exact HO334.out))) (bZ (by repeat (first | (with_reducible first | exact HB.out | apply bA | apply bN | apply bD | refine bS ?_ GE325.out) | exact HB.out)))); have n6_ := Aside0.mk (kB (g := gb325) (o := .cells #[.int .i64 a0_0, .int .i64 a0_1, .slice A0_2 l0_2.length c0_2, .slice A0_3 l0_3.length c0_3] 25 (0, 0)) (by (with_reducible repeat (first | refine kN ?_ _ | refine kD ?_ | refine kA ?_ _)); exact BK325.out) hb); have n7_ := Aside0.mk (bP (by repeat (first | (with_reducible first | exact HB.out | apply bA | apply bN | apply bD | refine bS ?_ GE325.out) | exact HB.out)) hb); clear HO331; clear HO334; clear HO337; clear HO341; clear BK325; clear HB; have HO331 := n0_; have HO334 := n1_; have HO337 := n2_; have HO341 := n3_; have HO347 := n4_; have HO350 := n5_; have BK325 := n6_; have HB := n7_; clear n0_ n1_ n2_ n3_ n4_ n5_ n6_ n7_; (try clear hb); (try clear hb2); (try clear hk); (try clear hi); (try clear ho0); (try clear ho1)) | ((with_reducible refine gate_dst (N := 9) rfl ?_); refine bE ?hg (N := 9) ?hd (cs := #[.int .i64 0, .int .i64 0, .slice none 0 0, .slice none 0 0]) (t := 30) ?hr ?_; (case hd => rfl); (case hg => rfl); (case hr => first | (go_simp; done) | (go_simp; rfl)); intro gb351 hg w29 hbox hb; have n0_ := Aside0.mk (rB (by (with_reducible repeat (first | apply rA | apply rN | apply rD)); exact HO331.out) hb); have n1_ := Aside0.mk (rB (by (with_reducible repeat (first | apply rA | apply rN | apply rD)); exact HO334.out) hb); have n2_ := Aside0.mk (rB (by (with_reducible repeat (first | apply rA | apply rN | apply rD)); exact HO337.out) hb); have n3_ := Aside0.mk (rB (by (with_reducible repeat (first | apply rA | apply rN | apply rD)); exact HO341.out) hb); have n4_ := Aside0.mk (rB (by (with_reducible repeat (first | apply rA | apply rN | apply rD)); exact HO347.out) hb); have n5_ := Aside0.mk (rB (by (with_reducible repeat (first | apply rA | apply rN | apply rD)); exact HO350.out) hb); have n6_ := Aside0.mk (kB (g := gb325) (o := .cells #[.int .i64 a0_0, .int .i64 a0_1, .slice A0_2 l0_2.length c0_2, .slice A0_3 l0_3.length c0_3] 25 (0, 0)) (by (with_reducible repeat (first | refine kN ?_ _ | refine kD ?_ | refine kA ?_ _)); exact BK325.out) hb); have n7_ := Aside0.mk (bP (by repeat (first | (with_reducible first | exact HB.out | apply bA | apply bN | apply bD | refine bS ?_ GE325.out) | exact HB.out)) hb); have n8_ := Aside0.mk (hbox); have n9_ := Aside0.mk ((by rw [hg]; exact (bZ (by repeat (first | (with_reducible first | exact HB.out | apply bA | apply bN | apply bD | refine bS ?_ GE325.out) | exact HB.out))) : w.heap.size ≤ gb351)); have n10_ := Aside0.mk ((by rw [hg]; exact (bZ (by repeat (first | (with_reducible first | exact HB.out | apply bA | apply bN | apply bD | refine bS ?_ GE325.out) | exact HB.out))) : w.heap.size ≤ gb351)); have n11_ := Aside0.mk ((by rw [hg]; exact Nat.ne_of_lt (kL (g := gb325) (o := .cells #[.int .i64 a0_0, .int .i64 a0_1, .slice A0_2 l0_2.length c0_2, .slice A0_3 l0_3.length c0_3] 25 (0, 0)) (by (with_reducible repeat (first | refine kN ?_ _ | refine kD ?_ | refine kA ?_ _)); exact BK325.out)) : gb325 ≠ gb351)); have n12_ := Aside0.mk ((by rw [hg]; exact Nat.ne_of_gt (kL (g := gb325) (o := .cells #[.int .i64 a0_0, .int .i64 a0_1, .slice A0_2 l0_2.length c0_2, .slice A0_3 l0_3.length c0_3] 25 (0, 0)) (by (with_reducible repeat (first | refine kN ?_ _ | refine kD ?_ | refine kA ?_ _)); exact BK325.out)) : gb351 ≠ gb325)); clear HO331; clear HO334; clear HO337; clear HO341; clear HO347; clear HO350; clear BK325; clear HB; have HO331 := n0_; have HO334 := n1_; have HO337 := n2_; have HO341 := n3_; have HO347 := n4_; have HO350 := n5_; have BK325 := n6_; have HB := n7_; have BK351 := n8_; have GW351 := n9_; have GE351 := n10_; have NB325_351 := n11_; have NB351_325 := n12_; clear n0_ n1_ n2_ n3_ n4_ n5_ n6_ n7_ n8_ n9_ n10_ n11_ n12_; clear hb hbox hg; have hnb30 := NB351_325.out; have hnc30 := NB325_351.out; have hcz31_0 : w29.cell? ⟨gb351, 0, none⟩ = some (.int .i64 0) := (kC BK351.out 0).trans rfl; have hcz31_1 : w29.cell? ⟨gb351, 1, none⟩ = some (.int .i64 0) := (kC BK351.out 1).trans rfl; have hcz31_2 : w29.cell? ⟨gb351, 2, none⟩ = some (.slice none 0 0) := (kC BK351.out 2).trans rfl; have hcz31_3 : w29.cell? ⟨gb351, 3, none⟩ = some (.slice none 0 0) := (kC BK351.out 3).trans rfl; have hfz31_0 := blk_frozen BK351.out 0; have hfz31_1 := blk_frozen BK351.out 1; have hfz31_2 := blk_frozen BK351.out 2; have hfz31_3 := blk_frozen BK351.out 3; obtain ⟨Ao32, co32, eo32⟩ := Kd.R_slice HO347.out; subst eo32; obtain ⟨Ao33, co33, eo33⟩ := Kd.R_slice HO350.out; subst eo33) | ((with_reducible refine gC (f := 25) rfl ?_); refine goesL_ (some 40) rfl rfl Try.func25 (by kernel_rfl) rfl #[.slice A1 l1.length c1] rfl (by (try simp only [List.map_toArray, List.map_cons, List.map_nil]); first | done | rfl | (simp only [List.length_drop, List.length_take]; rfl)) ?_; (with_reducible refine (laws_toInt64S.calls k _ _ l1 t352 _ ?side1 ?side2 A14.out).mono ?_); (case side1 => exact cB HR1.out (by repeat (first | (with_reducible first | exact HB.out | apply bA | apply bN | apply bD | refine bS ?_ GE325.out | refine bS ?_ GE351.out) | exact HB.out))); (case side2 => exact HC1.out); rintro e w34 ⟨v353, rfl, ho0, hb⟩; refine ⟨_, rfl, ?_⟩; have n0_ := Aside0.mk (rE (by (with_reducible repeat (first | apply rA | apply rN | apply rD)); exact (rM (Kd.R_far (p := ⟨gb351, 3, none⟩) (Kd.R_far (p := ⟨gb351, 2, none⟩) (Kd.R_far (p := ⟨gb351, 1, none⟩) (Kd.R_far (p := ⟨gb351, 0, none⟩) (Kd.R_types HO331.out BK351.out (by decide)) (fun _ hk => hk.2) (.int .i64 t343)) (fun _ hk => hk.2) (.int .i64 t344)) (fun _ hk => hk.2) (.slice Ao32 t345.length co32)) (fun _ hk => hk.2) (.slice Ao33 t348.length co33)) (fun _ h_ => h_.1))) (Kd.R_base ho0) hb); have n1_ := Aside0.mk (rB (by (with_reducible repeat (first | apply rA | apply rN | apply rD)); exact (rM (Kd.R_far (p := ⟨gb351, 3, none⟩) (Kd.R_far (p := ⟨gb351, 2, none⟩) (Kd.R_far (p := ⟨gb351, 1, none⟩) (Kd.R_far (p := ⟨gb351, 0, none⟩) (Kd.R_types HO334.out BK351.out (by decide)) (fun _ hk => hk.2) (.int .i64 t343)) (fun _ hk => hk.2) (.int .i64 t344)) (fun _ hk => hk.2) (.slice Ao32 t345.length co32)) (fun _ hk => hk.2) (.slice Ao33 t348.length co33)) (fun _ h_ => h_.1))) hb); have n2_ := Aside0.mk (rE (by (with_reducible repeat (first | apply rA | apply rN | apply rD)); exact (rM (Kd.R_far (p := ⟨gb351, 3, none⟩) (Kd.R_far (p := ⟨gb351, 2, none⟩) (Kd.R_far (p := ⟨gb351, 1, none⟩) (Kd.R_far (p := ⟨gb351, 0, none⟩) (Kd.R_types HO337.out BK351.out (by decide)) (fun _ hk => hk.2) (.int .i64 t343)) (fun _ hk => hk.2) (.int .i64 t344)) (fun _ hk => hk.2) (.slice Ao32 t345.length co32)) (fun _ hk => hk.2) (.slice Ao33 t348.length co33)) (fun _ h_ => h_.1))) (Kd.R_base ho0) hb); have n3_ := Aside0.mk (rE (by (with_reducible repeat (first | apply rA | apply rN | apply rD)); exact (rM (Kd.R_far (p := ⟨gb351, 3, none⟩) (Kd.R_far (p := ⟨gb351, 2, none⟩) (Kd.R_far (p := ⟨gb351, 1, none⟩) (Kd.R_far (p := ⟨gb351, 0, none⟩) (Kd.R_types HO341.out BK351.out (by decide)) (fun _ hk => hk.2) (.int .i64 t343)) (fun _ hk => hk.2) (.int .i64 t344)) (fun _ hk => hk.2) (.slice Ao32 t345.length co32)) (fun _ hk => hk.2) (.slice Ao33 t348.length co33)) (fun _ h_ => h_.1))) (Kd.R_base ho0) hb); have n4_ := Aside0.mk (rE (by (with_reducible repeat (first | apply rA | apply rN | apply rD)); exact (rM (Kd.R_far (p := ⟨gb351, 3, none⟩) (Kd.R_far (p := ⟨gb351, 2, none⟩) (Kd.R_far (p := ⟨gb351, 1, none⟩) (Kd.R_far (p := ⟨gb351, 0, none⟩) (Kd.R_types HO347.out BK351.out (by decide)) (fun _ hk => hk.2) (.int .i64 t343)) (fun _ hk => hk.2) (.int .i64 t344)) (fun _ hk => hk.2) (.slice Ao32 t345.length co32)) (fun _ hk => hk.2) (.slice Ao33 t348.length co33)) (fun _ h_ => h_.1))) (Kd.R_base ho0) hb); have n5_ := Aside0.mk (rB (by (with_reducible repeat (first | apply rA | apply rN | apply rD)); exact (rM (Kd.R_far (p := ⟨gb351, 3, none⟩) (Kd.R_far (p := ⟨gb351, 2, none⟩) (Kd.R_far (p := ⟨gb351, 1, none⟩) (Kd.R_far (p := ⟨gb351, 0, none⟩) (Kd.R_types HO350.out BK351.out (by decide)) (fun _ hk => hk.2) (.int .i64 t343)) (fun _ hk => hk.2) (.int .i64 t344)) (fun _ hk => hk.2) (.slice Ao32 t345.length co32)) (fun _ hk => hk.2) (.slice Ao33 t348.length co33)) (fun _ h_ => h_.1))) hb); have n6_ := Aside0.mk (rL (rW (rW (rW (rW ho0 (rT (by (with_reducible repeat (first | apply rA | apply rN | apply rD)); exact (rM (Kd.R_far (p := ⟨gb351, 3, none⟩) (Kd.R_far (p := ⟨gb351, 2, none⟩) (Kd.R_far (p := ⟨gb351, 1, none⟩) (Kd.R_far (p := ⟨gb351, 0, none⟩) (Kd.R_types HO331.out BK351.out (by decide)) (fun _ hk => hk.2) (.int .i64 t343)) (fun _ hk => hk.2) (.int .i64 t344)) (fun _ hk => hk.2) (.slice Ao32 t345.length co32)) (fun _ hk => hk.2) (.slice Ao33 t348.length co33)) (fun _ h_ => h_.1))))) (rT (by (with_reducible repeat (first | apply rA | apply rN | apply rD)); exact (rM (Kd.R_far (p := ⟨gb351, 3, none⟩) (Kd.R_far (p := ⟨gb351, 2, none⟩) (Kd.R_far (p := ⟨gb351, 1, none⟩) (Kd.R_far (p := ⟨gb351, 0, none⟩) (Kd.R_types HO337.out BK351.out (by decide)) (fun _ hk => hk.2) (.int .i64 t343)) (fun _ hk => hk.2) (.int .i64 t344)) (fun _ hk => hk.2) (.slice Ao32 t345.length co32)) (fun _ hk => hk.2) (.slice Ao33 t348.length co33)) (fun _ h_ => h_.1))))) (rT (by (with_reducible repeat (first | apply rA | apply rN | apply rD)); exact (rM (Kd.R_far (p := ⟨gb351, 3, none⟩) (Kd.R_far (p := ⟨gb351, 2, none⟩) (Kd.R_far (p := ⟨gb351, 1, none⟩) (Kd.R_far (p := ⟨gb351, 0, none⟩) (Kd.R_types HO341.out BK351.out (by decide)) (fun _ hk => hk.2) (.int .i64 t343)) (fun _ hk => hk.2) (.int .i64 t344)) (fun _ hk => hk.2) (.slice Ao32 t345.length co32)) (fun _ hk => hk.2) (.slice Ao33 t348.length co33)) (fun _ h_ => h_.1))))) (rT (by (with_reducible repeat (first | apply rA | apply rN | apply rD)); exact (rM (Kd.R_far (p := ⟨gb351, 3, none⟩) (Kd.R_far (p := ⟨gb351, 2, none⟩) (Kd.R_far (p := ⟨gb351, 1, none⟩) (Kd.R_far (p := ⟨gb351, 0, none⟩) (Kd.R_types HO347.out BK351.out (by decide)) (fun _ hk => hk.2) (.int .i64 t343)) (fun _ hk => hk.2) (.int .i64 t344)) (fun _ hk => hk.2) (.slice Ao32 t345.length co32)) (fun _ hk => hk.2) (.slice Ao33 t348.length co33)) (fun _ h_ => h_.1))))) (bZ (by repeat (first | (with_reducible first | exact HB.out | apply bA | apply bN | apply bD | refine bS ?_ GE325.out | refine bS ?_ GE351.out) | exact HB.out)))); have n7_ := Aside0.mk (kB (g := gb325) (o := .cells #[.int .i64 a0_0, .int .i64 a0_1, .slice A0_2 l0_2.length c0_2, .slice A0_3 l0_3.length c0_3] 25 (0, 0)) (by (with_reducible repeat (first | refine kN ?_ _ | refine kD ?_ | refine kA ?_ _)); refine kF ?_ NB325_351.out _; (with_reducible repeat (first | refine kN ?_ _ | refine kD ?_ | refine kA ?_ _)); refine kF ?_ NB325_351.out _; (with_reducible repeat (first | refine kN ?_ _ | refine kD ?_ | refine kA ?_ _)); refine kF ?_ NB325_351.out _; (with_reducible repeat (first | refine kN ?_ _ | refine kD ?_ | refine kA ?_ _)); refine kF ?_ NB325_351.out _; (with_reducible repeat (first | refine kN ?_ _ | refine kD ?_ | refine kA ?_ _)); exact BK325.out) hb); have n8_ := Aside0.mk (kB (g := gb351) (o := .cells #[.int .i64 t343, .int .i64 t344, .slice Ao32 t345.length co32, .slice Ao33 t348.length co33] 30 (0, 0)) (by (with_reducible repeat (first | refine kN ?_ _ | refine kD ?_ | refine kA ?_ _)); refine blk_put (cs := #[.int .i64 t343, .int .i64 t344, .slice Ao32 t345.length co32, .slice none 0 0]) ?_ 3 _ rfl; (with_reducible repeat (first | refine kN ?_ _ | refine kD ?_ | refine kA ?_ _)); refine blk_put (cs := #[.int .i64 t343, .int .i64 t344, .slice none 0 0, .slice none 0 0]) ?_ 2 _ rfl; (with_reducible repeat (first | refine kN ?_ _ | refine kD ?_ | refine kA ?_ _)); refine blk_put (cs := #[.int .i64 t343, .int .i64 0, .slice none 0 0, .slice none 0 0]) ?_ 1 _ rfl; (with_reducible repeat (first | refine kN ?_ _ | refine kD ?_ | refine kA ?_ _)); refine blk_put (cs := #[.int .i64 0, .int .i64 0, .slice none 0 0, .slice none 0 0]) ?_ 0 _ rfl; (with_reducible repeat (first | refine kN ?_ _ | refine kD ?_ | refine kA ?_ _)); exact BK351.out) hb); have n9_ := Aside0.mk (bP (by repeat (first | (with_reducible first | exact HB.out | apply bA | apply bN | apply bD | refine bS ?_ GE325.out | refine bS ?_ GE351.out) | exact HB.out)) hb); clear HO331; clear HO334; clear HO337; clear HO341; clear HO347; clear HO350; clear BK325; clear BK351; clear HB; have HO331 := n0_; have HO334 := n1_; have HO337 := n2_; have HO341 := n3_; have HO347 := n4_; have HO350 := n5_; have HO354 := n6_; have BK325 := n7_; have BK351 := n8_; have HB := n9_; clear n0_ n1_ n2_ n3_ n4_ n5_ n6_ n7_ n8_ n9_; (try clear hb); (try clear hb2); (try clear hk); (try clear hi); (try clear ho0); have hcz35_0 : w34.cell? ⟨gb351, 0, none⟩ = some (.int .i64 t343) := (kC BK351.out 0).trans rfl; have hcz35_1 : w34.cell? ⟨gb351, 1, none⟩ = some (.int .i64 t344) := (kC BK351.out 1).trans rfl; have hcz35_2 : w34.cell? ⟨gb351, 2, none⟩ = some (.slice Ao32 t345.length co32) := (kC BK351.out 2).trans rfl; have hcz35_3 : w34.cell? ⟨gb351, 3, none⟩ = some (.slice Ao33 t348.length co33) := (kC BK351.out 3).trans rfl; have hfz35_0 := blk_frozen BK351.out 0; have hfz35_1 := blk_frozen BK351.out 1; have hfz35_2 := blk_frozen BK351.out 2; have hfz35_3 := blk_frozen BK351.out 3; obtain ⟨Ao36, co36, eo36⟩ := Kd.R_slice HO354.out; subst eo36) | ((with_reducible refine gC (f := 36) rfl ?_); refine goesL_ (some 44) rfl rfl Try.func36 (by kernel_rfl) rfl #[.agg #[.int .i64 t343, .int .i64 t344, .slice Ao32 t345.length co32, .slice Ao33 t348.length co33], .slice Ao36 t352.length co36] rfl (by (try simp only [List.map_toArray, List.map_cons, List.map_nil]); first | done | rfl | (simp only [List.length_drop, List.length_take]; rfl)) ?_; (with_reducible refine (impl_WrongTurn.calls k t343 t344 _ _ t345 _ _ t348 _ _ t352 t355 t356 t359 _ ?side1 ?side2 ?side3 ?side4 ?side5 ?side6 A15.out).mono ?_); (case side1 => repeat (first | exact (Kd.R_reads' HO347.out).2.2 | (with_reducible refine cA ?_ _) | (with_reducible refine cN ?_ _) | (with_reducible refine cD ?_))); (case side2 => exact (Kd.R_reads' HO347.out).2.1); (case side3 => repeat (first | exact (Kd.R_reads' HO350.out).2.2 | (with_reducible refine cA ?_ _) | (with_reducible refine cN ?_ _) | (with_reducible refine cD ?_))); (case side4 => exact (Kd.R_reads' HO350.out).2.1); (case side5 => repeat (first | exact (Kd.R_reads' HO354.out).2.2 | (with_reducible refine cA ?_ _) | (with_reducible refine cN ?_ _) | (with_reducible refine cD ?_))); (case side6 => exact (Kd.R_reads' HO354.out).2.1); rintro e w37 ⟨v357, rfl, ho0, hb⟩; refine ⟨_, rfl, ?_⟩; have n0_ := Aside0.mk (rE (by (with_reducible repeat (first | apply rA | apply rN | apply rD)); exact HO331.out) (Kd.R_base ho0) hb); have n1_ := Aside0.mk (rB (by (with_reducible repeat (first | apply rA | apply rN | apply rD)); exact HO334.out) hb); have n2_ := Aside0.mk (rE (by (with_reducible repeat (first | apply rA | apply rN | apply rD)); exact HO337.out) (Kd.R_base ho0) hb); have n3_ := Aside0.mk (rE (by (with_reducible repeat (first | apply rA | apply rN | apply rD)); exact HO341.out) (Kd.R_base ho0) hb); have n4_ := Aside0.mk (rE (by (with_reducible repeat (first | apply rA | apply rN | apply rD)); exact HO347.out) (Kd.R_base ho0) hb); have n5_ := Aside0.mk (rB (by (with_reducible repeat (first | apply rA | apply rN | apply rD)); exact HO350.out) hb); have n6_ := Aside0.mk (rE (by (with_reducible repeat (first | apply rA | apply rN | apply rD)); exact HO354.out) (Kd.R_base ho0) hb); have n7_ := Aside0.mk (rL (rW (rW (rW (rW (rW ho0 (rT (by (with_reducible repeat (first | apply rA | apply rN | apply rD)); exact HO331.out))) (rT (by (with_reducible repeat (first | apply rA | apply rN | apply rD)); exact HO337.out))) (rT (by (with_reducible repeat (first | apply rA | apply rN | apply rD)); exact HO341.out))) (rT (by (with_reducible repeat (first | apply rA | apply rN | apply rD)); exact HO347.out))) (rT (by (with_reducible repeat (first | apply rA | apply rN | apply rD)); exact HO354.out))) (bZ (by repeat (first | (with_reducible first | exact HB.out | apply bA | apply bN | apply bD | refine bS ?_ GE325.out | refine bS ?_ GE351.out) | exact HB.out)))); have n8_ := Aside0.mk (kB (g := gb325) (o := .cells #[.int .i64 a0_0, .int .i64 a0_1, .slice A0_2 l0_2.length c0_2, .slice A0_3 l0_3.length c0_3] 25 (0, 0)) (by (with_reducible repeat (first | refine kN ?_ _ | refine kD ?_ | refine kA ?_ _)); exact BK325.out) hb); have n9_ := Aside0.mk (kB (g := gb351) (o := .cells #[.int .i64 t343, .int .i64 t344, .slice Ao32 t345.length co32, .slice Ao33 t348.length co33] 30 (0, 0)) (by (with_reducible repeat (first | refine kN ?_ _ | refine kD ?_ | refine kA ?_ _)); exact BK351.out) hb); have n10_ := Aside0.mk (bP (by repeat (first | (with_reducible first | exact HB.out | apply bA | apply bN | apply bD | refine bS ?_ GE325.out | refine bS ?_ GE351.out) | exact HB.out)) hb); clear HO331; clear HO334; clear HO337; clear HO341; clear HO347; clear HO350; clear HO354; clear BK325; clear BK351; clear HB; have HO331 := n0_; have HO334 := n1_; have HO337 := n2_; have HO341 := n3_; have HO347 := n4_; have HO350 := n5_; have HO354 := n6_; have HO358 := n7_; have BK325 := n8_; have BK351 := n9_; have HB := n10_; clear n0_ n1_ n2_ n3_ n4_ n5_ n6_ n7_ n8_ n9_ n10_; (try clear hb); (try clear hb2); (try clear hk); (try clear hi); (try clear ho0)))
   (try simp only [Act.put, sI, sZ, sS])
   go_cut [61] (fun v61 wc => ∃ (kq : Nat) (x61_15 : Bool), v61 = .bool x61_15 ∧ Aside0 (laws_FnExactWrongTurn.j0 kq l1 t338 t339 t342 t352 t355 t356 t359 x61_15 a0_0 a0_1 l0_2 l0_3 t343 t344 t345 t348 = some r) ∧ Aside0 (kq ≤ k) ∧ Aside0 (Kd.R (Kd.int .i64) 2 wc w.heap.size (fun k_ => some k_ ≠ ((.slice Ao36 t352.length co36) : Value).ownBlock ∧ some k_ ≠ (v357 : Value).ownBlock ∧ some k_ ≠ ((.slice Ao32 t345.length co32) : Value).ownBlock) v340 t339) ∧ Aside0 (Kd.R (Kd.int .i64) 2 wc w.heap.size (fun k_ => some k_ ≠ (v340 : Value).ownBlock ∧ some k_ ≠ (v357 : Value).ownBlock ∧ some k_ ≠ ((.slice Ao32 t345.length co32) : Value).ownBlock) (.slice Ao36 t352.length co36) t352) ∧ Aside0 (Kd.R (Kd.int .i64) 2 wc w.heap.size (fun k_ => some k_ ≠ (v340 : Value).ownBlock ∧ some k_ ≠ ((.slice Ao36 t352.length co36) : Value).ownBlock ∧ some k_ ≠ ((.slice Ao32 t345.length co32) : Value).ownBlock) v357 t356) ∧ Aside0 (Kd.R (Kd.int .i64) 2 wc w.heap.size (fun k_ => some k_ ≠ (v340 : Value).ownBlock ∧ some k_ ≠ ((.slice Ao36 t352.length co36) : Value).ownBlock ∧ some k_ ≠ (v357 : Value).ownBlock) (.slice Ao32 t345.length co32) t345) ∧ Aside0 (Kd.R k67 67 wc w.heap.size (fun _ => True) (.slice Ao33 t348.length co33) t348) ∧ Aside0 (wc.heap[gb325]? = some (.cells #[.int .i64 a0_0, .int .i64 a0_1, (.slice A0_2 l0_2.length c0_2), (.slice A0_3 l0_3.length c0_3)] 25 (0, 0))) ∧ Aside0 (wc.heap[gb351]? = some (.cells #[.int .i64 t343, .int .i64 t344, (.slice Ao32 t345.length co32), (.slice Ao33 t348.length co33)] 30 (0, 0))) ∧ Aside0 (Below w.heap.size w wc))
   case first =>
    have H := HC16.out
    clear HC16
    by_cases c38 : t355 = t338
    ·rw [if_pos c38] at H
     have c38b0 : (t355 == t338) = true := beq_iff_eq.mpr c38
     have c38b1 : (t355 != t338) = false := bne_eq_false_iff_eq.mpr c38
     clear c38
     (first | rw [c38b0] | (simp only [iW, jW]; rw [c38b0]) | skip)
     replace H := Option.bind_eq_some_iff.mp H
     obtain ⟨t360, A390, H⟩ := H
     replace H : (if t360 = true then (laws_FnExactWrongTurn.j0 k l1 t338 t339 t342 t352 t355 t356 t359 (t359 != t342) a0_0 a0_1 l0_2 l0_3 t343 t344 t345 t348) else (laws_FnExactWrongTurn.j0 k l1 t338 t339 t342 t352 t355 t356 t359 true a0_0 a0_1 l0_2 l0_3 t343 t344 t345 t348)) = some r := H
     have A39 := Aside0.mk A390
     clear A390
     by_cases c40 : t360 = true
     ·subst c40
      have H1 : (laws_FnExactWrongTurn.j0 k l1 t338 t339 t342 t352 t355 t356 t359 (t359 != t342) a0_0 a0_1 l0_2 l0_3 t343 t344 t345 t348) = some r := by rw [if_pos rfl] at H; exact H
      clear H
      have H := H1
      clear H1
      have H' := Aside0.mk H
      clear H
      obtain ⟨Ao41, co41, eo41⟩ := Kd.R_slice HO358.out
      subst eo41
      obtain ⟨Ao42, co42, eo42⟩ := Kd.R_slice HO341.out
      subst eo42
      go_wp2_with (first | (go_at_call 27; (with_reducible refine (laws_eqInt64S.calls k _ _ t356 _ _ t339 true _ ?side1 ?side2 ?side3 ?side4 A39.out).mono ?_); (case side1 => repeat (first | exact (Kd.R_reads' HO358.out).2.2 | (with_reducible refine cA ?_ _) | (with_reducible refine cN ?_ _) | (with_reducible refine cD ?_))); (case side2 => exact (Kd.R_reads' HO358.out).2.1); (case side3 => repeat (first | exact (Kd.R_reads' HO341.out).2.2 | (with_reducible refine cA ?_ _) | (with_reducible refine cN ?_ _) | (with_reducible refine cD ?_))); (case side4 => exact (Kd.R_reads' HO341.out).2.1); rintro e w' ⟨rfl, ⟨nd, rfl⟩⟩))
      go_meet
      case rel => exact ⟨_, ((t359 != t342)), (by first | rfl | (simp; done) | (simp [*]; done)), H', ⟨by first | omega | exact Nat.le_refl _⟩, ⟨by (with_reducible repeat (first | apply rA | apply rN | apply rD)); exact rM HO341.out (fun _ hk => ⟨hk.1.2, ⟨hk.2, hk.1.1.2⟩⟩)⟩, ⟨by (with_reducible repeat (first | apply rA | apply rN | apply rD)); exact rM HO354.out (fun _ hk => ⟨hk.1.1.2, ⟨hk.2, hk.1.2⟩⟩)⟩, ⟨by (with_reducible repeat (first | apply rA | apply rN | apply rD)); exact rM HO358.out (fun _ hk => ⟨hk.1.1.2, ⟨hk.2, hk.1.2⟩⟩)⟩, ⟨by (with_reducible repeat (first | apply rA | apply rN | apply rD)); exact rM HO347.out (fun _ hk => ⟨hk.1.1.2, ⟨hk.1.2, hk.2⟩⟩)⟩, ⟨by (with_reducible repeat (first | apply rA | apply rN | apply rD)); exact rM HO350.out (fun _ hk => trivial)⟩, ⟨by (with_reducible repeat (first | refine kN ?_ _ | refine kD ?_ | refine kA ?_ _)); exact BK325.out⟩, ⟨by (with_reducible repeat (first | refine kN ?_ _ | refine kD ?_ | refine kA ?_ _)); exact BK351.out⟩, ⟨by repeat (first | (with_reducible first | exact HB.out | apply bA | apply bN | apply bD | refine bS ?_ GE325.out | refine bS ?_ GE351.out) | exact HB.out)⟩⟩
     ·replace c40 := Bool.eq_false_iff.mpr c40
      subst c40
      have H1 : (laws_FnExactWrongTurn.j0 k l1 t338 t339 t342 t352 t355 t356 t359 true a0_0 a0_1 l0_2 l0_3 t343 t344 t345 t348) = some r := by rw [if_neg (show ¬ (false = true) by decide)] at H; exact H
      clear H
      have H := H1
      clear H1
      have H' := Aside0.mk H
      clear H
      obtain ⟨Ao43, co43, eo43⟩ := Kd.R_slice HO358.out
      subst eo43
      obtain ⟨Ao44, co44, eo44⟩ := Kd.R_slice HO341.out
      subst eo44
      go_wp2_with (first | (go_at_call 27; (with_reducible refine (laws_eqInt64S.calls k _ _ t356 _ _ t339 false _ ?side1 ?side2 ?side3 ?side4 A39.out).mono ?_); (case side1 => repeat (first | exact (Kd.R_reads' HO358.out).2.2 | (with_reducible refine cA ?_ _) | (with_reducible refine cN ?_ _) | (with_reducible refine cD ?_))); (case side2 => exact (Kd.R_reads' HO358.out).2.1); (case side3 => repeat (first | exact (Kd.R_reads' HO341.out).2.2 | (with_reducible refine cA ?_ _) | (with_reducible refine cN ?_ _) | (with_reducible refine cD ?_))); (case side4 => exact (Kd.R_reads' HO341.out).2.1); rintro e w' ⟨rfl, ⟨nd, rfl⟩⟩))
      go_meet
      case rel => exact ⟨_, (true), (by first | rfl | (simp; done) | (simp [*]; done)), H', ⟨by first | omega | exact Nat.le_refl _⟩, ⟨by (with_reducible repeat (first | apply rA | apply rN | apply rD)); exact rM HO341.out (fun _ hk => ⟨hk.1.2, ⟨hk.2, hk.1.1.2⟩⟩)⟩, ⟨by (with_reducible repeat (first | apply rA | apply rN | apply rD)); exact rM HO354.out (fun _ hk => ⟨hk.1.1.2, ⟨hk.2, hk.1.2⟩⟩)⟩, ⟨by (with_reducible repeat (first | apply rA | apply rN | apply rD)); exact rM HO358.out (fun _ hk => ⟨hk.1.1.2, ⟨hk.2, hk.1.2⟩⟩)⟩, ⟨by (with_reducible repeat (first | apply rA | apply rN | apply rD)); exact rM HO347.out (fun _ hk => ⟨hk.1.1.2, ⟨hk.1.2, hk.2⟩⟩)⟩, ⟨by (with_reducible repeat (first | apply rA | apply rN | apply rD)); exact rM HO350.out (fun _ hk => trivial)⟩, ⟨by (with_reducible repeat (first | refine kN ?_ _ | refine kD ?_ | refine kA ?_ _)); exact BK325.out⟩, ⟨by (with_reducible repeat (first | refine kN ?_ _ | refine kD ?_ | refine kA ?_ _)); exact BK351.out⟩, ⟨by repeat (first | (with_reducible first | exact HB.out | apply bA | apply bN | apply bD | refine bS ?_ GE325.out | refine bS ?_ GE351.out) | exact HB.out)⟩⟩
    ·rw [if_neg c38] at H
     have c38b0 : (t355 == t338) = false := beq_eq_false_iff_ne.mpr c38
     have c38b1 : (t355 != t338) = true := bne_iff_ne.mpr c38
     (first | rw [c38b0] | (simp only [iW, jW]; rw [c38b0]) | skip)
     have H' := Aside0.mk H
     clear H
     go_wp2
     go_meet
     case rel => exact ⟨_, (true), (by first | rfl | (simp; done) | (simp [*]; done)), H', ⟨by first | omega | exact Nat.le_refl _⟩, ⟨by (with_reducible repeat (first | apply rA | apply rN | apply rD)); exact rM HO341.out (fun _ hk => ⟨hk.1.2, ⟨hk.2, hk.1.1.2⟩⟩)⟩, ⟨by (with_reducible repeat (first | apply rA | apply rN | apply rD)); exact rM HO354.out (fun _ hk => ⟨hk.1.1.2, ⟨hk.2, hk.1.2⟩⟩)⟩, ⟨by (with_reducible repeat (first | apply rA | apply rN | apply rD)); exact rM HO358.out (fun _ hk => ⟨hk.1.1.2, ⟨hk.2, hk.1.2⟩⟩)⟩, ⟨by (with_reducible repeat (first | apply rA | apply rN | apply rD)); exact rM HO347.out (fun _ hk => ⟨hk.1.1.2, ⟨hk.1.2, hk.2⟩⟩)⟩, ⟨by (with_reducible repeat (first | apply rA | apply rN | apply rD)); exact rM HO350.out (fun _ hk => trivial)⟩, ⟨by (with_reducible repeat (first | refine kN ?_ _ | refine kD ?_ | refine kA ?_ _)); exact BK325.out⟩, ⟨by (with_reducible repeat (first | refine kN ?_ _ | refine kD ?_ | refine kA ?_ _)); exact BK351.out⟩, ⟨by repeat (first | (with_reducible first | exact HB.out | apply bA | apply bN | apply bD | refine bS ?_ GE325.out | refine bS ?_ GE351.out) | exact HB.out)⟩⟩
   case rest =>
    clear HC16
    try clear c1
    try clear c2
    try clear p2
    try clear c3
    try clear c3b0
    try clear c3b1
    try clear c4
    try clear c6
    try clear c6b0
    try clear c9
    try clear c15
    try clear c17
    try clear c25
    try clear c30
    try clear c35
    try clear c36
    try clear c38
    try clear c38b0
    try clear c38b1
    try clear c40
    try clear hcz18_0
    try clear hcz18_1
    try clear hcz18_2
    try clear hcz18_3
    try clear hcz20_0
    try clear hcz20_1
    try clear hcz20_2
    try clear hcz20_3
    try clear hcz27_0
    try clear hcz27_1
    try clear hcz27_2
    try clear hcz27_3
    try clear hcz31_0
    try clear hcz31_1
    try clear hcz31_2
    try clear hcz31_3
    try clear hcz35_0
    try clear hcz35_1
    try clear hcz35_2
    try clear hcz35_3
    try clear hcz8_0
    try clear hcz8_1
    try clear hcz8_2
    try clear hcz8_3
    try clear hfz18_0
    try clear hfz18_1
    try clear hfz18_2
    try clear hfz18_3
    try clear hfz20_0
    try clear hfz20_1
    try clear hfz20_2
    try clear hfz20_3
    try clear hfz27_0
    try clear hfz27_1
    try clear hfz27_2
    try clear hfz27_3
    try clear hfz31_0
    try clear hfz31_1
    try clear hfz31_2
    try clear hfz31_3
    try clear hfz35_0
    try clear hfz35_1
    try clear hfz35_2
    try clear hfz35_3
    try clear hfz8_0
    try clear hfz8_1
    try clear hfz8_2
    try clear hfz8_3
    obtain ⟨kq, x61_15, rfl, HA, HJ15, HO_7, HO_10, HO_12, HO_352002, HO_352003, BK325, BK351, HB⟩ := hcut
    cases kq with
    | zero => exact absurd HA.out (by simp [laws_FnExactWrongTurn.j0])
    | succ kj15 =>
     have H := HA.out
     clear HA
     simp only [laws_FnExactWrongTurn.j0] at H
     by_cases c45 : x61_15 = true
     ·subst c45
      have H1 : (some false) = some r := by rw [if_pos rfl] at H; exact H
      clear H
      have H := H1
      clear H1
      obtain rfl := Option.some.inj H
      go_wp2
      go_ret
      exact ⟨by first | rfl | (simp [errW_none, errW_some] <;> rfl) | (simp [*, errW_none, errW_some] <;> rfl), by repeat (first | (with_reducible first | exact HB.out | apply bA | apply bN | apply bD | refine bS ?_ GE325.out | refine bS ?_ GE351.out) | exact HB.out)⟩
     ·replace c45 := Bool.eq_false_iff.mpr c45
      subst c45
      have H1 : ((laws_toGrammar.f kj15 a0_0 a0_1 l0_2 l0_3).bind fun bt361 => ((laws_eqGrammar.f kj15 t343 t344 t345 t348 bt361.1 bt361.2.1 bt361.2.2.1 bt361.2.2.2).bind fun t369 => (if t369 = true then ((laws_toInt64S.f kj15 l1).bind fun t370 => ((laws_eqInt64S.f kj15 t352 t370).bind fun t373 => (if t373 = true then ((laws_markGrammar.f kj15 t343 t344 t345 t348 1).bind fun bt374 => ((laws_markInt64S.f kj15 t352 bt374.1).bind fun bt377 => (if bt377.1 < 0 then (laws_FnExactWrongTurn.j1 kj15 l1 t338 t339 t342 t356 true a0_0 a0_1 l0_2 l0_3) else (if t355 = t338 then ((laws_eqInt64S.f kj15 t356 t339).bind fun t379 => (if t379 = true then (laws_FnExactWrongTurn.j1 kj15 l1 t338 t339 t342 t356 (t359 != t342) a0_0 a0_1 l0_2 l0_3) else (laws_FnExactWrongTurn.j1 kj15 l1 t338 t339 t342 t356 true a0_0 a0_1 l0_2 l0_3))) else (laws_FnExactWrongTurn.j1 kj15 l1 t338 t339 t342 t356 true a0_0 a0_1 l0_2 l0_3))))) else (some false)))) else (some false)))) = some r := by rw [if_neg (show ¬ (false = true) by decide)] at H; exact H
      clear H
      have H := H1
      clear H1
      replace H := Option.bind_eq_some_iff.mp H
      obtain ⟨⟨t361, t362, t363, t366⟩, A460, H⟩ := H
      replace H : ((laws_eqGrammar.f kj15 t343 t344 t345 t348 t361 t362 t363 t366).bind fun t369 => (if t369 = true then ((laws_toInt64S.f kj15 l1).bind fun t370 => ((laws_eqInt64S.f kj15 t352 t370).bind fun t373 => (if t373 = true then ((laws_markGrammar.f kj15 t343 t344 t345 t348 1).bind fun bt374 => ((laws_markInt64S.f kj15 t352 bt374.1).bind fun bt377 => (if bt377.1 < 0 then (laws_FnExactWrongTurn.j1 kj15 l1 t338 t339 t342 t356 true a0_0 a0_1 l0_2 l0_3) else (if t355 = t338 then ((laws_eqInt64S.f kj15 t356 t339).bind fun t379 => (if t379 = true then (laws_FnExactWrongTurn.j1 kj15 l1 t338 t339 t342 t356 (t359 != t342) a0_0 a0_1 l0_2 l0_3) else (laws_FnExactWrongTurn.j1 kj15 l1 t338 t339 t342 t356 true a0_0 a0_1 l0_2 l0_3))) else (laws_FnExactWrongTurn.j1 kj15 l1 t338 t339 t342 t356 true a0_0 a0_1 l0_2 l0_3))))) else (some false)))) else (some false))) = some r := H
      have A46 := Aside0.mk A460
      clear A460
      replace H := Option.bind_eq_some_iff.mp H
      obtain ⟨t369, A470, H⟩ := H
      replace H : (if t369 = true then ((laws_toInt64S.f kj15 l1).bind fun t370 => ((laws_eqInt64S.f kj15 t352 t370).bind fun t373 => (if t373 = true then ((laws_markGrammar.f kj15 t343 t344 t345 t348 1).bind fun bt374 => ((laws_markInt64S.f kj15 t352 bt374.1).bind fun bt377 => (if bt377.1 < 0 then (laws_FnExactWrongTurn.j1 kj15 l1 t338 t339 t342 t356 true a0_0 a0_1 l0_2 l0_3) else (if t355 = t338 then ((laws_eqInt64S.f kj15 t356 t339).bind fun t379 => (if t379 = true then (laws_FnExactWrongTurn.j1 kj15 l1 t338 t339 t342 t356 (t359 != t342) a0_0 a0_1 l0_2 l0_3) else (laws_FnExactWrongTurn.j1 kj15 l1 t338 t339 t342 t356 true a0_0 a0_1 l0_2 l0_3))) else (laws_FnExactWrongTurn.j1 kj15 l1 t338 t339 t342 t356 true a0_0 a0_1 l0_2 l0_3))))) else (some false)))) else (some false)) = some r := H
      have A47 := Aside0.mk A470
      clear A470
      by_cases c48 : t369 = true
      ·subst c48
       have H1 : ((laws_toInt64S.f kj15 l1).bind fun t370 => ((laws_eqInt64S.f kj15 t352 t370).bind fun t373 => (if t373 = true then ((laws_markGrammar.f kj15 t343 t344 t345 t348 1).bind fun bt374 => ((laws_markInt64S.f kj15 t352 bt374.1).bind fun bt377 => (if bt377.1 < 0 then (laws_FnExactWrongTurn.j1 kj15 l1 t338 t339 t342 t356 true a0_0 a0_1 l0_2 l0_3) else (if t355 = t338 then ((laws_eqInt64S.f kj15 t356 t339).bind fun t379 => (if t379 = true then (laws_FnExactWrongTurn.j1 kj15 l1 t338 t339 t342 t356 (t359 != t342) a0_0 a0_1 l0_2 l0_3) else (laws_FnExactWrongTurn.j1 kj15 l1 t338 t339 t342 t356 true a0_0 a0_1 l0_2 l0_3))) else (laws_FnExactWrongTurn.j1 kj15 l1 t338 t339 t342 t356 true a0_0 a0_1 l0_2 l0_3))))) else (some false)))) = some r := by rw [if_pos rfl] at H; exact H
       clear H
       have H := H1
       clear H1
       replace H := Option.bind_eq_some_iff.mp H
       obtain ⟨t370, A490, H⟩ := H
       replace H : ((laws_eqInt64S.f kj15 t352 t370).bind fun t373 => (if t373 = true then ((laws_markGrammar.f kj15 t343 t344 t345 t348 1).bind fun bt374 => ((laws_markInt64S.f kj15 t352 bt374.1).bind fun bt377 => (if bt377.1 < 0 then (laws_FnExactWrongTurn.j1 kj15 l1 t338 t339 t342 t356 true a0_0 a0_1 l0_2 l0_3) else (if t355 = t338 then ((laws_eqInt64S.f kj15 t356 t339).bind fun t379 => (if t379 = true then (laws_FnExactWrongTurn.j1 kj15 l1 t338 t339 t342 t356 (t359 != t342) a0_0 a0_1 l0_2 l0_3) else (laws_FnExactWrongTurn.j1 kj15 l1 t338 t339 t342 t356 true a0_0 a0_1 l0_2 l0_3))) else (laws_FnExactWrongTurn.j1 kj15 l1 t338 t339 t342 t356 true a0_0 a0_1 l0_2 l0_3))))) else (some false))) = some r := H
       have A49 := Aside0.mk A490
       clear A490
       replace H := Option.bind_eq_some_iff.mp H
       obtain ⟨t373, A500, H⟩ := H
       replace H : (if t373 = true then ((laws_markGrammar.f kj15 t343 t344 t345 t348 1).bind fun bt374 => ((laws_markInt64S.f kj15 t352 bt374.1).bind fun bt377 => (if bt377.1 < 0 then (laws_FnExactWrongTurn.j1 kj15 l1 t338 t339 t342 t356 true a0_0 a0_1 l0_2 l0_3) else (if t355 = t338 then ((laws_eqInt64S.f kj15 t356 t339).bind fun t379 => (if t379 = true then (laws_FnExactWrongTurn.j1 kj15 l1 t338 t339 t342 t356 (t359 != t342) a0_0 a0_1 l0_2 l0_3) else (laws_FnExactWrongTurn.j1 kj15 l1 t338 t339 t342 t356 true a0_0 a0_1 l0_2 l0_3))) else (laws_FnExactWrongTurn.j1 kj15 l1 t338 t339 t342 t356 true a0_0 a0_1 l0_2 l0_3))))) else (some false)) = some r := H
       have A50 := Aside0.mk A500
       clear A500
       by_cases c51 : t373 = true
       ·subst c51
        have H1 : ((laws_markGrammar.f kj15 t343 t344 t345 t348 1).bind fun bt374 => ((laws_markInt64S.f kj15 t352 bt374.1).bind fun bt377 => (if bt377.1 < 0 then (laws_FnExactWrongTurn.j1 kj15 l1 t338 t339 t342 t356 true a0_0 a0_1 l0_2 l0_3) else (if t355 = t338 then ((laws_eqInt64S.f kj15 t356 t339).bind fun t379 => (if t379 = true then (laws_FnExactWrongTurn.j1 kj15 l1 t338 t339 t342 t356 (t359 != t342) a0_0 a0_1 l0_2 l0_3) else (laws_FnExactWrongTurn.j1 kj15 l1 t338 t339 t342 t356 true a0_0 a0_1 l0_2 l0_3))) else (laws_FnExactWrongTurn.j1 kj15 l1 t338 t339 t342 t356 true a0_0 a0_1 l0_2 l0_3))))) = some r := by rw [if_pos rfl] at H; exact H
        clear H
        have H := H1
        clear H1
        replace H := Option.bind_eq_some_iff.mp H
        obtain ⟨⟨t374, t375, t376⟩, A520, H⟩ := H
        replace H : ((laws_markInt64S.f kj15 t352 t374).bind fun bt377 => (if bt377.1 < 0 then (laws_FnExactWrongTurn.j1 kj15 l1 t338 t339 t342 t356 true a0_0 a0_1 l0_2 l0_3) else (if t355 = t338 then ((laws_eqInt64S.f kj15 t356 t339).bind fun t379 => (if t379 = true then (laws_FnExactWrongTurn.j1 kj15 l1 t338 t339 t342 t356 (t359 != t342) a0_0 a0_1 l0_2 l0_3) else (laws_FnExactWrongTurn.j1 kj15 l1 t338 t339 t342 t356 true a0_0 a0_1 l0_2 l0_3))) else (laws_FnExactWrongTurn.j1 kj15 l1 t338 t339 t342 t356 true a0_0 a0_1 l0_2 l0_3)))) = some r := H
        have A52 := Aside0.mk A520
        clear A520
        replace H := Option.bind_eq_some_iff.mp H
        obtain ⟨⟨t377, t378⟩, A530, H⟩ := H
        replace H : (if t377 < 0 then (laws_FnExactWrongTurn.j1 kj15 l1 t338 t339 t342 t356 true a0_0 a0_1 l0_2 l0_3) else (if t355 = t338 then ((laws_eqInt64S.f kj15 t356 t339).bind fun t379 => (if t379 = true then (laws_FnExactWrongTurn.j1 kj15 l1 t338 t339 t342 t356 (t359 != t342) a0_0 a0_1 l0_2 l0_3) else (laws_FnExactWrongTurn.j1 kj15 l1 t338 t339 t342 t356 true a0_0 a0_1 l0_2 l0_3))) else (laws_FnExactWrongTurn.j1 kj15 l1 t338 t339 t342 t356 true a0_0 a0_1 l0_2 l0_3))) = some r := H
        have A53 := Aside0.mk A530
        clear A530
        have HC54 := Aside0.mk H
        clear H
        try go_wp2
        have n0_ := Aside0.mk (rD HO_7.out)
        have n1_ := Aside0.mk (rD HO_10.out)
        have n2_ := Aside0.mk (rD HO_12.out)
        have n3_ := Aside0.mk (rD HO_352002.out)
        have n4_ := Aside0.mk (rD HO_352003.out)
        have n5_ := Aside0.mk (kD BK325.out)
        have n6_ := Aside0.mk (kD BK351.out)
        have n7_ := Aside0.mk (bD HB.out)
        clear HO_7
        clear HO_10
        clear HO_12
        clear HO_352002
        clear HO_352003
        clear BK325
        clear BK351
        clear HB
        have HO_7 := n0_
        have HO_10 := n1_
        have HO_12 := n2_
        have HO_352002 := n3_
        have HO_352003 := n4_
        have BK325 := n5_
        have BK351 := n6_
        have HB := n7_
        clear n0_ n1_ n2_ n3_ n4_ n5_ n6_ n7_
        refine start_ (n := 5) (S := fun w' => w'.cell? ⟨gb351, 0, none⟩ = some (.int .i64 t343) ∧ w'.cell? ⟨gb351, 1, none⟩ = some (.int .i64 t344) ∧ w'.cell? ⟨gb351, 2, none⟩ = some (.slice Ao32 t345.length co32) ∧ w'.cell? ⟨gb351, 3, none⟩ = some (.slice Ao33 t348.length co33) ∧ w'.cell? ⟨gb325, 0, none⟩ = some (.int .i64 a0_0) ∧ w'.cell? ⟨gb325, 1, none⟩ = some (.int .i64 a0_1) ∧ w'.cell? ⟨gb325, 2, none⟩ = some (.slice A0_2 l0_2.length c0_2) ∧ w'.cell? ⟨gb325, 3, none⟩ = some (.slice A0_3 l0_3.length c0_3)) (ds := []) #[F,F,F,F,F] (by kernel_rfl) rfl rfl ⟨(kC BK351.out 0).trans rfl, (kC BK351.out 1).trans rfl, (kC BK351.out 2).trans rfl, (kC BK351.out 3).trans rfl, (kC BK325.out 0).trans rfl, (kC BK325.out 1).trans rfl, (kC BK325.out 2).trans rfl, (kC BK325.out 3).trans rfl⟩ (fun hHeld => ?_)
        generalize wc.drew = w55 at HO_7 HO_10 HO_12 HO_352002 HO_352003 BK325 BK351 HB hHeld ⊢
        refine take_ (i := 0) (N := some 62) (v := ?_) (a' := ?_) #[T,F,F,F,F] rfl rfl (by kernel_rfl) (fun _ _ _ h => h) (Or.inl ⟨by rfl, ?_⟩) hHeld ?_ ?_; rotate_left; (·rintro w' ⟨s0, s1, s2, s3, s4, s5, s6, s7⟩; go_simp; with_reducible rfl); rotate_left; (·simp only [Act.put, sI, sZ, sS, iW, jW]; rfl)
        refine take_ (i := 1) (N := some 63) (v := ?_) (a' := ?_) #[T,T,F,F,F] rfl rfl (by kernel_rfl) (fun _ _ _ h => h) (Or.inl ⟨by rfl, ?_⟩) hHeld ?_ ?_; rotate_left; (·rintro w' ⟨s0, s1, s2, s3, s4, s5, s6, s7⟩; go_simp; with_reducible rfl); rotate_left; (·simp only [Act.put, sI, sZ, sS, iW, jW]; rfl)
        refine one_ (i := 2) (N := some 64) #[T,T,T,F,F] rfl rfl (by kernel_rfl) (by decide) (fun K hK => ?_)
        refine goes_ Try.func17 (by kernel_rfl) rfl #[.agg #[.int .i64 a0_0, .int .i64 a0_1, .slice A0_2 l0_2.length c0_2, .slice A0_3 l0_3.length c0_3]] (by rfl) rfl rfl (by (try simp only [List.map_toArray, List.map_cons, List.map_nil]); first | done | rfl | (simp only [List.length_drop, List.length_take]; rfl)) ?_
        with_reducible refine (laws_toGrammar.calls kj15 a0_0 a0_1 _ _ l0_2 _ _ l0_3 t361 t362 t363 t366 _ ?side1 ?side2 ?side3 ?side4 A46.out).mono ?_
        (case side1 => repeat (first | exact (cB HR0_2.out HB.out) | (with_reducible refine cA ?_ _) | (with_reducible refine cN ?_ _) | (with_reducible refine cD ?_)))
        (case side2 => exact HC0_2.out)
        (case side3 => repeat (first | exact (cB HR0_3.out HB.out) | (with_reducible refine cA ?_ _) | (with_reducible refine cN ?_ _) | (with_reducible refine cD ?_)))
        (case side4 => exact HC0_3.out)
        rintro e w56 ⟨v364, v367, rfl, ho0, ho1, hb⟩
        refine ⟨_, rfl, ?_⟩
        have n0_ := Aside0.mk (rE (by (with_reducible repeat (first | apply rA | apply rN | apply rD)); exact HO_7.out) (Kd.R_base ho0) hb)
        have n1_ := Aside0.mk (rE (by (with_reducible repeat (first | apply rA | apply rN | apply rD)); exact HO_10.out) (Kd.R_base ho0) hb)
        have n2_ := Aside0.mk (rE (by (with_reducible repeat (first | apply rA | apply rN | apply rD)); exact HO_12.out) (Kd.R_base ho0) hb)
        have n3_ := Aside0.mk (rE (by (with_reducible repeat (first | apply rA | apply rN | apply rD)); exact HO_352002.out) (Kd.R_base ho0) hb)
        have n4_ := Aside0.mk (rE (by (with_reducible repeat (first | apply rA | apply rN | apply rD)); exact HO_352003.out) (Kd.R_base ho1) hb)
        have n5_ := Aside0.mk (rL (rW (rW (rW (rW ho0 (rT (by (with_reducible repeat (first | apply rA | apply rN | apply rD)); exact HO_7.out))) (rT (by (with_reducible repeat (first | apply rA | apply rN | apply rD)); exact HO_10.out))) (rT (by (with_reducible repeat (first | apply rA | apply rN | apply rD)); exact HO_12.out))) (rT (by (with_reducible repeat (first | apply rA | apply rN | apply rD)); exact HO_352002.out))) (bZ (by repeat (first | (with_reducible first | exact HB.out | apply bA | apply bN | apply bD | refine bS ?_ GE325.out | refine bS ?_ GE351.out) | exact HB.out))))
        have n6_ := Aside0.mk (rL (rW ho1 (rT (by (with_reducible repeat (first | apply rA | apply rN | apply rD)); exact HO_352003.out))) (bZ (by repeat (first | (with_reducible first | exact HB.out | apply bA | apply bN | apply bD | refine bS ?_ GE325.out | refine bS ?_ GE351.out) | exact HB.out))))
        have n7_ := Aside0.mk (kB (g := gb325) (o := .cells #[.int .i64 a0_0, .int .i64 a0_1, .slice A0_2 l0_2.length c0_2, .slice A0_3 l0_3.length c0_3] 25 (0, 0)) (by (with_reducible repeat (first | refine kN ?_ _ | refine kD ?_ | refine kA ?_ _)); exact BK325.out) hb)
        have n8_ := Aside0.mk (kB (g := gb351) (o := .cells #[.int .i64 t343, .int .i64 t344, .slice Ao32 t345.length co32, .slice Ao33 t348.length co33] 30 (0, 0)) (by (with_reducible repeat (first | refine kN ?_ _ | refine kD ?_ | refine kA ?_ _)); exact BK351.out) hb)
        have n9_ := Aside0.mk (bP (by repeat (first | (with_reducible first | exact HB.out | apply bA | apply bN | apply bD | refine bS ?_ GE325.out | refine bS ?_ GE351.out) | exact HB.out)) hb)
        clear HO_7
        clear HO_10
        clear HO_12
        clear HO_352002
        clear HO_352003
        clear BK325
        clear BK351
        clear HB
        have HO_7 := n0_
        have HO_10 := n1_
        have HO_12 := n2_
        have HO_352002 := n3_
        have HO_352003 := n4_
        have HO365 := n5_
        have HO368 := n6_
        have BK325 := n7_
        have BK351 := n8_
        have HB := n9_
        clear n0_ n1_ n2_ n3_ n4_ n5_ n6_ n7_ n8_ n9_
        (try clear hb)
        (try clear hb2)
        (try clear hk)
        (try clear hi)
        (try clear ho0)
        (try clear ho1)
        obtain ⟨Ao57, co57, eo57⟩ := Kd.R_slice HO365.out
        (first | subst eo57 | (injection eo57 with f1_ f2_ f3_; have f4_ := f1_.symm; have f5_ := f3_.symm; clear f1_ f2_ f3_; subst f4_; subst f5_))
        obtain ⟨Ao58, co58, eo58⟩ := Kd.R_slice HO368.out
        (first | subst eo58 | (injection eo58 with f1_ f2_ f3_; have f4_ := f1_.symm; have f5_ := f3_.symm; clear f1_ f2_ f3_; subst f4_; subst f5_))
        refine hK.out _ _ ⟨(kC BK351.out 0).trans rfl, (kC BK351.out 1).trans rfl, (kC BK351.out 2).trans rfl, (kC BK351.out 3).trans rfl, (kC BK325.out 0).trans rfl, (kC BK325.out 1).trans rfl, (kC BK325.out 2).trans rfl, (kC BK325.out 3).trans rfl⟩ (fun hHeld => ?_)
        clear hK K
        refine norm_ (a' := ?_) ?_ ?_
        rotate_left
        ·show Act.put _ (some 64) _ = _
         simp only [Act.put, sI, sZ, sS, iW, jW]
         rfl
        refine one_ (i := 3) (N := some 65) #[T,T,T,T,F] rfl rfl (by kernel_rfl) (by decide) (fun K hK => ?_)
        refine goes_ Try.func19 (by kernel_rfl) rfl #[.agg #[.int .i64 t343, .int .i64 t344, .slice Ao32 t345.length co32, .slice Ao33 t348.length co33], .agg #[.int .i64 t361, .int .i64 t362, .slice Ao57 t363.length co57, .slice Ao58 t366.length co58]] (by rfl) rfl rfl (by (try simp only [List.map_toArray, List.map_cons, List.map_nil]); first | done | rfl | (simp only [List.length_drop, List.length_take]; rfl)) ?_
        with_reducible refine (laws_eqGrammar.calls kj15 t343 t344 _ _ t345 _ _ t348 t361 t362 _ _ t363 _ _ t366 true _ ?side1 ?side2 ?side3 ?side4 ?side5 ?side6 ?side7 ?side8 A47.out).mono ?_
        (case side1 => repeat (first | exact (Kd.R_reads' HO_352002.out).2.2 | (with_reducible refine cA ?_ _) | (with_reducible refine cN ?_ _) | (with_reducible refine cD ?_)))
        (case side2 => exact (Kd.R_reads' HO_352002.out).2.1)
        (case side3 => repeat (first | exact (Kd.R_reads' HO_352003.out).2.2 | (with_reducible refine cA ?_ _) | (with_reducible refine cN ?_ _) | (with_reducible refine cD ?_)))
        (case side4 => exact (Kd.R_reads' HO_352003.out).2.1)
        (case side5 => repeat (first | exact (Kd.R_reads' HO365.out).2.2 | (with_reducible refine cA ?_ _) | (with_reducible refine cN ?_ _) | (with_reducible refine cD ?_)))
        (case side6 => exact (Kd.R_reads' HO365.out).2.1)
        (case side7 => repeat (first | exact (Kd.R_reads' HO368.out).2.2 | (with_reducible refine cA ?_ _) | (with_reducible refine cN ?_ _) | (with_reducible refine cD ?_)))
        (case side8 => exact (Kd.R_reads' HO368.out).2.1)
        rintro e w59 ⟨rfl, hb⟩
        refine ⟨_, rfl, ?_⟩
        have n0_ := Aside0.mk (rB (by (with_reducible repeat (first | apply rA | apply rN | apply rD)); exact HO_7.out) hb)
        have n1_ := Aside0.mk (rB (by (with_reducible repeat (first | apply rA | apply rN | apply rD)); exact HO_10.out) hb)
        have n2_ := Aside0.mk (rB (by (with_reducible repeat (first | apply rA | apply rN | apply rD)); exact HO_12.out) hb)
        have n3_ := Aside0.mk (rB (by (with_reducible repeat (first | apply rA | apply rN | apply rD)); exact HO_352002.out) hb)
        have n4_ := Aside0.mk (rB (by (with_reducible repeat (first | apply rA | apply rN | apply rD)); exact HO_352003.out) hb)
        have n5_ := Aside0.mk (rB (by (with_reducible repeat (first | apply rA | apply rN | apply rD)); exact HO365.out) hb)
        have n6_ := Aside0.mk (rB (by (with_reducible repeat (first | apply rA | apply rN | apply rD)); exact HO368.out) hb)
        have n7_ := Aside0.mk (kB (g := gb325) (o := .cells #[.int .i64 a0_0, .int .i64 a0_1, .slice A0_2 l0_2.length c0_2, .slice A0_3 l0_3.length c0_3] 25 (0, 0)) (by (with_reducible repeat (first | refine kN ?_ _ | refine kD ?_ | refine kA ?_ _)); exact BK325.out) hb)
        have n8_ := Aside0.mk (kB (g := gb351) (o := .cells #[.int .i64 t343, .int .i64 t344, .slice Ao32 t345.length co32, .slice Ao33 t348.length co33] 30 (0, 0)) (by (with_reducible repeat (first | refine kN ?_ _ | refine kD ?_ | refine kA ?_ _)); exact BK351.out) hb)
        have n9_ := Aside0.mk (bP (by repeat (first | (with_reducible first | exact HB.out | apply bA | apply bN | apply bD | refine bS ?_ GE325.out | refine bS ?_ GE351.out) | exact HB.out)) hb)
        clear HO_7
        clear HO_10
        clear HO_12
        clear HO_352002
        clear HO_352003
        clear HO365
        clear HO368
        clear BK325
        clear BK351
        clear HB
        have HO_7 := n0_
        have HO_10 := n1_
        have HO_12 := n2_
        have HO_352002 := n3_
        have HO_352003 := n4_
        have HO365 := n5_
        have HO368 := n6_
        have BK325 := n7_
        have BK351 := n8_
        have HB := n9_
        clear n0_ n1_ n2_ n3_ n4_ n5_ n6_ n7_ n8_ n9_
        (try clear hb)
        (try clear hb2)
        (try clear hk)
        (try clear hi)
        refine hK.out _ _ ⟨(kC BK351.out 0).trans rfl, (kC BK351.out 1).trans rfl, (kC BK351.out 2).trans rfl, (kC BK351.out 3).trans rfl, (kC BK325.out 0).trans rfl, (kC BK325.out 1).trans rfl, (kC BK325.out 2).trans rfl, (kC BK325.out 3).trans rfl⟩ (fun hHeld => ?_)
        clear hK K
        refine norm_ (a' := ?_) ?_ ?_
        rotate_left
        ·show Act.put _ (some 65) _ = _
         simp only [Act.put, sI, sZ, sS, iW, jW]
         rfl
        refine pure_ (i := 4) (N := some 66) (v := ?_) (a' := ?_) #[T,T,T,T,T] rfl rfl (by kernel_rfl) (fun _ _ _ h => h) (Or.inl ⟨by rfl, ?_⟩) ?_ ?_; rotate_left; (·intro w'; go_simp; with_reducible rfl); rotate_left; (·simp only [Act.put, sI, sZ, sS, iW, jW]; rfl)
        refine done_ (by kernel_rfl) ?_
        go_upto_region 20 with (first | ((with_reducible refine gC (f := 25) rfl ?_); refine goesL_ (some 69) rfl rfl Try.func25 (by kernel_rfl) rfl #[.slice A1 l1.length c1] rfl (by (try simp only [List.map_toArray, List.map_cons, List.map_nil]); first | done | rfl | (simp only [List.length_drop, List.length_take]; rfl)) ?_; (with_reducible refine (laws_toInt64S.calls kj15 _ _ l1 t370 _ ?side1 ?side2 A49.out).mono ?_); (case side1 => repeat (first | exact (cB HR1.out HB.out) | (with_reducible refine cA ?_ _) | (with_reducible refine cN ?_ _) | (with_reducible refine cD ?_))); (case side2 => exact HC1.out); rintro e w60 ⟨v371, rfl, ho0, hb⟩; refine ⟨_, rfl, ?_⟩; have n0_ := Aside0.mk (rE (by (with_reducible repeat (first | apply rA | apply rN | apply rD)); exact HO_7.out) (Kd.R_base ho0) hb); have n1_ := Aside0.mk (rE (by (with_reducible repeat (first | apply rA | apply rN | apply rD)); exact HO_10.out) (Kd.R_base ho0) hb); have n2_ := Aside0.mk (rE (by (with_reducible repeat (first | apply rA | apply rN | apply rD)); exact HO_12.out) (Kd.R_base ho0) hb); have n3_ := Aside0.mk (rE (by (with_reducible repeat (first | apply rA | apply rN | apply rD)); exact HO_352002.out) (Kd.R_base ho0) hb); have n4_ := Aside0.mk (rB (by (with_reducible repeat (first | apply rA | apply rN | apply rD)); exact HO_352003.out) hb); have n5_ := Aside0.mk (rE (by (with_reducible repeat (first | apply rA | apply rN | apply rD)); exact HO365.out) (Kd.R_base ho0) hb); have n6_ := Aside0.mk (rB (by (with_reducible repeat (first | apply rA | apply rN | apply rD)); exact HO368.out) hb); have n7_ := Aside0.mk (rL (rW (rW (rW (rW (rW ho0 (rT (by (with_reducible repeat (first | apply rA | apply rN | apply rD)); exact HO_7.out))) (rT (by (with_reducible repeat (first | apply rA | apply rN | apply rD)); exact HO_10.out))) (rT (by (with_reducible repeat (first | apply rA | apply rN | apply rD)); exact HO_12.out))) (rT (by (with_reducible repeat (first | apply rA | apply rN | apply rD)); exact HO_352002.out))) (rT (by (with_reducible repeat (first | apply rA | apply rN | apply rD)); exact HO365.out))) (bZ (by repeat (first | (with_reducible first | exact HB.out | apply bA | apply bN | apply bD | refine bS ?_ GE325.out | refine bS ?_ GE351.out) | exact HB.out)))); have n8_ := Aside0.mk (kB (g := gb325) (o := .cells #[.int .i64 a0_0, .int .i64 a0_1, .slice A0_2 l0_2.length c0_2, .slice A0_3 l0_3.length c0_3] 25 (0, 0)) (by (with_reducible repeat (first | refine kN ?_ _ | refine kD ?_ | refine kA ?_ _)); exact BK325.out) hb); have n9_ := Aside0.mk (kB (g := gb351) (o := .cells #[.int .i64 t343, .int .i64 t344, .slice Ao32 t345.length co32, .slice Ao33 t348.length co33] 30 (0, 0)) (by (with_reducible repeat (first | refine kN ?_ _ | refine kD ?_ | refine kA ?_ _)); exact BK351.out) hb); have n10_ := Aside0.mk (bP (by repeat (first | (with_reducible first | exact HB.out | apply bA | apply bN | apply bD | refine bS ?_ GE325.out | refine bS ?_ GE351.out) | exact HB.out)) hb); clear HO_7; clear HO_10; clear HO_12; clear HO_352002; clear HO_352003; clear HO365; clear HO368; clear BK325; clear BK351; clear HB; have HO_7 := n0_; have HO_10 := n1_; have HO_12 := n2_; have HO_352002 := n3_; have HO_352003 := n4_; have HO365 := n5_; have HO368 := n6_; have HO372 := n7_; have BK325 := n8_; have BK351 := n9_; have HB := n10_; clear n0_ n1_ n2_ n3_ n4_ n5_ n6_ n7_ n8_ n9_ n10_; (try clear hb); (try clear hb2); (try clear hk); (try clear hi); (try clear ho0); obtain ⟨Ao61, co61, eo61⟩ := Kd.R_slice HO372.out; subst eo61) | ((with_reducible refine gC (f := 27) rfl ?_); refine goesL_ (some 70) rfl rfl Try.func27 (by kernel_rfl) rfl #[.slice Ao36 t352.length co36, .slice Ao61 t370.length co61] rfl (by (try simp only [List.map_toArray, List.map_cons, List.map_nil]); first | done | rfl | (simp only [List.length_drop, List.length_take]; rfl)) ?_; (with_reducible refine (laws_eqInt64S.calls kj15 _ _ t352 _ _ t370 true _ ?side1 ?side2 ?side3 ?side4 A50.out).mono ?_); (case side1 => repeat (first | exact (Kd.R_reads' HO_10.out).2.2 | (with_reducible refine cA ?_ _) | (with_reducible refine cN ?_ _) | (with_reducible refine cD ?_))); (case side2 => exact (Kd.R_reads' HO_10.out).2.1); (case side3 => repeat (first | exact (Kd.R_reads' HO372.out).2.2 | (with_reducible refine cA ?_ _) | (with_reducible refine cN ?_ _) | (with_reducible refine cD ?_))); (case side4 => exact (Kd.R_reads' HO372.out).2.1); rintro e w' ⟨rfl, ⟨nd, rfl⟩⟩; refine ⟨_, rfl, ?_⟩; have hnb62 := NB351_325.out; have hnc62 := NB325_351.out; have hcz63_0 : w60.cell? ⟨gb351, 0, none⟩ = some (.int .i64 t343) := (kC BK351.out 0).trans rfl; have hcz63_1 : w60.cell? ⟨gb351, 1, none⟩ = some (.int .i64 t344) := (kC BK351.out 1).trans rfl; have hcz63_2 : w60.cell? ⟨gb351, 2, none⟩ = some (.slice Ao32 t345.length co32) := (kC BK351.out 2).trans rfl; have hcz63_3 : w60.cell? ⟨gb351, 3, none⟩ = some (.slice Ao33 t348.length co33) := (kC BK351.out 3).trans rfl; have hfz63_0 := blk_frozen BK351.out 0; have hfz63_1 := blk_frozen BK351.out 1; have hfz63_2 := blk_frozen BK351.out 2; have hfz63_3 := blk_frozen BK351.out 3) | ((with_reducible refine gC (f := 30) rfl ?_); refine goesL_ (some 74) rfl rfl Try.func30 (by kernel_rfl) rfl #[.agg #[.int .i64 t343, .int .i64 t344, .slice Ao32 t345.length co32, .slice Ao33 t348.length co33], .int .i64 1] rfl (by (try simp only [List.map_toArray, List.map_cons, List.map_nil]); first | done | rfl | (simp only [List.length_drop, List.length_take]; rfl)) ?_; (with_reducible refine (laws_markGrammar.calls kj15 t343 t344 (fun k_ => some k_ = (.slice Ao32 t345.length co32 : Value).ownBlock) (.slice Ao32 t345.length co32) t345 (fun k_ => some k_ = (.slice Ao33 t348.length co33 : Value).ownBlock) (.slice Ao33 t348.length co33) t348 1 t374 t375 t376 w _ ?side1 ?side2 ?side3 A52.out).mono ?_); (case side1 => repeat (first | (with_reducible first | exact HB.out | apply bA | apply bN | apply bD | refine bS ?_ GE325.out | refine bS ?_ GE351.out) | exact HB.out)); (case side2 => exact Kd.R_tight rfl HO_352002.out); (case side3 => exact Kd.R_tight rfl HO_352003.out); rintro e w64 ⟨rfl, hy0, hy1, hb, hkp⟩; refine ⟨_, rfl, ?_⟩; have n0_ := Aside0.mk (rM (ok' := fun k_ => some k_ ≠ (.slice Ao36 t352.length co36 : Value).ownBlock ∧ some k_ ≠ (v357 : Value).ownBlock ∧ some k_ ≠ (.slice Ao32 t345.length co32 : Value).ownBlock ∧ some k_ ≠ (.slice Ao57 t363.length co57 : Value).ownBlock ∧ some k_ ≠ (.slice Ao61 t370.length co61 : Value).ownBlock) (Kd.R_keptB ((Kd.R_apart' HO_7.out (Kd.R_typed HO_352003.out) (by decide))) hkp (fun k_ hk_ hs_ => Or.elim hs_ (fun e_ => (hk_.1.1.1.2.2) e_) (fun e_ => (hk_.2) e_))) (fun k_ hk_ => ⟨hk_.1.1.1.1.1, hk_.1.1.1.1.2.1, hk_.1.1.1.1.2.2, hk_.1.1.1.2, hk_.1.1.2⟩)); have n1_ := Aside0.mk (rM (ok' := fun k_ => some k_ ≠ (v340 : Value).ownBlock ∧ some k_ ≠ (v357 : Value).ownBlock ∧ some k_ ≠ (.slice Ao32 t345.length co32 : Value).ownBlock ∧ some k_ ≠ (.slice Ao57 t363.length co57 : Value).ownBlock ∧ some k_ ≠ (.slice Ao61 t370.length co61 : Value).ownBlock) (Kd.R_keptB ((Kd.R_apart' HO_10.out (Kd.R_typed HO_352003.out) (by decide))) hkp (fun k_ hk_ hs_ => Or.elim hs_ (fun e_ => (hk_.1.1.1.2.2) e_) (fun e_ => (hk_.2) e_))) (fun k_ hk_ => ⟨hk_.1.1.1.1.1, hk_.1.1.1.1.2.1, hk_.1.1.1.1.2.2, hk_.1.1.1.2, hk_.1.1.2⟩)); have n2_ := Aside0.mk (rM (ok' := fun k_ => some k_ ≠ (v340 : Value).ownBlock ∧ some k_ ≠ (.slice Ao36 t352.length co36 : Value).ownBlock ∧ some k_ ≠ (.slice Ao32 t345.length co32 : Value).ownBlock ∧ some k_ ≠ (.slice Ao57 t363.length co57 : Value).ownBlock ∧ some k_ ≠ (.slice Ao61 t370.length co61 : Value).ownBlock) (Kd.R_keptB ((Kd.R_apart' HO_12.out (Kd.R_typed HO_352003.out) (by decide))) hkp (fun k_ hk_ hs_ => Or.elim hs_ (fun e_ => (hk_.1.1.1.2.2) e_) (fun e_ => (hk_.2) e_))) (fun k_ hk_ => ⟨hk_.1.1.1.1.1, hk_.1.1.1.1.2.1, hk_.1.1.1.1.2.2, hk_.1.1.1.2, hk_.1.1.2⟩)); have n3_ := Aside0.mk (Kd.R_reok rfl hy0 (fun k_ e_ => HO_352002.out.1 k_ e_)); have n4_ := Aside0.mk (Kd.R_reok rfl hy1 (fun k_ e_ => HO_352003.out.1 k_ e_)); have n5_ := Aside0.mk (blk_kept (by (with_reducible repeat (first | refine kN ?_ _ | refine kD ?_ | refine kA ?_ _)); exact BK325.out) hkp (fun hs_ => Or.elim hs_ (fun e_ => (fun e_ => (Kd.R_ne HO_352002.out BK325.out (by decide)) e_) e_) (fun e_ => (fun e_ => (Kd.R_ne HO_352003.out BK325.out (by decide)) e_) e_))); have n6_ := Aside0.mk (blk_kept (by (with_reducible repeat (first | refine kN ?_ _ | refine kD ?_ | refine kA ?_ _)); exact BK351.out) hkp (fun hs_ => Or.elim hs_ (fun e_ => (fun e_ => (Kd.R_ne HO_352002.out BK351.out (by decide)) e_) e_) (fun e_ => (fun e_ => (Kd.R_ne HO_352003.out BK351.out (by decide)) e_) e_))); have n7_ := Aside0.mk (rM (ok' := fun k_ => some k_ ≠ (v340 : Value).ownBlock ∧ some k_ ≠ (.slice Ao36 t352.length co36 : Value).ownBlock ∧ some k_ ≠ (v357 : Value).ownBlock ∧ some k_ ≠ (.slice Ao32 t345.length co32 : Value).ownBlock ∧ some k_ ≠ (.slice Ao61 t370.length co61 : Value).ownBlock) (Kd.R_keptB ((Kd.R_apart' HO365.out (Kd.R_typed HO_352003.out) (by decide))) hkp (fun k_ hk_ hs_ => Or.elim hs_ (fun e_ => (hk_.1.1.2) e_) (fun e_ => (hk_.2) e_))) (fun k_ hk_ => ⟨hk_.1.1.1.1.1.1.2, hk_.1.1.1.1.1.2, hk_.1.1.1.1.2, hk_.1.1.1.2, hk_.1.1.2⟩)); have n8_ := Aside0.mk (rM (ok' := fun k_ => some k_ ≠ (.slice Ao33 t348.length co33 : Value).ownBlock) (Kd.R_keptB ((Kd.R_apart' HO368.out (Kd.R_typed HO_352002.out) (by decide))) hkp (fun k_ hk_ hs_ => Or.elim hs_ (fun e_ => (hk_.2) e_) (fun e_ => (hk_.1.2) e_))) (fun k_ hk_ => hk_.1.1.2)); have n9_ := Aside0.mk (rM (ok' := fun k_ => some k_ ≠ (v340 : Value).ownBlock ∧ some k_ ≠ (.slice Ao36 t352.length co36 : Value).ownBlock ∧ some k_ ≠ (v357 : Value).ownBlock ∧ some k_ ≠ (.slice Ao32 t345.length co32 : Value).ownBlock ∧ some k_ ≠ (.slice Ao57 t363.length co57 : Value).ownBlock) (Kd.R_keptB ((Kd.R_apart' HO372.out (Kd.R_typed HO_352003.out) (by decide))) hkp (fun k_ hk_ hs_ => Or.elim hs_ (fun e_ => (hk_.1.1.2) e_) (fun e_ => (hk_.2) e_))) (fun k_ hk_ => ⟨hk_.1.1.1.1.1.1.2, hk_.1.1.1.1.1.2, hk_.1.1.1.1.2, hk_.1.1.1.2, hk_.1.1.2⟩)); have n10_ := Aside0.mk (hb); clear HO_7; clear HO_10; clear HO_12; clear HO_352002; clear HO_352003; clear BK325; clear BK351; clear HO365; clear HO368; clear HO372; clear HB; have HO_7 := n0_; have HO_10 := n1_; have HO_12 := n2_; have HO_352002 := n3_; have HO_352003 := n4_; have BK325 := n5_; have BK351 := n6_; have HO365 := n7_; have HO368 := n8_; have HO372 := n9_; have HB := n10_; clear n0_ n1_ n2_ n3_ n4_ n5_ n6_ n7_ n8_ n9_ n10_; (try clear hb); (try clear hkp); (try clear hy0); (try clear hy1)) | ((with_reducible refine gC (f := 31) rfl ?_); refine goesL_ (some 77) rfl rfl Try.func31 (by kernel_rfl) rfl #[.slice Ao36 t352.length co36, .int .i64 t374] rfl (by (try simp only [List.map_toArray, List.map_cons, List.map_nil]); first | done | rfl | (simp only [List.length_drop, List.length_take]; rfl)) ?_; (with_reducible refine (laws_markInt64S.calls kj15 (fun k_ => some k_ = (.slice Ao36 t352.length co36 : Value).ownBlock) (.slice Ao36 t352.length co36) t352 t374 t377 t378 w _ ?side1 ?side2 A53.out).mono ?_); (case side1 => repeat (first | (with_reducible first | exact HB.out | apply bA | apply bN | apply bD | refine bS ?_ GE325.out | refine bS ?_ GE351.out) | exact HB.out)); (case side2 => exact Kd.R_tight rfl HO_10.out); rintro e w65 ⟨rfl, hy0, hb, hkp⟩; refine ⟨_, rfl, ?_⟩; have n0_ := Aside0.mk (rM (ok' := fun k_ => some k_ ≠ (.slice Ao36 t352.length co36 : Value).ownBlock ∧ some k_ ≠ (v357 : Value).ownBlock ∧ some k_ ≠ (.slice Ao32 t345.length co32 : Value).ownBlock ∧ some k_ ≠ (.slice Ao57 t363.length co57 : Value).ownBlock ∧ some k_ ≠ (.slice Ao61 t370.length co61 : Value).ownBlock) (Kd.R_keptB (HO_7.out) hkp (fun k_ hk_ hs_ => (hk_.1) hs_)) (fun k_ hk_ => ⟨hk_.1.1, hk_.1.2.1, hk_.1.2.2.1, hk_.1.2.2.2.1, hk_.1.2.2.2.2⟩)); have n1_ := Aside0.mk (Kd.R_reok rfl hy0 (fun k_ e_ => HO_10.out.1 k_ e_)); have n2_ := Aside0.mk (rM (ok' := fun k_ => some k_ ≠ (v340 : Value).ownBlock ∧ some k_ ≠ (.slice Ao36 t352.length co36 : Value).ownBlock ∧ some k_ ≠ (.slice Ao32 t345.length co32 : Value).ownBlock ∧ some k_ ≠ (.slice Ao57 t363.length co57 : Value).ownBlock ∧ some k_ ≠ (.slice Ao61 t370.length co61 : Value).ownBlock) (Kd.R_keptB (HO_12.out) hkp (fun k_ hk_ hs_ => (hk_.2.1) hs_)) (fun k_ hk_ => ⟨hk_.1.1, hk_.1.2.1, hk_.1.2.2.1, hk_.1.2.2.2.1, hk_.1.2.2.2.2⟩)); have n3_ := Aside0.mk (rM (ok' := fun k_ => some k_ ≠ (v340 : Value).ownBlock ∧ some k_ ≠ (.slice Ao36 t352.length co36 : Value).ownBlock ∧ some k_ ≠ (v357 : Value).ownBlock ∧ some k_ ≠ (.slice Ao57 t363.length co57 : Value).ownBlock ∧ some k_ ≠ (.slice Ao61 t370.length co61 : Value).ownBlock) (Kd.R_keptB (HO_352002.out) hkp (fun k_ hk_ hs_ => (hk_.1.1.2.1) hs_)) (fun k_ hk_ => ⟨hk_.1.1.1.1, hk_.1.1.1.2.1, hk_.1.1.1.2.2, hk_.1.1.2, hk_.1.2⟩)); have n4_ := Aside0.mk (rM (ok' := fun k_ => some k_ ≠ (.slice Ao58 t366.length co58 : Value).ownBlock) (Kd.R_keptB ((Kd.R_apart' HO_352003.out (Kd.R_typed HO_10.out) (by decide))) hkp (fun k_ hk_ hs_ => (hk_.2) hs_)) (fun k_ hk_ => hk_.1.1.2)); have n5_ := Aside0.mk (blk_kept (by (with_reducible repeat (first | refine kN ?_ _ | refine kD ?_ | refine kA ?_ _)); exact BK325.out) hkp (fun hs_ => (fun e_ => (Kd.R_ne HO_10.out BK325.out (by decide)) e_) hs_)); have n6_ := Aside0.mk (blk_kept (by (with_reducible repeat (first | refine kN ?_ _ | refine kD ?_ | refine kA ?_ _)); exact BK351.out) hkp (fun hs_ => (fun e_ => (Kd.R_ne HO_10.out BK351.out (by decide)) e_) hs_)); have n7_ := Aside0.mk (rM (ok' := fun k_ => some k_ ≠ (v340 : Value).ownBlock ∧ some k_ ≠ (.slice Ao36 t352.length co36 : Value).ownBlock ∧ some k_ ≠ (v357 : Value).ownBlock ∧ some k_ ≠ (.slice Ao32 t345.length co32 : Value).ownBlock ∧ some k_ ≠ (.slice Ao61 t370.length co61 : Value).ownBlock) (Kd.R_keptB (HO365.out) hkp (fun k_ hk_ hs_ => (hk_.2.1) hs_)) (fun k_ hk_ => ⟨hk_.1.1, hk_.1.2.1, hk_.1.2.2.1, hk_.1.2.2.2.1, hk_.1.2.2.2.2⟩)); have n8_ := Aside0.mk (rM (ok' := fun k_ => some k_ ≠ (.slice Ao33 t348.length co33 : Value).ownBlock) (Kd.R_keptB ((Kd.R_apart' HO368.out (Kd.R_typed HO_10.out) (by decide))) hkp (fun k_ hk_ hs_ => (hk_.2) hs_)) (fun k_ hk_ => hk_.1.1)); have n9_ := Aside0.mk (rM (ok' := fun k_ => some k_ ≠ (v340 : Value).ownBlock ∧ some k_ ≠ (.slice Ao36 t352.length co36 : Value).ownBlock ∧ some k_ ≠ (v357 : Value).ownBlock ∧ some k_ ≠ (.slice Ao32 t345.length co32 : Value).ownBlock ∧ some k_ ≠ (.slice Ao57 t363.length co57 : Value).ownBlock) (Kd.R_keptB (HO372.out) hkp (fun k_ hk_ hs_ => (hk_.2.1) hs_)) (fun k_ hk_ => ⟨hk_.1.1, hk_.1.2.1, hk_.1.2.2.1, hk_.1.2.2.2.1, hk_.1.2.2.2.2⟩)); have n10_ := Aside0.mk (hb); clear HO_7; clear HO_10; clear HO_12; clear HO_352002; clear HO_352003; clear BK325; clear BK351; clear HO365; clear HO368; clear HO372; clear HB; have HO_7 := n0_; have HO_10 := n1_; have HO_12 := n2_; have HO_352002 := n3_; have HO_352003 := n4_; have BK325 := n5_; have BK351 := n6_; have HO365 := n7_; have HO368 := n8_; have HO372 := n9_; have HB := n10_; clear n0_ n1_ n2_ n3_ n4_ n5_ n6_ n7_ n8_ n9_ n10_; (try clear hb); (try clear hkp); (try clear hy0)))
        (try simp only [Act.put, sI, sZ, sS])
        go_cut [95] (fun v95 wc => ∃ (kq : Nat) (x95_53 : Bool), v95 = .bool x95_53 ∧ Aside0 (laws_FnExactWrongTurn.j1 kq l1 t338 t339 t342 t356 x95_53 a0_0 a0_1 l0_2 l0_3 = some r) ∧ Aside0 (kq ≤ kj15) ∧ Aside0 (Kd.R (Kd.int .i64) 2 wc w.heap.size (fun k_ => some k_ ≠ (v357 : Value).ownBlock ∧ some k_ ≠ ((.slice Ao32 t345.length co32) : Value).ownBlock) v340 t339) ∧ Aside0 (Kd.R (Kd.int .i64) 2 wc w.heap.size (fun k_ => some k_ ≠ (v340 : Value).ownBlock ∧ some k_ ≠ ((.slice Ao32 t345.length co32) : Value).ownBlock) v357 t356) ∧ Aside0 (Kd.R (Kd.int .i64) 2 wc w.heap.size (fun k_ => some k_ ≠ (v340 : Value).ownBlock ∧ some k_ ≠ (v357 : Value).ownBlock) (.slice Ao32 t345.length co32) t375) ∧ Aside0 (Kd.R k67 67 wc w.heap.size (fun _ => True) (.slice Ao33 t348.length co33) t376) ∧ Aside0 (wc.heap[gb325]? = some (.cells #[.int .i64 a0_0, .int .i64 a0_1, (.slice A0_2 l0_2.length c0_2), (.slice A0_3 l0_3.length c0_3)] 25 (0, 0))) ∧ Aside0 (wc.heap[gb351]? = some (.cells #[.int .i64 t343, .int .i64 t344, (.slice Ao32 t345.length co32), (.slice Ao33 t348.length co33)] 30 (0, 0))) ∧ Aside0 (Below w.heap.size w wc))
        case first =>
         have H := HC54.out
         clear HC54
         by_cases c66 : t377 < 0
         ·rw [if_pos c66] at H
          have c66b0 : decide (t377 < 0) = true := decide_eq_true c66
          clear c66
          (first | rw [c66b0] | (simp only [iW, jW]; rw [c66b0]) | skip)
          have H' := Aside0.mk H
          clear H
          go_wp2
          go_meet
          case rel => exact ⟨_, (true), (by first | rfl | (simp; done) | (simp [*]; done)), H', ⟨by have := HJ15.out; first | omega | exact Nat.le_refl _⟩, ⟨by (with_reducible repeat (first | apply rA | apply rN | apply rD)); exact rM HO_7.out (fun _ hk => ⟨hk.2.1, hk.2.2.1⟩)⟩, ⟨by (with_reducible repeat (first | apply rA | apply rN | apply rD)); exact rM HO_12.out (fun _ hk => ⟨hk.1, hk.2.2.1⟩)⟩, ⟨by (with_reducible repeat (first | apply rA | apply rN | apply rD)); exact rM HO_352002.out (fun _ hk => ⟨hk.1, hk.2.2.1⟩)⟩, ⟨by (with_reducible repeat (first | apply rA | apply rN | apply rD)); exact rM HO_352003.out (fun _ hk => trivial)⟩, ⟨by (with_reducible repeat (first | refine kN ?_ _ | refine kD ?_ | refine kA ?_ _)); exact BK325.out⟩, ⟨by (with_reducible repeat (first | refine kN ?_ _ | refine kD ?_ | refine kA ?_ _)); exact BK351.out⟩, ⟨by repeat (first | (with_reducible first | exact HB.out | apply bA | apply bN | apply bD | refine bS ?_ GE325.out | refine bS ?_ GE351.out) | exact HB.out)⟩⟩
         ·rw [if_neg c66] at H
          have c66b0 : decide (t377 < 0) = false := decide_eq_false c66
          clear c66
          (first | rw [c66b0] | (simp only [iW, jW]; rw [c66b0]) | skip)
          by_cases c67 : t355 = t338
          ·rw [if_pos c67] at H
           have c67b0 : (t355 == t338) = true := beq_iff_eq.mpr c67
           have c67b1 : (t355 != t338) = false := bne_eq_false_iff_eq.mpr c67
           clear c67
           replace H := Option.bind_eq_some_iff.mp H
           obtain ⟨t379, A680, H⟩ := H
           replace H : (if t379 = true then (laws_FnExactWrongTurn.j1 kj15 l1 t338 t339 t342 t356 (t359 != t342) a0_0 a0_1 l0_2 l0_3) else (laws_FnExactWrongTurn.j1 kj15 l1 t338 t339 t342 t356 true a0_0 a0_1 l0_2 l0_3)) = some r := H
           have A68 := Aside0.mk A680
           clear A680
           by_cases c69 : t379 = true
           ·subst c69
            have H1 : (laws_FnExactWrongTurn.j1 kj15 l1 t338 t339 t342 t356 (t359 != t342) a0_0 a0_1 l0_2 l0_3) = some r := by rw [if_pos rfl] at H; exact H
            clear H
            have H := H1
            clear H1
            have H' := Aside0.mk H
            clear H
            obtain ⟨Ao70, co70, eo70⟩ := Kd.R_slice HO_12.out
            subst eo70
            obtain ⟨Ao71, co71, eo71⟩ := Kd.R_slice HO_7.out
            subst eo71
            go_wp2_with (first | (go_at_call 27; (with_reducible refine (laws_eqInt64S.calls kj15 _ _ t356 _ _ t339 true _ ?side1 ?side2 ?side3 ?side4 A68.out).mono ?_); (case side1 => repeat (first | exact (Kd.R_reads' HO_12.out).2.2 | (with_reducible refine cA ?_ _) | (with_reducible refine cN ?_ _) | (with_reducible refine cD ?_))); (case side2 => exact (Kd.R_reads' HO_12.out).2.1); (case side3 => repeat (first | exact (Kd.R_reads' HO_7.out).2.2 | (with_reducible refine cA ?_ _) | (with_reducible refine cN ?_ _) | (with_reducible refine cD ?_))); (case side4 => exact (Kd.R_reads' HO_7.out).2.1); rintro e w' ⟨rfl, ⟨nd, rfl⟩⟩))
            go_meet
            case rel => exact ⟨_, ((t359 != t342)), (by first | rfl | (simp; done) | (simp [*]; done)), H', ⟨by have := HJ15.out; first | omega | exact Nat.le_refl _⟩, ⟨by (with_reducible repeat (first | apply rA | apply rN | apply rD)); exact rM HO_7.out (fun _ hk => ⟨hk.2.1, hk.2.2.1⟩)⟩, ⟨by (with_reducible repeat (first | apply rA | apply rN | apply rD)); exact rM HO_12.out (fun _ hk => ⟨hk.1, hk.2.2.1⟩)⟩, ⟨by (with_reducible repeat (first | apply rA | apply rN | apply rD)); exact rM HO_352002.out (fun _ hk => ⟨hk.1, hk.2.2.1⟩)⟩, ⟨by (with_reducible repeat (first | apply rA | apply rN | apply rD)); exact rM HO_352003.out (fun _ hk => trivial)⟩, ⟨by (with_reducible repeat (first | refine kN ?_ _ | refine kD ?_ | refine kA ?_ _)); exact BK325.out⟩, ⟨by (with_reducible repeat (first | refine kN ?_ _ | refine kD ?_ | refine kA ?_ _)); exact BK351.out⟩, ⟨by repeat (first | (with_reducible first | exact HB.out | apply bA | apply bN | apply bD | refine bS ?_ GE325.out | refine bS ?_ GE351.out) | exact HB.out)⟩⟩
           ·replace c69 := Bool.eq_false_iff.mpr c69
            subst c69
            have H1 : (laws_FnExactWrongTurn.j1 kj15 l1 t338 t339 t342 t356 true a0_0 a0_1 l0_2 l0_3) = some r := by rw [if_neg (show ¬ (false = true) by decide)] at H; exact H
            clear H
            have H := H1
            clear H1
            have H' := Aside0.mk H
            clear H
            obtain ⟨Ao72, co72, eo72⟩ := Kd.R_slice HO_12.out
            subst eo72
            obtain ⟨Ao73, co73, eo73⟩ := Kd.R_slice HO_7.out
            subst eo73
            go_wp2_with (first | (go_at_call 27; (with_reducible refine (laws_eqInt64S.calls kj15 _ _ t356 _ _ t339 false _ ?side1 ?side2 ?side3 ?side4 A68.out).mono ?_); (case side1 => repeat (first | exact (Kd.R_reads' HO_12.out).2.2 | (with_reducible refine cA ?_ _) | (with_reducible refine cN ?_ _) | (with_reducible refine cD ?_))); (case side2 => exact (Kd.R_reads' HO_12.out).2.1); (case side3 => repeat (first | exact (Kd.R_reads' HO_7.out).2.2 | (with_reducible refine cA ?_ _) | (with_reducible refine cN ?_ _) | (with_reducible refine cD ?_))); (case side4 => exact (Kd.R_reads' HO_7.out).2.1); rintro e w' ⟨rfl, ⟨nd, rfl⟩⟩))
            go_meet
            case rel => exact ⟨_, (true), (by first | rfl | (simp; done) | (simp [*]; done)), H', ⟨by have := HJ15.out; first | omega | exact Nat.le_refl _⟩, ⟨by (with_reducible repeat (first | apply rA | apply rN | apply rD)); exact rM HO_7.out (fun _ hk => ⟨hk.2.1, hk.2.2.1⟩)⟩, ⟨by (with_reducible repeat (first | apply rA | apply rN | apply rD)); exact rM HO_12.out (fun _ hk => ⟨hk.1, hk.2.2.1⟩)⟩, ⟨by (with_reducible repeat (first | apply rA | apply rN | apply rD)); exact rM HO_352002.out (fun _ hk => ⟨hk.1, hk.2.2.1⟩)⟩, ⟨by (with_reducible repeat (first | apply rA | apply rN | apply rD)); exact rM HO_352003.out (fun _ hk => trivial)⟩, ⟨by (with_reducible repeat (first | refine kN ?_ _ | refine kD ?_ | refine kA ?_ _)); exact BK325.out⟩, ⟨by (with_reducible repeat (first | refine kN ?_ _ | refine kD ?_ | refine kA ?_ _)); exact BK351.out⟩, ⟨by repeat (first | (with_reducible first | exact HB.out | apply bA | apply bN | apply bD | refine bS ?_ GE325.out | refine bS ?_ GE351.out) | exact HB.out)⟩⟩
          ·rw [if_neg c67] at H
           have c67b0 : (t355 == t338) = false := beq_eq_false_iff_ne.mpr c67
           have c67b1 : (t355 != t338) = true := bne_iff_ne.mpr c67
           have H' := Aside0.mk H
           clear H
           go_wp2
           go_meet
           case rel => exact ⟨_, (true), (by first | rfl | (simp; done) | (simp [*]; done)), H', ⟨by have := HJ15.out; first | omega | exact Nat.le_refl _⟩, ⟨by (with_reducible repeat (first | apply rA | apply rN | apply rD)); exact rM HO_7.out (fun _ hk => ⟨hk.2.1, hk.2.2.1⟩)⟩, ⟨by (with_reducible repeat (first | apply rA | apply rN | apply rD)); exact rM HO_12.out (fun _ hk => ⟨hk.1, hk.2.2.1⟩)⟩, ⟨by (with_reducible repeat (first | apply rA | apply rN | apply rD)); exact rM HO_352002.out (fun _ hk => ⟨hk.1, hk.2.2.1⟩)⟩, ⟨by (with_reducible repeat (first | apply rA | apply rN | apply rD)); exact rM HO_352003.out (fun _ hk => trivial)⟩, ⟨by (with_reducible repeat (first | refine kN ?_ _ | refine kD ?_ | refine kA ?_ _)); exact BK325.out⟩, ⟨by (with_reducible repeat (first | refine kN ?_ _ | refine kD ?_ | refine kA ?_ _)); exact BK351.out⟩, ⟨by repeat (first | (with_reducible first | exact HB.out | apply bA | apply bN | apply bD | refine bS ?_ GE325.out | refine bS ?_ GE351.out) | exact HB.out)⟩⟩
        case rest =>
         clear HC54
         try clear c1
         try clear c2
         try clear p2
         try clear c3
         try clear c3b0
         try clear c3b1
         try clear c4
         try clear c5
         try clear c6
         try clear c6b0
         try clear c9
         try clear c15
         try clear c17
         try clear c19
         try clear c25
         try clear c27
         try clear c30
         try clear c31
         try clear c35
         try clear c36
         try clear c38
         try clear c38b0
         try clear c38b1
         try clear c40
         try clear c45
         try clear c48
         try clear c51
         try clear c62
         try clear c66
         try clear c66b0
         try clear c67
         try clear c67b0
         try clear c67b1
         try clear c69
         try clear hcz18_0
         try clear hcz18_1
         try clear hcz18_2
         try clear hcz18_3
         try clear hcz20_0
         try clear hcz20_1
         try clear hcz20_2
         try clear hcz20_3
         try clear hcz27_0
         try clear hcz27_1
         try clear hcz27_2
         try clear hcz27_3
         try clear hcz31_0
         try clear hcz31_1
         try clear hcz31_2
         try clear hcz31_3
         try clear hcz35_0
         try clear hcz35_1
         try clear hcz35_2
         try clear hcz35_3
         try clear hcz63_0
         try clear hcz63_1
         try clear hcz63_2
         try clear hcz63_3
         try clear hcz8_0
         try clear hcz8_1
         try clear hcz8_2
         try clear hcz8_3
         try clear hfz18_0
         try clear hfz18_1
         try clear hfz18_2
         try clear hfz18_3
         try clear hfz20_0
         try clear hfz20_1
         try clear hfz20_2
         try clear hfz20_3
         try clear hfz27_0
         try clear hfz27_1
         try clear hfz27_2
         try clear hfz27_3
         try clear hfz31_0
         try clear hfz31_1
         try clear hfz31_2
         try clear hfz31_3
         try clear hfz35_0
         try clear hfz35_1
         try clear hfz35_2
         try clear hfz35_3
         try clear hfz63_0
         try clear hfz63_1
         try clear hfz63_2
         try clear hfz63_3
         try clear hfz8_0
         try clear hfz8_1
         try clear hfz8_2
         try clear hfz8_3
         try clear p2
         obtain ⟨kq, x95_53, rfl, HA, HJ53, HO_7, HO_12, HO_352002, HO_352003, BK325, BK351, HB⟩ := hcut
         have hl352002_53 := (Kd.R_reads' HO_352002.out).1
         rw [hl352002_53] at HO_352002
         (try simp only [hl352002_53])
         (try simp only [hl352002_53] at BK325)
         (try simp only [hl352002_53] at BK351)
         (try simp only [hl352002_53] at HO_7)
         (try simp only [hl352002_53] at HO_12)
         (try simp only [hl352002_53] at HO_352003)
         have hl352003_53 := (Kd.R_reads' HO_352003.out).1
         rw [hl352003_53] at HO_352003
         (try simp only [hl352003_53])
         (try simp only [hl352003_53] at BK325)
         (try simp only [hl352003_53] at BK351)
         (try simp only [hl352003_53] at HO_7)
         (try simp only [hl352003_53] at HO_12)
         (try simp only [hl352003_53] at HO_352002)
         cases kq with
         | zero => exact absurd HA.out (by simp [laws_FnExactWrongTurn.j1])
         | succ kj53 =>
          have H := HA.out
          clear HA
          simp only [laws_FnExactWrongTurn.j1] at H
          by_cases c74 : x95_53 = true
          ·subst c74
           have H1 : (some false) = some r := by rw [if_pos rfl] at H; exact H
           clear H
           have H := H1
           clear H1
           obtain rfl := Option.some.inj H
           go_wp2
           go_ret
           exact ⟨by first | rfl | (simp [errW_none, errW_some] <;> rfl) | (simp [*, errW_none, errW_some] <;> rfl), by repeat (first | (with_reducible first | exact HB.out | apply bA | apply bN | apply bD | refine bS ?_ GE325.out | refine bS ?_ GE351.out) | exact HB.out)⟩
          ·replace c74 := Bool.eq_false_iff.mpr c74
           subst c74
           have H1 : ((laws_markInt64S.f kj53 t356 1).bind fun bt380 => ((laws_heldInt64S.f kj53 bt380.2 1).bind fun t382 => (if t382 < 0 then (some false) else (if t382 = bt380.1 then ((laws_toGrammar.f kj53 a0_0 a0_1 l0_2 l0_3).bind fun bt383 => ((laws_toInt64S.f kj53 l1).bind fun t391 => ((impl_WrongTurn.f kj53 bt383.1 bt383.2.1 bt383.2.2.1 bt383.2.2.2 t391).bind fun bt394 => (if bt394.1 = t338 then ((laws_eqInt64S.f kj53 bt394.2.1 t339).bind fun t399 => (if t399 = true then (laws_FnExactWrongTurn.j2 kj53 bt380.2 bt380.1 (bt394.2.2 != t342)) else (laws_FnExactWrongTurn.j2 kj53 bt380.2 bt380.1 true))) else (laws_FnExactWrongTurn.j2 kj53 bt380.2 bt380.1 true))))) else (some false))))) = some r := by rw [if_neg (show ¬ (false = true) by decide)] at H; exact H
           clear H
           have H := H1
           clear H1
           replace H := Option.bind_eq_some_iff.mp H
           obtain ⟨⟨t380, t381⟩, A750, H⟩ := H
           replace H : ((laws_heldInt64S.f kj53 t381 1).bind fun t382 => (if t382 < 0 then (some false) else (if t382 = t380 then ((laws_toGrammar.f kj53 a0_0 a0_1 l0_2 l0_3).bind fun bt383 => ((laws_toInt64S.f kj53 l1).bind fun t391 => ((impl_WrongTurn.f kj53 bt383.1 bt383.2.1 bt383.2.2.1 bt383.2.2.2 t391).bind fun bt394 => (if bt394.1 = t338 then ((laws_eqInt64S.f kj53 bt394.2.1 t339).bind fun t399 => (if t399 = true then (laws_FnExactWrongTurn.j2 kj53 t381 t380 (bt394.2.2 != t342)) else (laws_FnExactWrongTurn.j2 kj53 t381 t380 true))) else (laws_FnExactWrongTurn.j2 kj53 t381 t380 true))))) else (some false)))) = some r := H
           have A75 := Aside0.mk A750
           clear A750
           replace H := Option.bind_eq_some_iff.mp H
           obtain ⟨t382, A760, H⟩ := H
           replace H : (if t382 < 0 then (some false) else (if t382 = t380 then ((laws_toGrammar.f kj53 a0_0 a0_1 l0_2 l0_3).bind fun bt383 => ((laws_toInt64S.f kj53 l1).bind fun t391 => ((impl_WrongTurn.f kj53 bt383.1 bt383.2.1 bt383.2.2.1 bt383.2.2.2 t391).bind fun bt394 => (if bt394.1 = t338 then ((laws_eqInt64S.f kj53 bt394.2.1 t339).bind fun t399 => (if t399 = true then (laws_FnExactWrongTurn.j2 kj53 t381 t380 (bt394.2.2 != t342)) else (laws_FnExactWrongTurn.j2 kj53 t381 t380 true))) else (laws_FnExactWrongTurn.j2 kj53 t381 t380 true))))) else (some false))) = some r := H
           have A76 := Aside0.mk A760
           clear A760
           by_cases c77 : t382 < 0
           ·rw [if_pos c77] at H
            have c77b0 : decide (t382 < 0) = true := decide_eq_true c77
            clear c77
            obtain rfl := Option.some.inj H
            obtain ⟨Ao78, co78, eo78⟩ := Kd.R_slice HO_12.out
            subst eo78
            go_wp2_with (first | ((with_reducible refine gC (f := 31) rfl ?_); refine goesL_ (some 98) rfl rfl Try.func31 (by kernel_rfl) rfl #[.slice Ao78 t356.length co78, .int .i64 1] rfl (by (try simp only [List.map_toArray, List.map_cons, List.map_nil]); first | done | rfl | (simp only [List.length_drop, List.length_take]; rfl)) ?_; (with_reducible refine (laws_markInt64S.calls kj53 (fun k_ => some k_ = (.slice Ao78 t356.length co78 : Value).ownBlock) (.slice Ao78 t356.length co78) t356 1 t380 t381 w _ ?side1 ?side2 A75.out).mono ?_); (case side1 => repeat (first | (with_reducible first | exact HB.out | apply bA | apply bN | apply bD | refine bS ?_ GE325.out | refine bS ?_ GE351.out) | exact HB.out)); (case side2 => exact Kd.R_tight rfl HO_12.out); rintro e w79 ⟨rfl, hy0, hb, hkp⟩; refine ⟨_, rfl, ?_⟩; have n0_ := Aside0.mk (rM (ok' := fun k_ => some k_ ≠ (.slice Ao78 t356.length co78 : Value).ownBlock ∧ some k_ ≠ (.slice Ao32 t375.length co32 : Value).ownBlock) (Kd.R_keptB (HO_7.out) hkp (fun k_ hk_ hs_ => (hk_.1) hs_)) (fun k_ hk_ => ⟨hk_.1.1, hk_.1.2⟩)); have n1_ := Aside0.mk (Kd.R_reok rfl hy0 (fun k_ e_ => HO_12.out.1 k_ e_)); have n2_ := Aside0.mk (rM (ok' := fun k_ => some k_ ≠ (v340 : Value).ownBlock ∧ some k_ ≠ (.slice Ao78 t356.length co78 : Value).ownBlock) (Kd.R_keptB (HO_352002.out) hkp (fun k_ hk_ hs_ => (hk_.2) hs_)) (fun k_ hk_ => ⟨hk_.1.1, hk_.1.2⟩)); have n3_ := Aside0.mk (rM (ok' := fun k_ => True) (Kd.R_keptB ((Kd.R_apart' HO_352003.out (Kd.R_typed HO_12.out) (by decide))) hkp (fun k_ hk_ hs_ => (hk_.2) hs_)) (fun k_ hk_ => trivial)); have n4_ := Aside0.mk (blk_kept (by (with_reducible repeat (first | refine kN ?_ _ | refine kD ?_ | refine kA ?_ _)); exact BK325.out) hkp (fun hs_ => (fun e_ => (Kd.R_ne HO_12.out BK325.out (by decide)) e_) hs_)); have n5_ := Aside0.mk (blk_kept (by (with_reducible repeat (first | refine kN ?_ _ | refine kD ?_ | refine kA ?_ _)); exact BK351.out) hkp (fun hs_ => (fun e_ => (Kd.R_ne HO_12.out BK351.out (by decide)) e_) hs_)); have n6_ := Aside0.mk (hb); clear HO_7; clear HO_12; clear HO_352002; clear HO_352003; clear BK325; clear BK351; clear HB; have HO_7 := n0_; have HO_12 := n1_; have HO_352002 := n2_; have HO_352003 := n3_; have BK325 := n4_; have BK351 := n5_; have HB := n6_; clear n0_ n1_ n2_ n3_ n4_ n5_ n6_; (try clear hb); (try clear hkp); (try clear hy0)) | ((with_reducible refine gC (f := 32) rfl ?_); refine goesL_ (some 101) rfl rfl Try.func32 (by kernel_rfl) rfl #[.slice Ao78 t381.length co78, .int .i64 1] rfl (by (try simp only [List.map_toArray, List.map_cons, List.map_nil]); first | done | (rw [show t381.length = t356.length from (Kd.R_reads' HO_12.out).1.symm] <;> rfl) | rfl | (simp only [List.length_drop, List.length_take]; rfl)) ?_; (with_reducible refine (laws_heldInt64S.calls kj53 _ _ t381 1 t382 _ ?side1 ?side2 A76.out).mono ?_); (case side1 => repeat (first | exact (Kd.R_reads' HO_12.out).2.2 | (with_reducible refine cA ?_ _) | (with_reducible refine cN ?_ _) | (with_reducible refine cD ?_))); (case side2 => rw [show t381.length = t356.length from (Kd.R_reads' HO_12.out).1.symm]; exact (Kd.R_reads' HO_12.out).2.1); rintro e w' ⟨rfl, ⟨nd, rfl⟩⟩; refine ⟨_, rfl, ?_⟩))
            go_ret
            exact ⟨by first | rfl | (simp [errW_none, errW_some] <;> rfl) | (simp [*, errW_none, errW_some] <;> rfl), by repeat (first | (with_reducible first | exact HB.out | apply bA | apply bN | apply bD | refine bS ?_ GE325.out | refine bS ?_ GE351.out) | exact HB.out)⟩
           ·rw [if_neg c77] at H
            have c77b0 : decide (t382 < 0) = false := decide_eq_false c77
            clear c77
            by_cases c80 : t382 = t380
            ·rw [if_pos c80] at H
             have c80b0 : (t382 == t380) = true := beq_iff_eq.mpr c80
             have c80b1 : (t382 != t380) = false := bne_eq_false_iff_eq.mpr c80
             clear c80
             replace H := Option.bind_eq_some_iff.mp H
             obtain ⟨⟨t383, t384, t385, t388⟩, A810, H⟩ := H
             replace H : ((laws_toInt64S.f kj53 l1).bind fun t391 => ((impl_WrongTurn.f kj53 t383 t384 t385 t388 t391).bind fun bt394 => (if bt394.1 = t338 then ((laws_eqInt64S.f kj53 bt394.2.1 t339).bind fun t399 => (if t399 = true then (laws_FnExactWrongTurn.j2 kj53 t381 t380 (bt394.2.2 != t342)) else (laws_FnExactWrongTurn.j2 kj53 t381 t380 true))) else (laws_FnExactWrongTurn.j2 kj53 t381 t380 true)))) = some r := H
             have A81 := Aside0.mk A810
             clear A810
             replace H := Option.bind_eq_some_iff.mp H
             obtain ⟨t391, A820, H⟩ := H
             replace H : ((impl_WrongTurn.f kj53 t383 t384 t385 t388 t391).bind fun bt394 => (if bt394.1 = t338 then ((laws_eqInt64S.f kj53 bt394.2.1 t339).bind fun t399 => (if t399 = true then (laws_FnExactWrongTurn.j2 kj53 t381 t380 (bt394.2.2 != t342)) else (laws_FnExactWrongTurn.j2 kj53 t381 t380 true))) else (laws_FnExactWrongTurn.j2 kj53 t381 t380 true))) = some r := H
             have A82 := Aside0.mk A820
             clear A820
             replace H := Option.bind_eq_some_iff.mp H
             obtain ⟨⟨t394, t395, t398⟩, A830, H⟩ := H
             replace H : (if t394 = t338 then ((laws_eqInt64S.f kj53 t395 t339).bind fun t399 => (if t399 = true then (laws_FnExactWrongTurn.j2 kj53 t381 t380 (t398 != t342)) else (laws_FnExactWrongTurn.j2 kj53 t381 t380 true))) else (laws_FnExactWrongTurn.j2 kj53 t381 t380 true)) = some r := H
             have A83 := Aside0.mk A830
             clear A830
             have HC84 := Aside0.mk H
             clear H
             obtain ⟨Ao85, co85, eo85⟩ := Kd.R_slice HO_12.out
             subst eo85
             go_upto_region 31 with (first | ((with_reducible refine gC (f := 31) rfl ?_); refine goesL_ (some 98) rfl rfl Try.func31 (by kernel_rfl) rfl #[.slice Ao85 t356.length co85, .int .i64 1] rfl (by (try simp only [List.map_toArray, List.map_cons, List.map_nil]); first | done | rfl | (simp only [List.length_drop, List.length_take]; rfl)) ?_; (with_reducible refine (laws_markInt64S.calls kj53 (fun k_ => some k_ = (.slice Ao85 t356.length co85 : Value).ownBlock) (.slice Ao85 t356.length co85) t356 1 t380 t381 w _ ?side1 ?side2 A75.out).mono ?_); (case side1 => repeat (first | (with_reducible first | exact HB.out | apply bA | apply bN | apply bD | refine bS ?_ GE325.out | refine bS ?_ GE351.out) | exact HB.out)); (case side2 => exact Kd.R_tight rfl HO_12.out); rintro e w86 ⟨rfl, hy0, hb, hkp⟩; refine ⟨_, rfl, ?_⟩; have n0_ := Aside0.mk (rM (ok' := fun k_ => some k_ ≠ (.slice Ao85 t356.length co85 : Value).ownBlock ∧ some k_ ≠ (.slice Ao32 t375.length co32 : Value).ownBlock) (Kd.R_keptB (HO_7.out) hkp (fun k_ hk_ hs_ => (hk_.1) hs_)) (fun k_ hk_ => ⟨hk_.1.1, hk_.1.2⟩)); have n1_ := Aside0.mk (Kd.R_reok rfl hy0 (fun k_ e_ => HO_12.out.1 k_ e_)); have n2_ := Aside0.mk (rM (ok' := fun k_ => some k_ ≠ (v340 : Value).ownBlock ∧ some k_ ≠ (.slice Ao85 t356.length co85 : Value).ownBlock) (Kd.R_keptB (HO_352002.out) hkp (fun k_ hk_ hs_ => (hk_.2) hs_)) (fun k_ hk_ => ⟨hk_.1.1, hk_.1.2⟩)); have n3_ := Aside0.mk (rM (ok' := fun k_ => True) (Kd.R_keptB ((Kd.R_apart' HO_352003.out (Kd.R_typed HO_12.out) (by decide))) hkp (fun k_ hk_ hs_ => (hk_.2) hs_)) (fun k_ hk_ => trivial)); have n4_ := Aside0.mk (blk_kept (by (with_reducible repeat (first | refine kN ?_ _ | refine kD ?_ | refine kA ?_ _)); exact BK325.out) hkp (fun hs_ => (fun e_ => (Kd.R_ne HO_12.out BK325.out (by decide)) e_) hs_)); have n5_ := Aside0.mk (blk_kept (by (with_reducible repeat (first | refine kN ?_ _ | refine kD ?_ | refine kA ?_ _)); exact BK351.out) hkp (fun hs_ => (fun e_ => (Kd.R_ne HO_12.out BK351.out (by decide)) e_) hs_)); have n6_ := Aside0.mk (hb); clear HO_7; clear HO_12; clear HO_352002; clear HO_352003; clear BK325; clear BK351; clear HB; have HO_7 := n0_; have HO_12 := n1_; have HO_352002 := n2_; have HO_352003 := n3_; have BK325 := n4_; have BK351 := n5_; have HB := n6_; clear n0_ n1_ n2_ n3_ n4_ n5_ n6_; (try clear hb); (try clear hkp); (try clear hy0)) | ((with_reducible refine gC (f := 32) rfl ?_); refine goesL_ (some 101) rfl rfl Try.func32 (by kernel_rfl) rfl #[.slice Ao85 t381.length co85, .int .i64 1] rfl (by (try simp only [List.map_toArray, List.map_cons, List.map_nil]); first | done | (rw [show t381.length = t356.length from (Kd.R_reads' HO_12.out).1.symm] <;> rfl) | rfl | (simp only [List.length_drop, List.length_take]; rfl)) ?_; (with_reducible refine (laws_heldInt64S.calls kj53 _ _ t381 1 t382 _ ?side1 ?side2 A76.out).mono ?_); (case side1 => repeat (first | exact (Kd.R_reads' HO_12.out).2.2 | (with_reducible refine cA ?_ _) | (with_reducible refine cN ?_ _) | (with_reducible refine cD ?_))); (case side2 => rw [show t381.length = t356.length from (Kd.R_reads' HO_12.out).1.symm]; exact (Kd.R_reads' HO_12.out).2.1); rintro e w' ⟨rfl, ⟨nd, rfl⟩⟩; refine ⟨_, rfl, ?_⟩; have hnb87 := NB325_351.out; have hnc87 := NB351_325.out; have hcz88_0 : w86.cell? ⟨gb325, 0, none⟩ = some (.int .i64 a0_0) := (kC BK325.out 0).trans rfl; have hcz88_1 : w86.cell? ⟨gb325, 1, none⟩ = some (.int .i64 a0_1) := (kC BK325.out 1).trans rfl; have hcz88_2 : w86.cell? ⟨gb325, 2, none⟩ = some (.slice A0_2 l0_2.length c0_2) := (kC BK325.out 2).trans rfl; have hcz88_3 : w86.cell? ⟨gb325, 3, none⟩ = some (.slice A0_3 l0_3.length c0_3) := (kC BK325.out 3).trans rfl; have hfz88_0 := blk_frozen BK325.out 0; have hfz88_1 := blk_frozen BK325.out 1; have hfz88_2 := blk_frozen BK325.out 2; have hfz88_3 := blk_frozen BK325.out 3) | ((with_reducible refine gC (f := 17) rfl ?_); refine goesL_ (some 109) rfl rfl Try.func17 (by kernel_rfl) rfl #[.agg #[.int .i64 a0_0, .int .i64 a0_1, .slice A0_2 l0_2.length c0_2, .slice A0_3 l0_3.length c0_3]] rfl (by (try simp only [List.map_toArray, List.map_cons, List.map_nil]); first | done | rfl | (simp only [List.length_drop, List.length_take]; rfl)) ?_; (with_reducible refine (laws_toGrammar.calls kj53 a0_0 a0_1 _ _ l0_2 _ _ l0_3 t383 t384 t385 t388 _ ?side1 ?side2 ?side3 ?side4 A81.out).mono ?_); (case side1 => repeat (first | exact (cB HR0_2.out (by repeat (first | (with_reducible first | exact HB.out | apply bA | apply bN | apply bD | refine bS ?_ GE325.out | refine bS ?_ GE351.out) | exact HB.out))) | (with_reducible refine cA ?_ _) | (with_reducible refine cN ?_ _) | (with_reducible refine cD ?_))); (case side2 => exact HC0_2.out); (case side3 => repeat (first | exact (cB HR0_3.out (by repeat (first | (with_reducible first | exact HB.out | apply bA | apply bN | apply bD | refine bS ?_ GE325.out | refine bS ?_ GE351.out) | exact HB.out))) | (with_reducible refine cA ?_ _) | (with_reducible refine cN ?_ _) | (with_reducible refine cD ?_))); (case side4 => exact HC0_3.out); rintro e w89 ⟨v386, v389, rfl, ho0, ho1, hb⟩; refine ⟨_, rfl, ?_⟩; have n0_ := Aside0.mk (rE (by (with_reducible repeat (first | apply rA | apply rN | apply rD)); exact HO_7.out) (Kd.R_base ho0) hb); have n1_ := Aside0.mk (rE (by (with_reducible repeat (first | apply rA | apply rN | apply rD)); exact HO_12.out) (Kd.R_base ho0) hb); have n2_ := Aside0.mk (rE (by (with_reducible repeat (first | apply rA | apply rN | apply rD)); exact HO_352002.out) (Kd.R_base ho0) hb); have n3_ := Aside0.mk (rE (by (with_reducible repeat (first | apply rA | apply rN | apply rD)); exact HO_352003.out) (Kd.R_base ho1) hb); have n4_ := Aside0.mk (rL (rW (rW (rW ho0 (rT (by (with_reducible repeat (first | apply rA | apply rN | apply rD)); exact HO_7.out))) (rT (by (with_reducible repeat (first | apply rA | apply rN | apply rD)); exact HO_12.out))) (rT (by (with_reducible repeat (first | apply rA | apply rN | apply rD)); exact HO_352002.out))) (bZ (by repeat (first | (with_reducible first | exact HB.out | apply bA | apply bN | apply bD | refine bS ?_ GE325.out | refine bS ?_ GE351.out) | exact HB.out)))); have n5_ := Aside0.mk (rL (rW ho1 (rT (by (with_reducible repeat (first | apply rA | apply rN | apply rD)); exact HO_352003.out))) (bZ (by repeat (first | (with_reducible first | exact HB.out | apply bA | apply bN | apply bD | refine bS ?_ GE325.out | refine bS ?_ GE351.out) | exact HB.out)))); have n6_ := Aside0.mk (kB (g := gb325) (o := .cells #[.int .i64 a0_0, .int .i64 a0_1, .slice A0_2 l0_2.length c0_2, .slice A0_3 l0_3.length c0_3] 25 (0, 0)) (by (with_reducible repeat (first | refine kN ?_ _ | refine kD ?_ | refine kA ?_ _)); exact BK325.out) hb); have n7_ := Aside0.mk (kB (g := gb351) (o := .cells #[.int .i64 t343, .int .i64 t344, .slice Ao32 t375.length co32, .slice Ao33 t376.length co33] 30 (0, 0)) (by (with_reducible repeat (first | refine kN ?_ _ | refine kD ?_ | refine kA ?_ _)); exact BK351.out) hb); have n8_ := Aside0.mk (bP (by repeat (first | (with_reducible first | exact HB.out | apply bA | apply bN | apply bD | refine bS ?_ GE325.out | refine bS ?_ GE351.out) | exact HB.out)) hb); clear HO_7; clear HO_12; clear HO_352002; clear HO_352003; clear BK325; clear BK351; clear HB; have HO_7 := n0_; have HO_12 := n1_; have HO_352002 := n2_; have HO_352003 := n3_; have HO387 := n4_; have HO390 := n5_; have BK325 := n6_; have BK351 := n7_; have HB := n8_; clear n0_ n1_ n2_ n3_ n4_ n5_ n6_ n7_ n8_; (try clear hb); (try clear hb2); (try clear hk); (try clear hi); (try clear ho0); (try clear ho1)) | ((with_reducible refine gC (f := 25) rfl ?_); refine goesL_ (some 111) rfl rfl Try.func25 (by kernel_rfl) rfl #[.slice A1 l1.length c1] rfl (by (try simp only [List.map_toArray, List.map_cons, List.map_nil]); first | done | rfl | (simp only [List.length_drop, List.length_take]; rfl)) ?_; (with_reducible refine (laws_toInt64S.calls kj53 _ _ l1 t391 _ ?side1 ?side2 A82.out).mono ?_); (case side1 => repeat (first | exact (cB HR1.out HB.out) | (with_reducible refine cA ?_ _) | (with_reducible refine cN ?_ _) | (with_reducible refine cD ?_))); (case side2 => exact HC1.out); rintro e w90 ⟨v392, rfl, ho0, hb⟩; refine ⟨_, rfl, ?_⟩; have n0_ := Aside0.mk (rE (by (with_reducible repeat (first | apply rA | apply rN | apply rD)); exact HO_7.out) (Kd.R_base ho0) hb); have n1_ := Aside0.mk (rE (by (with_reducible repeat (first | apply rA | apply rN | apply rD)); exact HO_12.out) (Kd.R_base ho0) hb); have n2_ := Aside0.mk (rE (by (with_reducible repeat (first | apply rA | apply rN | apply rD)); exact HO_352002.out) (Kd.R_base ho0) hb); have n3_ := Aside0.mk (rB (by (with_reducible repeat (first | apply rA | apply rN | apply rD)); exact HO_352003.out) hb); have n4_ := Aside0.mk (rE (by (with_reducible repeat (first | apply rA | apply rN | apply rD)); exact HO387.out) (Kd.R_base ho0) hb); have n5_ := Aside0.mk (rB (by (with_reducible repeat (first | apply rA | apply rN | apply rD)); exact HO390.out) hb); have n6_ := Aside0.mk (rL (rW (rW (rW (rW ho0 (rT (by (with_reducible repeat (first | apply rA | apply rN | apply rD)); exact HO_7.out))) (rT (by (with_reducible repeat (first | apply rA | apply rN | apply rD)); exact HO_12.out))) (rT (by (with_reducible repeat (first | apply rA | apply rN | apply rD)); exact HO_352002.out))) (rT (by (with_reducible repeat (first | apply rA | apply rN | apply rD)); exact HO387.out))) (bZ (by repeat (first | (with_reducible first | exact HB.out | apply bA | apply bN | apply bD | refine bS ?_ GE325.out | refine bS ?_ GE351.out) | exact HB.out)))); have n7_ := Aside0.mk (kB (g := gb325) (o := .cells #[.int .i64 a0_0, .int .i64 a0_1, .slice A0_2 l0_2.length c0_2, .slice A0_3 l0_3.length c0_3] 25 (0, 0)) (by (with_reducible repeat (first | refine kN ?_ _ | refine kD ?_ | refine kA ?_ _)); exact BK325.out) hb); have n8_ := Aside0.mk (kB (g := gb351) (o := .cells #[.int .i64 t343, .int .i64 t344, .slice Ao32 t375.length co32, .slice Ao33 t376.length co33] 30 (0, 0)) (by (with_reducible repeat (first | refine kN ?_ _ | refine kD ?_ | refine kA ?_ _)); exact BK351.out) hb); have n9_ := Aside0.mk (bP (by repeat (first | (with_reducible first | exact HB.out | apply bA | apply bN | apply bD | refine bS ?_ GE325.out | refine bS ?_ GE351.out) | exact HB.out)) hb); clear HO_7; clear HO_12; clear HO_352002; clear HO_352003; clear HO387; clear HO390; clear BK325; clear BK351; clear HB; have HO_7 := n0_; have HO_12 := n1_; have HO_352002 := n2_; have HO_352003 := n3_; have HO387 := n4_; have HO390 := n5_; have HO393 := n6_; have BK325 := n7_; have BK351 := n8_; have HB := n9_; clear n0_ n1_ n2_ n3_ n4_ n5_ n6_ n7_ n8_ n9_; (try clear hb); (try clear hb2); (try clear hk); (try clear hi); (try clear ho0); obtain ⟨Ao91, co91, eo91⟩ := Kd.R_slice HO387.out; subst eo91; obtain ⟨Ao92, co92, eo92⟩ := Kd.R_slice HO390.out; subst eo92; obtain ⟨Ao93, co93, eo93⟩ := Kd.R_slice HO393.out; subst eo93) | ((with_reducible refine gC (f := 36) rfl ?_); refine goesL_ (some 112) rfl rfl Try.func36 (by kernel_rfl) rfl #[.agg #[.int .i64 t383, .int .i64 t384, .slice Ao91 t385.length co91, .slice Ao92 t388.length co92], .slice Ao93 t391.length co93] rfl (by (try simp only [List.map_toArray, List.map_cons, List.map_nil]); first | done | rfl | (simp only [List.length_drop, List.length_take]; rfl)) ?_; (with_reducible refine (impl_WrongTurn.calls kj53 t383 t384 _ _ t385 _ _ t388 _ _ t391 t394 t395 t398 _ ?side1 ?side2 ?side3 ?side4 ?side5 ?side6 A83.out).mono ?_); (case side1 => repeat (first | exact (Kd.R_reads' HO387.out).2.2 | (with_reducible refine cA ?_ _) | (with_reducible refine cN ?_ _) | (with_reducible refine cD ?_))); (case side2 => exact (Kd.R_reads' HO387.out).2.1); (case side3 => repeat (first | exact (Kd.R_reads' HO390.out).2.2 | (with_reducible refine cA ?_ _) | (with_reducible refine cN ?_ _) | (with_reducible refine cD ?_))); (case side4 => exact (Kd.R_reads' HO390.out).2.1); (case side5 => repeat (first | exact (Kd.R_reads' HO393.out).2.2 | (with_reducible refine cA ?_ _) | (with_reducible refine cN ?_ _) | (with_reducible refine cD ?_))); (case side6 => exact (Kd.R_reads' HO393.out).2.1); rintro e w94 ⟨v396, rfl, ho0, hb⟩; refine ⟨_, rfl, ?_⟩; have n0_ := Aside0.mk (rE (by (with_reducible repeat (first | apply rA | apply rN | apply rD)); exact HO_7.out) (Kd.R_base ho0) hb); have n1_ := Aside0.mk (rE (by (with_reducible repeat (first | apply rA | apply rN | apply rD)); exact HO_12.out) (Kd.R_base ho0) hb); have n2_ := Aside0.mk (rE (by (with_reducible repeat (first | apply rA | apply rN | apply rD)); exact HO_352002.out) (Kd.R_base ho0) hb); have n3_ := Aside0.mk (rB (by (with_reducible repeat (first | apply rA | apply rN | apply rD)); exact HO_352003.out) hb); have n4_ := Aside0.mk (rE (by (with_reducible repeat (first | apply rA | apply rN | apply rD)); exact HO387.out) (Kd.R_base ho0) hb); have n5_ := Aside0.mk (rB (by (with_reducible repeat (first | apply rA | apply rN | apply rD)); exact HO390.out) hb); have n6_ := Aside0.mk (rE (by (with_reducible repeat (first | apply rA | apply rN | apply rD)); exact HO393.out) (Kd.R_base ho0) hb); have n7_ := Aside0.mk (rL (rW (rW (rW (rW (rW ho0 (rT (by (with_reducible repeat (first | apply rA | apply rN | apply rD)); exact HO_7.out))) (rT (by (with_reducible repeat (first | apply rA | apply rN | apply rD)); exact HO_12.out))) (rT (by (with_reducible repeat (first | apply rA | apply rN | apply rD)); exact HO_352002.out))) (rT (by (with_reducible repeat (first | apply rA | apply rN | apply rD)); exact HO387.out))) (rT (by (with_reducible repeat (first | apply rA | apply rN | apply rD)); exact HO393.out))) (bZ (by repeat (first | (with_reducible first | exact HB.out | apply bA | apply bN | apply bD | refine bS ?_ GE325.out | refine bS ?_ GE351.out) | exact HB.out)))); have n8_ := Aside0.mk (kB (g := gb325) (o := .cells #[.int .i64 a0_0, .int .i64 a0_1, .slice A0_2 l0_2.length c0_2, .slice A0_3 l0_3.length c0_3] 25 (0, 0)) (by (with_reducible repeat (first | refine kN ?_ _ | refine kD ?_ | refine kA ?_ _)); exact BK325.out) hb); have n9_ := Aside0.mk (kB (g := gb351) (o := .cells #[.int .i64 t343, .int .i64 t344, .slice Ao32 t375.length co32, .slice Ao33 t376.length co33] 30 (0, 0)) (by (with_reducible repeat (first | refine kN ?_ _ | refine kD ?_ | refine kA ?_ _)); exact BK351.out) hb); have n10_ := Aside0.mk (bP (by repeat (first | (with_reducible first | exact HB.out | apply bA | apply bN | apply bD | refine bS ?_ GE325.out | refine bS ?_ GE351.out) | exact HB.out)) hb); clear HO_7; clear HO_12; clear HO_352002; clear HO_352003; clear HO387; clear HO390; clear HO393; clear BK325; clear BK351; clear HB; have HO_7 := n0_; have HO_12 := n1_; have HO_352002 := n2_; have HO_352003 := n3_; have HO387 := n4_; have HO390 := n5_; have HO393 := n6_; have HO397 := n7_; have BK325 := n8_; have BK351 := n9_; have HB := n10_; clear n0_ n1_ n2_ n3_ n4_ n5_ n6_ n7_ n8_ n9_ n10_; (try clear hb); (try clear hb2); (try clear hk); (try clear hi); (try clear ho0)))
             (try simp only [Act.put, sI, sZ, sS])
             go_cut [129] (fun v129 wc => ∃ (kq : Nat) (x129_83 : Bool), v129 = .bool x129_83 ∧ Aside0 (laws_FnExactWrongTurn.j2 kq t381 t380 x129_83 = some r) ∧ Aside0 (kq ≤ kj53) ∧ Aside0 (Kd.R (Kd.int .i64) 2 wc w.heap.size (fun k_ => some k_ ≠ ((.slice Ao32 t375.length co32) : Value).ownBlock) (.slice Ao85 t356.length co85) t381) ∧ Aside0 (Kd.R (Kd.int .i64) 2 wc w.heap.size (fun k_ => some k_ ≠ ((.slice Ao85 t356.length co85) : Value).ownBlock) (.slice Ao32 t375.length co32) t375) ∧ Aside0 (Kd.R k67 67 wc w.heap.size (fun _ => True) (.slice Ao33 t376.length co33) t376) ∧ Aside0 (wc.heap[gb325]? = some (.cells #[.int .i64 a0_0, .int .i64 a0_1, (.slice A0_2 l0_2.length c0_2), (.slice A0_3 l0_3.length c0_3)] 25 (0, 0))) ∧ Aside0 (wc.heap[gb351]? = some (.cells #[.int .i64 t343, .int .i64 t344, (.slice Ao32 t375.length co32), (.slice Ao33 t376.length co33)] 30 (0, 0))) ∧ Aside0 (Below w.heap.size w wc))
             case first =>
              have H := HC84.out
              clear HC84
              by_cases c95 : t394 = t338
              ·rw [if_pos c95] at H
               have c95b0 : (t394 == t338) = true := beq_iff_eq.mpr c95
               have c95b1 : (t394 != t338) = false := bne_eq_false_iff_eq.mpr c95
               clear c95
               (first | rw [c95b0] | (simp only [iW, jW]; rw [c95b0]) | skip)
               replace H := Option.bind_eq_some_iff.mp H
               obtain ⟨t399, A960, H⟩ := H
               replace H : (if t399 = true then (laws_FnExactWrongTurn.j2 kj53 t381 t380 (t398 != t342)) else (laws_FnExactWrongTurn.j2 kj53 t381 t380 true)) = some r := H
               have A96 := Aside0.mk A960
               clear A960
               by_cases c97 : t399 = true
               ·subst c97
                have H1 : (laws_FnExactWrongTurn.j2 kj53 t381 t380 (t398 != t342)) = some r := by rw [if_pos rfl] at H; exact H
                clear H
                have H := H1
                clear H1
                have H' := Aside0.mk H
                clear H
                obtain ⟨Ao98, co98, eo98⟩ := Kd.R_slice HO397.out
                subst eo98
                obtain ⟨Ao99, co99, eo99⟩ := Kd.R_slice HO_7.out
                subst eo99
                go_wp2_with (first | (go_at_call 27; (with_reducible refine (laws_eqInt64S.calls kj53 _ _ t395 _ _ t339 true _ ?side1 ?side2 ?side3 ?side4 A96.out).mono ?_); (case side1 => repeat (first | exact (Kd.R_reads' HO397.out).2.2 | (with_reducible refine cA ?_ _) | (with_reducible refine cN ?_ _) | (with_reducible refine cD ?_))); (case side2 => exact (Kd.R_reads' HO397.out).2.1); (case side3 => repeat (first | exact (Kd.R_reads' HO_7.out).2.2 | (with_reducible refine cA ?_ _) | (with_reducible refine cN ?_ _) | (with_reducible refine cD ?_))); (case side4 => exact (Kd.R_reads' HO_7.out).2.1); rintro e w' ⟨rfl, ⟨nd, rfl⟩⟩))
                go_meet
                case rel => exact ⟨_, ((t398 != t342)), (by first | rfl | (simp; done) | (simp [*]; done)), H', ⟨by have := HJ15.out; have := HJ53.out; first | omega | exact Nat.le_refl _⟩, ⟨by (try simp only [hl352002_53]); (try simp only [hl352003_53]); (with_reducible repeat (first | apply rA | apply rN | apply rD)); exact rM HO_12.out (fun _ hk => hk.1.1.1.2)⟩, ⟨by (try simp only [hl352002_53]); (try simp only [hl352003_53]); (with_reducible repeat (first | apply rA | apply rN | apply rD)); exact rM HO_352002.out (fun _ hk => hk.1.1.1.2)⟩, ⟨by (try simp only [hl352002_53]); (try simp only [hl352003_53]); (with_reducible repeat (first | apply rA | apply rN | apply rD)); exact rM HO_352003.out (fun _ hk => trivial)⟩, ⟨by (try simp only [hl352002_53]); (try simp only [hl352003_53]); (with_reducible repeat (first | refine kN ?_ _ | refine kD ?_ | refine kA ?_ _)); exact BK325.out⟩, ⟨by (try simp only [hl352002_53]); (try simp only [hl352003_53]); (with_reducible repeat (first | refine kN ?_ _ | refine kD ?_ | refine kA ?_ _)); exact BK351.out⟩, ⟨by repeat (first | (with_reducible first | exact HB.out | apply bA | apply bN | apply bD | refine bS ?_ GE325.out | refine bS ?_ GE351.out) | exact HB.out)⟩⟩
               ·replace c97 := Bool.eq_false_iff.mpr c97
                subst c97
                have H1 : (laws_FnExactWrongTurn.j2 kj53 t381 t380 true) = some r := by rw [if_neg (show ¬ (false = true) by decide)] at H; exact H
                clear H
                have H := H1
                clear H1
                have H' := Aside0.mk H
                clear H
                obtain ⟨Ao100, co100, eo100⟩ := Kd.R_slice HO397.out
                subst eo100
                obtain ⟨Ao101, co101, eo101⟩ := Kd.R_slice HO_7.out
                subst eo101
                go_wp2_with (first | (go_at_call 27; (with_reducible refine (laws_eqInt64S.calls kj53 _ _ t395 _ _ t339 false _ ?side1 ?side2 ?side3 ?side4 A96.out).mono ?_); (case side1 => repeat (first | exact (Kd.R_reads' HO397.out).2.2 | (with_reducible refine cA ?_ _) | (with_reducible refine cN ?_ _) | (with_reducible refine cD ?_))); (case side2 => exact (Kd.R_reads' HO397.out).2.1); (case side3 => repeat (first | exact (Kd.R_reads' HO_7.out).2.2 | (with_reducible refine cA ?_ _) | (with_reducible refine cN ?_ _) | (with_reducible refine cD ?_))); (case side4 => exact (Kd.R_reads' HO_7.out).2.1); rintro e w' ⟨rfl, ⟨nd, rfl⟩⟩))
                go_meet
                case rel => exact ⟨_, (true), (by first | rfl | (simp; done) | (simp [*]; done)), H', ⟨by have := HJ15.out; have := HJ53.out; first | omega | exact Nat.le_refl _⟩, ⟨by (try simp only [hl352002_53]); (try simp only [hl352003_53]); (with_reducible repeat (first | apply rA | apply rN | apply rD)); exact rM HO_12.out (fun _ hk => hk.1.1.1.2)⟩, ⟨by (try simp only [hl352002_53]); (try simp only [hl352003_53]); (with_reducible repeat (first | apply rA | apply rN | apply rD)); exact rM HO_352002.out (fun _ hk => hk.1.1.1.2)⟩, ⟨by (try simp only [hl352002_53]); (try simp only [hl352003_53]); (with_reducible repeat (first | apply rA | apply rN | apply rD)); exact rM HO_352003.out (fun _ hk => trivial)⟩, ⟨by (try simp only [hl352002_53]); (try simp only [hl352003_53]); (with_reducible repeat (first | refine kN ?_ _ | refine kD ?_ | refine kA ?_ _)); exact BK325.out⟩, ⟨by (try simp only [hl352002_53]); (try simp only [hl352003_53]); (with_reducible repeat (first | refine kN ?_ _ | refine kD ?_ | refine kA ?_ _)); exact BK351.out⟩, ⟨by repeat (first | (with_reducible first | exact HB.out | apply bA | apply bN | apply bD | refine bS ?_ GE325.out | refine bS ?_ GE351.out) | exact HB.out)⟩⟩
              ·rw [if_neg c95] at H
               have c95b0 : (t394 == t338) = false := beq_eq_false_iff_ne.mpr c95
               have c95b1 : (t394 != t338) = true := bne_iff_ne.mpr c95
               (first | rw [c95b0] | (simp only [iW, jW]; rw [c95b0]) | skip)
               have H' := Aside0.mk H
               clear H
               go_wp2
               go_meet
               case rel => exact ⟨_, (true), (by first | rfl | (simp; done) | (simp [*]; done)), H', ⟨by have := HJ15.out; have := HJ53.out; first | omega | exact Nat.le_refl _⟩, ⟨by (try simp only [hl352002_53]); (try simp only [hl352003_53]); (with_reducible repeat (first | apply rA | apply rN | apply rD)); exact rM HO_12.out (fun _ hk => hk.1.1.1.2)⟩, ⟨by (try simp only [hl352002_53]); (try simp only [hl352003_53]); (with_reducible repeat (first | apply rA | apply rN | apply rD)); exact rM HO_352002.out (fun _ hk => hk.1.1.1.2)⟩, ⟨by (try simp only [hl352002_53]); (try simp only [hl352003_53]); (with_reducible repeat (first | apply rA | apply rN | apply rD)); exact rM HO_352003.out (fun _ hk => trivial)⟩, ⟨by (try simp only [hl352002_53]); (try simp only [hl352003_53]); (with_reducible repeat (first | refine kN ?_ _ | refine kD ?_ | refine kA ?_ _)); exact BK325.out⟩, ⟨by (try simp only [hl352002_53]); (try simp only [hl352003_53]); (with_reducible repeat (first | refine kN ?_ _ | refine kD ?_ | refine kA ?_ _)); exact BK351.out⟩, ⟨by repeat (first | (with_reducible first | exact HB.out | apply bA | apply bN | apply bD | refine bS ?_ GE325.out | refine bS ?_ GE351.out) | exact HB.out)⟩⟩
             case rest =>
              clear HC84
              try clear c1
              try clear c2
              try clear p2
              try clear c3
              try clear c3b0
              try clear c3b1
              try clear c4
              try clear c5
              try clear c6
              try clear c6b0
              try clear c7
              try clear c8
              try clear c9
              try clear c15
              try clear c17
              try clear c19
              try clear c25
              try clear c27
              try clear c30
              try clear c31
              try clear c32
              try clear c35
              try clear c36
              try clear c38
              try clear c38b0
              try clear c38b1
              try clear c40
              try clear c45
              try clear c48
              try clear c51
              try clear c62
              try clear c66
              try clear c66b0
              try clear c67
              try clear c67b0
              try clear c67b1
              try clear c69
              try clear c74
              try clear c77
              try clear c77b0
              try clear c80
              try clear c80b0
              try clear c80b1
              try clear c87
              try clear c95
              try clear c95b0
              try clear c95b1
              try clear c97
              try clear hcz18_0
              try clear hcz18_1
              try clear hcz18_2
              try clear hcz18_3
              try clear hcz20_0
              try clear hcz20_1
              try clear hcz20_2
              try clear hcz20_3
              try clear hcz27_0
              try clear hcz27_1
              try clear hcz27_2
              try clear hcz27_3
              try clear hcz31_0
              try clear hcz31_1
              try clear hcz31_2
              try clear hcz31_3
              try clear hcz35_0
              try clear hcz35_1
              try clear hcz35_2
              try clear hcz35_3
              try clear hcz63_0
              try clear hcz63_1
              try clear hcz63_2
              try clear hcz63_3
              try clear hcz88_0
              try clear hcz88_1
              try clear hcz88_2
              try clear hcz88_3
              try clear hcz8_0
              try clear hcz8_1
              try clear hcz8_2
              try clear hcz8_3
              try clear hfz18_0
              try clear hfz18_1
              try clear hfz18_2
              try clear hfz18_3
              try clear hfz20_0
              try clear hfz20_1
              try clear hfz20_2
              try clear hfz20_3
              try clear hfz27_0
              try clear hfz27_1
              try clear hfz27_2
              try clear hfz27_3
              try clear hfz31_0
              try clear hfz31_1
              try clear hfz31_2
              try clear hfz31_3
              try clear hfz35_0
              try clear hfz35_1
              try clear hfz35_2
              try clear hfz35_3
              try clear hfz63_0
              try clear hfz63_1
              try clear hfz63_2
              try clear hfz63_3
              try clear hfz88_0
              try clear hfz88_1
              try clear hfz88_2
              try clear hfz88_3
              try clear hfz8_0
              try clear hfz8_1
              try clear hfz8_2
              try clear hfz8_3
              try clear p2
              obtain ⟨kq, x129_83, rfl, HA, HJ83, HO_12, HO_352002, HO_352003, BK325, BK351, HB⟩ := hcut
              have hl12_83 := (Kd.R_reads' HO_12.out).1
              rw [hl12_83] at HO_12
              (try simp only [hl12_83])
              (try simp only [hl12_83] at BK325)
              (try simp only [hl12_83] at BK351)
              (try simp only [hl12_83] at HO_352002)
              (try simp only [hl12_83] at HO_352003)
              cases kq with
              | zero => exact absurd HA.out (by simp [laws_FnExactWrongTurn.j2])
              | succ kj83 =>
               have H := HA.out
               clear HA
               simp only [laws_FnExactWrongTurn.j2] at H
               by_cases c102 : x129_83 = true
               ·subst c102
                have H1 : (some false) = some r := by rw [if_pos rfl] at H; exact H
                clear H
                have H := H1
                clear H1
                obtain rfl := Option.some.inj H
                go_wp2
                go_ret
                exact ⟨by first | rfl | (simp [errW_none, errW_some] <;> rfl) | (simp [*, errW_none, errW_some] <;> rfl), by repeat (first | (with_reducible first | exact HB.out | apply bA | apply bN | apply bD | refine bS ?_ GE325.out | refine bS ?_ GE351.out) | exact HB.out)⟩
               ·replace c102 := Bool.eq_false_iff.mpr c102
                subst c102
                have H1 : ((laws_heldInt64S.f kj83 t381 1).bind fun t400 => (if t400 < 0 then (some false) else (if t400 = t380 then (some true) else (some false)))) = some r := by rw [if_neg (show ¬ (false = true) by decide)] at H; exact H
                clear H
                have H := H1
                clear H1
                replace H := Option.bind_eq_some_iff.mp H
                obtain ⟨t400, A1030, H⟩ := H
                replace H : (if t400 < 0 then (some false) else (if t400 = t380 then (some true) else (some false))) = some r := H
                have A103 := Aside0.mk A1030
                clear A1030
                by_cases c104 : t400 < 0
                ·rw [if_pos c104] at H
                 have c104b0 : decide (t400 < 0) = true := decide_eq_true c104
                 clear c104
                 obtain rfl := Option.some.inj H
                 go_wp2_with (first | ((with_reducible refine gC (f := 32) rfl ?_); refine goesL_ (some 132) rfl rfl Try.func32 (by kernel_rfl) rfl #[.slice Ao85 t381.length co85, .int .i64 1] rfl (by (try simp only [List.map_toArray, List.map_cons, List.map_nil]); first | done | rfl | (simp only [List.length_drop, List.length_take]; rfl)) ?_; (with_reducible refine (laws_heldInt64S.calls kj83 _ _ t381 1 t400 _ ?side1 ?side2 A103.out).mono ?_); (case side1 => repeat (first | exact (Kd.R_reads' HO_12.out).2.2 | (with_reducible refine cA ?_ _) | (with_reducible refine cN ?_ _) | (with_reducible refine cD ?_))); (case side2 => exact (Kd.R_reads' HO_12.out).2.1); rintro e w' ⟨rfl, ⟨nd, rfl⟩⟩; refine ⟨_, rfl, ?_⟩))
                 go_ret
                 exact ⟨by first | rfl | (simp [errW_none, errW_some] <;> rfl) | (simp [*, errW_none, errW_some] <;> rfl), by repeat (first | (with_reducible first | exact HB.out | apply bA | apply bN | apply bD | refine bS ?_ GE325.out | refine bS ?_ GE351.out) | exact HB.out)⟩
                ·rw [if_neg c104] at H
                 have c104b0 : decide (t400 < 0) = false := decide_eq_false c104
                 clear c104
                 by_cases c105 : t400 = t380
                 ·rw [if_pos c105] at H
                  have c105b0 : (t400 == t380) = true := beq_iff_eq.mpr c105
                  have c105b1 : (t400 != t380) = false := bne_eq_false_iff_eq.mpr c105
                  clear c105
                  obtain rfl := Option.some.inj H
                  go_wp2_with (first | ((with_reducible refine gC (f := 32) rfl ?_); refine goesL_ (some 132) rfl rfl Try.func32 (by kernel_rfl) rfl #[.slice Ao85 t381.length co85, .int .i64 1] rfl (by (try simp only [List.map_toArray, List.map_cons, List.map_nil]); first | done | rfl | (simp only [List.length_drop, List.length_take]; rfl)) ?_; (with_reducible refine (laws_heldInt64S.calls kj83 _ _ t381 1 t400 _ ?side1 ?side2 A103.out).mono ?_); (case side1 => repeat (first | exact (Kd.R_reads' HO_12.out).2.2 | (with_reducible refine cA ?_ _) | (with_reducible refine cN ?_ _) | (with_reducible refine cD ?_))); (case side2 => exact (Kd.R_reads' HO_12.out).2.1); rintro e w' ⟨rfl, ⟨nd, rfl⟩⟩; refine ⟨_, rfl, ?_⟩))
                  go_ret
                  exact ⟨by first | rfl | (simp [errW_none, errW_some] <;> rfl) | (simp [*, errW_none, errW_some] <;> rfl), by repeat (first | (with_reducible first | exact HB.out | apply bA | apply bN | apply bD | refine bS ?_ GE325.out | refine bS ?_ GE351.out) | exact HB.out)⟩
                 ·rw [if_neg c105] at H
                  have c105b0 : (t400 == t380) = false := beq_eq_false_iff_ne.mpr c105
                  have c105b1 : (t400 != t380) = true := bne_iff_ne.mpr c105
                  obtain rfl := Option.some.inj H
                  go_wp2_with (first | ((with_reducible refine gC (f := 32) rfl ?_); refine goesL_ (some 132) rfl rfl Try.func32 (by kernel_rfl) rfl #[.slice Ao85 t381.length co85, .int .i64 1] rfl (by (try simp only [List.map_toArray, List.map_cons, List.map_nil]); first | done | rfl | (simp only [List.length_drop, List.length_take]; rfl)) ?_; (with_reducible refine (laws_heldInt64S.calls kj83 _ _ t381 1 t400 _ ?side1 ?side2 A103.out).mono ?_); (case side1 => repeat (first | exact (Kd.R_reads' HO_12.out).2.2 | (with_reducible refine cA ?_ _) | (with_reducible refine cN ?_ _) | (with_reducible refine cD ?_))); (case side2 => exact (Kd.R_reads' HO_12.out).2.1); rintro e w' ⟨rfl, ⟨nd, rfl⟩⟩; refine ⟨_, rfl, ?_⟩))
                  go_ret
                  exact ⟨by first | rfl | (simp [errW_none, errW_some] <;> rfl) | (simp [*, errW_none, errW_some] <;> rfl), by repeat (first | (with_reducible first | exact HB.out | apply bA | apply bN | apply bD | refine bS ?_ GE325.out | refine bS ?_ GE351.out) | exact HB.out)⟩
            ·rw [if_neg c80] at H
             have c80b0 : (t382 == t380) = false := beq_eq_false_iff_ne.mpr c80
             have c80b1 : (t382 != t380) = true := bne_iff_ne.mpr c80
             obtain rfl := Option.some.inj H
             obtain ⟨Ao106, co106, eo106⟩ := Kd.R_slice HO_12.out
             subst eo106
             go_wp2_with (first | ((with_reducible refine gC (f := 31) rfl ?_); refine goesL_ (some 98) rfl rfl Try.func31 (by kernel_rfl) rfl #[.slice Ao106 t356.length co106, .int .i64 1] rfl (by (try simp only [List.map_toArray, List.map_cons, List.map_nil]); first | done | rfl | (simp only [List.length_drop, List.length_take]; rfl)) ?_; (with_reducible refine (laws_markInt64S.calls kj53 (fun k_ => some k_ = (.slice Ao106 t356.length co106 : Value).ownBlock) (.slice Ao106 t356.length co106) t356 1 t380 t381 w _ ?side1 ?side2 A75.out).mono ?_); (case side1 => repeat (first | (with_reducible first | exact HB.out | apply bA | apply bN | apply bD | refine bS ?_ GE325.out | refine bS ?_ GE351.out) | exact HB.out)); (case side2 => exact Kd.R_tight rfl HO_12.out); rintro e w107 ⟨rfl, hy0, hb, hkp⟩; refine ⟨_, rfl, ?_⟩; have n0_ := Aside0.mk (rM (ok' := fun k_ => some k_ ≠ (.slice Ao106 t356.length co106 : Value).ownBlock ∧ some k_ ≠ (.slice Ao32 t375.length co32 : Value).ownBlock) (Kd.R_keptB (HO_7.out) hkp (fun k_ hk_ hs_ => (hk_.1) hs_)) (fun k_ hk_ => ⟨hk_.1.1, hk_.1.2⟩)); have n1_ := Aside0.mk (Kd.R_reok rfl hy0 (fun k_ e_ => HO_12.out.1 k_ e_)); have n2_ := Aside0.mk (rM (ok' := fun k_ => some k_ ≠ (v340 : Value).ownBlock ∧ some k_ ≠ (.slice Ao106 t356.length co106 : Value).ownBlock) (Kd.R_keptB (HO_352002.out) hkp (fun k_ hk_ hs_ => (hk_.2) hs_)) (fun k_ hk_ => ⟨hk_.1.1, hk_.1.2⟩)); have n3_ := Aside0.mk (rM (ok' := fun k_ => True) (Kd.R_keptB ((Kd.R_apart' HO_352003.out (Kd.R_typed HO_12.out) (by decide))) hkp (fun k_ hk_ hs_ => (hk_.2) hs_)) (fun k_ hk_ => trivial)); have n4_ := Aside0.mk (blk_kept (by (with_reducible repeat (first | refine kN ?_ _ | refine kD ?_ | refine kA ?_ _)); exact BK325.out) hkp (fun hs_ => (fun e_ => (Kd.R_ne HO_12.out BK325.out (by decide)) e_) hs_)); have n5_ := Aside0.mk (blk_kept (by (with_reducible repeat (first | refine kN ?_ _ | refine kD ?_ | refine kA ?_ _)); exact BK351.out) hkp (fun hs_ => (fun e_ => (Kd.R_ne HO_12.out BK351.out (by decide)) e_) hs_)); have n6_ := Aside0.mk (hb); clear HO_7; clear HO_12; clear HO_352002; clear HO_352003; clear BK325; clear BK351; clear HB; have HO_7 := n0_; have HO_12 := n1_; have HO_352002 := n2_; have HO_352003 := n3_; have BK325 := n4_; have BK351 := n5_; have HB := n6_; clear n0_ n1_ n2_ n3_ n4_ n5_ n6_; (try clear hb); (try clear hkp); (try clear hy0)) | ((with_reducible refine gC (f := 32) rfl ?_); refine goesL_ (some 101) rfl rfl Try.func32 (by kernel_rfl) rfl #[.slice Ao106 t381.length co106, .int .i64 1] rfl (by (try simp only [List.map_toArray, List.map_cons, List.map_nil]); first | done | (rw [show t381.length = t356.length from (Kd.R_reads' HO_12.out).1.symm] <;> rfl) | rfl | (simp only [List.length_drop, List.length_take]; rfl)) ?_; (with_reducible refine (laws_heldInt64S.calls kj53 _ _ t381 1 t382 _ ?side1 ?side2 A76.out).mono ?_); (case side1 => repeat (first | exact (Kd.R_reads' HO_12.out).2.2 | (with_reducible refine cA ?_ _) | (with_reducible refine cN ?_ _) | (with_reducible refine cD ?_))); (case side2 => rw [show t381.length = t356.length from (Kd.R_reads' HO_12.out).1.symm]; exact (Kd.R_reads' HO_12.out).2.1); rintro e w' ⟨rfl, ⟨nd, rfl⟩⟩; refine ⟨_, rfl, ?_⟩))
             go_ret
             exact ⟨by first | rfl | (simp [errW_none, errW_some] <;> rfl) | (simp [*, errW_none, errW_some] <;> rfl), by repeat (first | (with_reducible first | exact HB.out | apply bA | apply bN | apply bD | refine bS ?_ GE325.out | refine bS ?_ GE351.out) | exact HB.out)⟩
       ·replace c51 := Bool.eq_false_iff.mpr c51
        subst c51
        have H1 : (some false) = some r := by rw [if_neg (show ¬ (false = true) by decide)] at H; exact H
        clear H
        have H := H1
        clear H1
        obtain rfl := Option.some.inj H
        try go_wp2
        have n0_ := Aside0.mk (rD HO_7.out)
        have n1_ := Aside0.mk (rD HO_10.out)
        have n2_ := Aside0.mk (rD HO_12.out)
        have n3_ := Aside0.mk (rD HO_352002.out)
        have n4_ := Aside0.mk (rD HO_352003.out)
        have n5_ := Aside0.mk (kD BK325.out)
        have n6_ := Aside0.mk (kD BK351.out)
        have n7_ := Aside0.mk (bD HB.out)
        clear HO_7
        clear HO_10
        clear HO_12
        clear HO_352002
        clear HO_352003
        clear BK325
        clear BK351
        clear HB
        have HO_7 := n0_
        have HO_10 := n1_
        have HO_12 := n2_
        have HO_352002 := n3_
        have HO_352003 := n4_
        have BK325 := n5_
        have BK351 := n6_
        have HB := n7_
        clear n0_ n1_ n2_ n3_ n4_ n5_ n6_ n7_
        refine start_ (n := 5) (S := fun w' => w'.cell? ⟨gb351, 0, none⟩ = some (.int .i64 t343) ∧ w'.cell? ⟨gb351, 1, none⟩ = some (.int .i64 t344) ∧ w'.cell? ⟨gb351, 2, none⟩ = some (.slice Ao32 t345.length co32) ∧ w'.cell? ⟨gb351, 3, none⟩ = some (.slice Ao33 t348.length co33) ∧ w'.cell? ⟨gb325, 0, none⟩ = some (.int .i64 a0_0) ∧ w'.cell? ⟨gb325, 1, none⟩ = some (.int .i64 a0_1) ∧ w'.cell? ⟨gb325, 2, none⟩ = some (.slice A0_2 l0_2.length c0_2) ∧ w'.cell? ⟨gb325, 3, none⟩ = some (.slice A0_3 l0_3.length c0_3)) (ds := []) #[F,F,F,F,F] (by kernel_rfl) rfl rfl ⟨(kC BK351.out 0).trans rfl, (kC BK351.out 1).trans rfl, (kC BK351.out 2).trans rfl, (kC BK351.out 3).trans rfl, (kC BK325.out 0).trans rfl, (kC BK325.out 1).trans rfl, (kC BK325.out 2).trans rfl, (kC BK325.out 3).trans rfl⟩ (fun hHeld => ?_)
        generalize wc.drew = w108 at HO_7 HO_10 HO_12 HO_352002 HO_352003 BK325 BK351 HB hHeld ⊢
        refine take_ (i := 0) (N := some 62) (v := ?_) (a' := ?_) #[T,F,F,F,F] rfl rfl (by kernel_rfl) (fun _ _ _ h => h) (Or.inl ⟨by rfl, ?_⟩) hHeld ?_ ?_; rotate_left; (·rintro w' ⟨s0, s1, s2, s3, s4, s5, s6, s7⟩; go_simp; with_reducible rfl); rotate_left; (·simp only [Act.put, sI, sZ, sS, iW, jW]; rfl)
        refine take_ (i := 1) (N := some 63) (v := ?_) (a' := ?_) #[T,T,F,F,F] rfl rfl (by kernel_rfl) (fun _ _ _ h => h) (Or.inl ⟨by rfl, ?_⟩) hHeld ?_ ?_; rotate_left; (·rintro w' ⟨s0, s1, s2, s3, s4, s5, s6, s7⟩; go_simp; with_reducible rfl); rotate_left; (·simp only [Act.put, sI, sZ, sS, iW, jW]; rfl)
        refine one_ (i := 2) (N := some 64) #[T,T,T,F,F] rfl rfl (by kernel_rfl) (by decide) (fun K hK => ?_)
        refine goes_ Try.func17 (by kernel_rfl) rfl #[.agg #[.int .i64 a0_0, .int .i64 a0_1, .slice A0_2 l0_2.length c0_2, .slice A0_3 l0_3.length c0_3]] (by rfl) rfl rfl (by (try simp only [List.map_toArray, List.map_cons, List.map_nil]); first | done | rfl | (simp only [List.length_drop, List.length_take]; rfl)) ?_
        with_reducible refine (laws_toGrammar.calls kj15 a0_0 a0_1 _ _ l0_2 _ _ l0_3 t361 t362 t363 t366 _ ?side1 ?side2 ?side3 ?side4 A46.out).mono ?_
        (case side1 => repeat (first | exact (cB HR0_2.out HB.out) | (with_reducible refine cA ?_ _) | (with_reducible refine cN ?_ _) | (with_reducible refine cD ?_)))
        (case side2 => exact HC0_2.out)
        (case side3 => repeat (first | exact (cB HR0_3.out HB.out) | (with_reducible refine cA ?_ _) | (with_reducible refine cN ?_ _) | (with_reducible refine cD ?_)))
        (case side4 => exact HC0_3.out)
        rintro e w109 ⟨v364, v367, rfl, ho0, ho1, hb⟩
        refine ⟨_, rfl, ?_⟩
        have n0_ := Aside0.mk (rE (by (with_reducible repeat (first | apply rA | apply rN | apply rD)); exact HO_7.out) (Kd.R_base ho0) hb)
        have n1_ := Aside0.mk (rE (by (with_reducible repeat (first | apply rA | apply rN | apply rD)); exact HO_10.out) (Kd.R_base ho0) hb)
        have n2_ := Aside0.mk (rE (by (with_reducible repeat (first | apply rA | apply rN | apply rD)); exact HO_12.out) (Kd.R_base ho0) hb)
        have n3_ := Aside0.mk (rE (by (with_reducible repeat (first | apply rA | apply rN | apply rD)); exact HO_352002.out) (Kd.R_base ho0) hb)
        have n4_ := Aside0.mk (rE (by (with_reducible repeat (first | apply rA | apply rN | apply rD)); exact HO_352003.out) (Kd.R_base ho1) hb)
        have n5_ := Aside0.mk (rL (rW (rW (rW (rW ho0 (rT (by (with_reducible repeat (first | apply rA | apply rN | apply rD)); exact HO_7.out))) (rT (by (with_reducible repeat (first | apply rA | apply rN | apply rD)); exact HO_10.out))) (rT (by (with_reducible repeat (first | apply rA | apply rN | apply rD)); exact HO_12.out))) (rT (by (with_reducible repeat (first | apply rA | apply rN | apply rD)); exact HO_352002.out))) (bZ (by repeat (first | (with_reducible first | exact HB.out | apply bA | apply bN | apply bD | refine bS ?_ GE325.out | refine bS ?_ GE351.out) | exact HB.out))))
        have n6_ := Aside0.mk (rL (rW ho1 (rT (by (with_reducible repeat (first | apply rA | apply rN | apply rD)); exact HO_352003.out))) (bZ (by repeat (first | (with_reducible first | exact HB.out | apply bA | apply bN | apply bD | refine bS ?_ GE325.out | refine bS ?_ GE351.out) | exact HB.out))))
        have n7_ := Aside0.mk (kB (g := gb325) (o := .cells #[.int .i64 a0_0, .int .i64 a0_1, .slice A0_2 l0_2.length c0_2, .slice A0_3 l0_3.length c0_3] 25 (0, 0)) (by (with_reducible repeat (first | refine kN ?_ _ | refine kD ?_ | refine kA ?_ _)); exact BK325.out) hb)
        have n8_ := Aside0.mk (kB (g := gb351) (o := .cells #[.int .i64 t343, .int .i64 t344, .slice Ao32 t345.length co32, .slice Ao33 t348.length co33] 30 (0, 0)) (by (with_reducible repeat (first | refine kN ?_ _ | refine kD ?_ | refine kA ?_ _)); exact BK351.out) hb)
        have n9_ := Aside0.mk (bP (by repeat (first | (with_reducible first | exact HB.out | apply bA | apply bN | apply bD | refine bS ?_ GE325.out | refine bS ?_ GE351.out) | exact HB.out)) hb)
        clear HO_7
        clear HO_10
        clear HO_12
        clear HO_352002
        clear HO_352003
        clear BK325
        clear BK351
        clear HB
        have HO_7 := n0_
        have HO_10 := n1_
        have HO_12 := n2_
        have HO_352002 := n3_
        have HO_352003 := n4_
        have HO365 := n5_
        have HO368 := n6_
        have BK325 := n7_
        have BK351 := n8_
        have HB := n9_
        clear n0_ n1_ n2_ n3_ n4_ n5_ n6_ n7_ n8_ n9_
        (try clear hb)
        (try clear hb2)
        (try clear hk)
        (try clear hi)
        (try clear ho0)
        (try clear ho1)
        obtain ⟨Ao110, co110, eo110⟩ := Kd.R_slice HO365.out
        (first | subst eo110 | (injection eo110 with f1_ f2_ f3_; have f4_ := f1_.symm; have f5_ := f3_.symm; clear f1_ f2_ f3_; subst f4_; subst f5_))
        obtain ⟨Ao111, co111, eo111⟩ := Kd.R_slice HO368.out
        (first | subst eo111 | (injection eo111 with f1_ f2_ f3_; have f4_ := f1_.symm; have f5_ := f3_.symm; clear f1_ f2_ f3_; subst f4_; subst f5_))
        refine hK.out _ _ ⟨(kC BK351.out 0).trans rfl, (kC BK351.out 1).trans rfl, (kC BK351.out 2).trans rfl, (kC BK351.out 3).trans rfl, (kC BK325.out 0).trans rfl, (kC BK325.out 1).trans rfl, (kC BK325.out 2).trans rfl, (kC BK325.out 3).trans rfl⟩ (fun hHeld => ?_)
        clear hK K
        refine norm_ (a' := ?_) ?_ ?_
        rotate_left
        ·show Act.put _ (some 64) _ = _
         simp only [Act.put, sI, sZ, sS, iW, jW]
         rfl
        refine one_ (i := 3) (N := some 65) #[T,T,T,T,F] rfl rfl (by kernel_rfl) (by decide) (fun K hK => ?_)
        refine goes_ Try.func19 (by kernel_rfl) rfl #[.agg #[.int .i64 t343, .int .i64 t344, .slice Ao32 t345.length co32, .slice Ao33 t348.length co33], .agg #[.int .i64 t361, .int .i64 t362, .slice Ao110 t363.length co110, .slice Ao111 t366.length co111]] (by rfl) rfl rfl (by (try simp only [List.map_toArray, List.map_cons, List.map_nil]); first | done | rfl | (simp only [List.length_drop, List.length_take]; rfl)) ?_
        with_reducible refine (laws_eqGrammar.calls kj15 t343 t344 _ _ t345 _ _ t348 t361 t362 _ _ t363 _ _ t366 true _ ?side1 ?side2 ?side3 ?side4 ?side5 ?side6 ?side7 ?side8 A47.out).mono ?_
        (case side1 => repeat (first | exact (Kd.R_reads' HO_352002.out).2.2 | (with_reducible refine cA ?_ _) | (with_reducible refine cN ?_ _) | (with_reducible refine cD ?_)))
        (case side2 => exact (Kd.R_reads' HO_352002.out).2.1)
        (case side3 => repeat (first | exact (Kd.R_reads' HO_352003.out).2.2 | (with_reducible refine cA ?_ _) | (with_reducible refine cN ?_ _) | (with_reducible refine cD ?_)))
        (case side4 => exact (Kd.R_reads' HO_352003.out).2.1)
        (case side5 => repeat (first | exact (Kd.R_reads' HO365.out).2.2 | (with_reducible refine cA ?_ _) | (with_reducible refine cN ?_ _) | (with_reducible refine cD ?_)))
        (case side6 => exact (Kd.R_reads' HO365.out).2.1)
        (case side7 => repeat (first | exact (Kd.R_reads' HO368.out).2.2 | (with_reducible refine cA ?_ _) | (with_reducible refine cN ?_ _) | (with_reducible refine cD ?_)))
        (case side8 => exact (Kd.R_reads' HO368.out).2.1)
        rintro e w112 ⟨rfl, hb⟩
        refine ⟨_, rfl, ?_⟩
        have n0_ := Aside0.mk (rB (by (with_reducible repeat (first | apply rA | apply rN | apply rD)); exact HO_7.out) hb)
        have n1_ := Aside0.mk (rB (by (with_reducible repeat (first | apply rA | apply rN | apply rD)); exact HO_10.out) hb)
        have n2_ := Aside0.mk (rB (by (with_reducible repeat (first | apply rA | apply rN | apply rD)); exact HO_12.out) hb)
        have n3_ := Aside0.mk (rB (by (with_reducible repeat (first | apply rA | apply rN | apply rD)); exact HO_352002.out) hb)
        have n4_ := Aside0.mk (rB (by (with_reducible repeat (first | apply rA | apply rN | apply rD)); exact HO_352003.out) hb)
        have n5_ := Aside0.mk (rB (by (with_reducible repeat (first | apply rA | apply rN | apply rD)); exact HO365.out) hb)
        have n6_ := Aside0.mk (rB (by (with_reducible repeat (first | apply rA | apply rN | apply rD)); exact HO368.out) hb)
        have n7_ := Aside0.mk (kB (g := gb325) (o := .cells #[.int .i64 a0_0, .int .i64 a0_1, .slice A0_2 l0_2.length c0_2, .slice A0_3 l0_3.length c0_3] 25 (0, 0)) (by (with_reducible repeat (first | refine kN ?_ _ | refine kD ?_ | refine kA ?_ _)); exact BK325.out) hb)
        have n8_ := Aside0.mk (kB (g := gb351) (o := .cells #[.int .i64 t343, .int .i64 t344, .slice Ao32 t345.length co32, .slice Ao33 t348.length co33] 30 (0, 0)) (by (with_reducible repeat (first | refine kN ?_ _ | refine kD ?_ | refine kA ?_ _)); exact BK351.out) hb)
        have n9_ := Aside0.mk (bP (by repeat (first | (with_reducible first | exact HB.out | apply bA | apply bN | apply bD | refine bS ?_ GE325.out | refine bS ?_ GE351.out) | exact HB.out)) hb)
        clear HO_7
        clear HO_10
        clear HO_12
        clear HO_352002
        clear HO_352003
        clear HO365
        clear HO368
        clear BK325
        clear BK351
        clear HB
        have HO_7 := n0_
        have HO_10 := n1_
        have HO_12 := n2_
        have HO_352002 := n3_
        have HO_352003 := n4_
        have HO365 := n5_
        have HO368 := n6_
        have BK325 := n7_
        have BK351 := n8_
        have HB := n9_
        clear n0_ n1_ n2_ n3_ n4_ n5_ n6_ n7_ n8_ n9_
        (try clear hb)
        (try clear hb2)
        (try clear hk)
        (try clear hi)
        refine hK.out _ _ ⟨(kC BK351.out 0).trans rfl, (kC BK351.out 1).trans rfl, (kC BK351.out 2).trans rfl, (kC BK351.out 3).trans rfl, (kC BK325.out 0).trans rfl, (kC BK325.out 1).trans rfl, (kC BK325.out 2).trans rfl, (kC BK325.out 3).trans rfl⟩ (fun hHeld => ?_)
        clear hK K
        refine norm_ (a' := ?_) ?_ ?_
        rotate_left
        ·show Act.put _ (some 65) _ = _
         simp only [Act.put, sI, sZ, sS, iW, jW]
         rfl
        refine pure_ (i := 4) (N := some 66) (v := ?_) (a' := ?_) #[T,T,T,T,T] rfl rfl (by kernel_rfl) (fun _ _ _ h => h) (Or.inl ⟨by rfl, ?_⟩) ?_ ?_; rotate_left; (·intro w'; go_simp; with_reducible rfl); rotate_left; (·simp only [Act.put, sI, sZ, sS, iW, jW]; rfl)
        refine done_ (by kernel_rfl) ?_
        try go_wp2_with (first | ((with_reducible refine gC (f := 25) rfl ?_); refine goesL_ (some 69) rfl rfl Try.func25 (by kernel_rfl) rfl #[.slice A1 l1.length c1] rfl (by (try simp only [List.map_toArray, List.map_cons, List.map_nil]); first | done | rfl | (simp only [List.length_drop, List.length_take]; rfl)) ?_; (with_reducible refine (laws_toInt64S.calls kj15 _ _ l1 t370 _ ?side1 ?side2 A49.out).mono ?_); (case side1 => repeat (first | exact (cB HR1.out HB.out) | (with_reducible refine cA ?_ _) | (with_reducible refine cN ?_ _) | (with_reducible refine cD ?_))); (case side2 => exact HC1.out); rintro e w113 ⟨v371, rfl, ho0, hb⟩; refine ⟨_, rfl, ?_⟩; have n0_ := Aside0.mk (rE (by (with_reducible repeat (first | apply rA | apply rN | apply rD)); exact HO_7.out) (Kd.R_base ho0) hb); have n1_ := Aside0.mk (rE (by (with_reducible repeat (first | apply rA | apply rN | apply rD)); exact HO_10.out) (Kd.R_base ho0) hb); have n2_ := Aside0.mk (rE (by (with_reducible repeat (first | apply rA | apply rN | apply rD)); exact HO_12.out) (Kd.R_base ho0) hb); have n3_ := Aside0.mk (rE (by (with_reducible repeat (first | apply rA | apply rN | apply rD)); exact HO_352002.out) (Kd.R_base ho0) hb); have n4_ := Aside0.mk (rB (by (with_reducible repeat (first | apply rA | apply rN | apply rD)); exact HO_352003.out) hb); have n5_ := Aside0.mk (rE (by (with_reducible repeat (first | apply rA | apply rN | apply rD)); exact HO365.out) (Kd.R_base ho0) hb); have n6_ := Aside0.mk (rB (by (with_reducible repeat (first | apply rA | apply rN | apply rD)); exact HO368.out) hb); have n7_ := Aside0.mk (rL (rW (rW (rW (rW (rW ho0 (rT (by (with_reducible repeat (first | apply rA | apply rN | apply rD)); exact HO_7.out))) (rT (by (with_reducible repeat (first | apply rA | apply rN | apply rD)); exact HO_10.out))) (rT (by (with_reducible repeat (first | apply rA | apply rN | apply rD)); exact HO_12.out))) (rT (by (with_reducible repeat (first | apply rA | apply rN | apply rD)); exact HO_352002.out))) (rT (by (with_reducible repeat (first | apply rA | apply rN | apply rD)); exact HO365.out))) (bZ (by repeat (first | (with_reducible first | exact HB.out | apply bA | apply bN | apply bD | refine bS ?_ GE325.out | refine bS ?_ GE351.out) | exact HB.out)))); have n8_ := Aside0.mk (kB (g := gb325) (o := .cells #[.int .i64 a0_0, .int .i64 a0_1, .slice A0_2 l0_2.length c0_2, .slice A0_3 l0_3.length c0_3] 25 (0, 0)) (by (with_reducible repeat (first | refine kN ?_ _ | refine kD ?_ | refine kA ?_ _)); exact BK325.out) hb); have n9_ := Aside0.mk (kB (g := gb351) (o := .cells #[.int .i64 t343, .int .i64 t344, .slice Ao32 t345.length co32, .slice Ao33 t348.length co33] 30 (0, 0)) (by (with_reducible repeat (first | refine kN ?_ _ | refine kD ?_ | refine kA ?_ _)); exact BK351.out) hb); have n10_ := Aside0.mk (bP (by repeat (first | (with_reducible first | exact HB.out | apply bA | apply bN | apply bD | refine bS ?_ GE325.out | refine bS ?_ GE351.out) | exact HB.out)) hb); clear HO_7; clear HO_10; clear HO_12; clear HO_352002; clear HO_352003; clear HO365; clear HO368; clear BK325; clear BK351; clear HB; have HO_7 := n0_; have HO_10 := n1_; have HO_12 := n2_; have HO_352002 := n3_; have HO_352003 := n4_; have HO365 := n5_; have HO368 := n6_; have HO372 := n7_; have BK325 := n8_; have BK351 := n9_; have HB := n10_; clear n0_ n1_ n2_ n3_ n4_ n5_ n6_ n7_ n8_ n9_ n10_; (try clear hb); (try clear hb2); (try clear hk); (try clear hi); (try clear ho0); obtain ⟨Ao114, co114, eo114⟩ := Kd.R_slice HO372.out; subst eo114) | ((with_reducible refine gC (f := 27) rfl ?_); refine goesL_ (some 70) rfl rfl Try.func27 (by kernel_rfl) rfl #[.slice Ao36 t352.length co36, .slice Ao114 t370.length co114] rfl (by (try simp only [List.map_toArray, List.map_cons, List.map_nil]); first | done | rfl | (simp only [List.length_drop, List.length_take]; rfl)) ?_; (with_reducible refine (laws_eqInt64S.calls kj15 _ _ t352 _ _ t370 false _ ?side1 ?side2 ?side3 ?side4 A50.out).mono ?_); (case side1 => repeat (first | exact (Kd.R_reads' HO_10.out).2.2 | (with_reducible refine cA ?_ _) | (with_reducible refine cN ?_ _) | (with_reducible refine cD ?_))); (case side2 => exact (Kd.R_reads' HO_10.out).2.1); (case side3 => repeat (first | exact (Kd.R_reads' HO372.out).2.2 | (with_reducible refine cA ?_ _) | (with_reducible refine cN ?_ _) | (with_reducible refine cD ?_))); (case side4 => exact (Kd.R_reads' HO372.out).2.1); rintro e w' ⟨rfl, ⟨nd, rfl⟩⟩; refine ⟨_, rfl, ?_⟩))
        go_ret
        exact ⟨by first | rfl | (simp [errW_none, errW_some] <;> rfl) | (simp [*, errW_none, errW_some] <;> rfl), by repeat (first | (with_reducible first | exact HB.out | apply bA | apply bN | apply bD | refine bS ?_ GE325.out | refine bS ?_ GE351.out) | exact HB.out)⟩
      ·replace c48 := Bool.eq_false_iff.mpr c48
       subst c48
       have H1 : (some false) = some r := by rw [if_neg (show ¬ (false = true) by decide)] at H; exact H
       clear H
       have H := H1
       clear H1
       obtain rfl := Option.some.inj H
       try go_wp2
       have n0_ := Aside0.mk (rD HO_7.out)
       have n1_ := Aside0.mk (rD HO_10.out)
       have n2_ := Aside0.mk (rD HO_12.out)
       have n3_ := Aside0.mk (rD HO_352002.out)
       have n4_ := Aside0.mk (rD HO_352003.out)
       have n5_ := Aside0.mk (kD BK325.out)
       have n6_ := Aside0.mk (kD BK351.out)
       have n7_ := Aside0.mk (bD HB.out)
       clear HO_7
       clear HO_10
       clear HO_12
       clear HO_352002
       clear HO_352003
       clear BK325
       clear BK351
       clear HB
       have HO_7 := n0_
       have HO_10 := n1_
       have HO_12 := n2_
       have HO_352002 := n3_
       have HO_352003 := n4_
       have BK325 := n5_
       have BK351 := n6_
       have HB := n7_
       clear n0_ n1_ n2_ n3_ n4_ n5_ n6_ n7_
       refine start_ (n := 5) (S := fun w' => w'.cell? ⟨gb351, 0, none⟩ = some (.int .i64 t343) ∧ w'.cell? ⟨gb351, 1, none⟩ = some (.int .i64 t344) ∧ w'.cell? ⟨gb351, 2, none⟩ = some (.slice Ao32 t345.length co32) ∧ w'.cell? ⟨gb351, 3, none⟩ = some (.slice Ao33 t348.length co33) ∧ w'.cell? ⟨gb325, 0, none⟩ = some (.int .i64 a0_0) ∧ w'.cell? ⟨gb325, 1, none⟩ = some (.int .i64 a0_1) ∧ w'.cell? ⟨gb325, 2, none⟩ = some (.slice A0_2 l0_2.length c0_2) ∧ w'.cell? ⟨gb325, 3, none⟩ = some (.slice A0_3 l0_3.length c0_3)) (ds := []) #[F,F,F,F,F] (by kernel_rfl) rfl rfl ⟨(kC BK351.out 0).trans rfl, (kC BK351.out 1).trans rfl, (kC BK351.out 2).trans rfl, (kC BK351.out 3).trans rfl, (kC BK325.out 0).trans rfl, (kC BK325.out 1).trans rfl, (kC BK325.out 2).trans rfl, (kC BK325.out 3).trans rfl⟩ (fun hHeld => ?_)
       generalize wc.drew = w115 at HO_7 HO_10 HO_12 HO_352002 HO_352003 BK325 BK351 HB hHeld ⊢
       refine take_ (i := 0) (N := some 62) (v := ?_) (a' := ?_) #[T,F,F,F,F] rfl rfl (by kernel_rfl) (fun _ _ _ h => h) (Or.inl ⟨by rfl, ?_⟩) hHeld ?_ ?_; rotate_left; (·rintro w' ⟨s0, s1, s2, s3, s4, s5, s6, s7⟩; go_simp; with_reducible rfl); rotate_left; (·simp only [Act.put, sI, sZ, sS, iW, jW]; rfl)
       refine take_ (i := 1) (N := some 63) (v := ?_) (a' := ?_) #[T,T,F,F,F] rfl rfl (by kernel_rfl) (fun _ _ _ h => h) (Or.inl ⟨by rfl, ?_⟩) hHeld ?_ ?_; rotate_left; (·rintro w' ⟨s0, s1, s2, s3, s4, s5, s6, s7⟩; go_simp; with_reducible rfl); rotate_left; (·simp only [Act.put, sI, sZ, sS, iW, jW]; rfl)
       refine one_ (i := 2) (N := some 64) #[T,T,T,F,F] rfl rfl (by kernel_rfl) (by decide) (fun K hK => ?_)
       refine goes_ Try.func17 (by kernel_rfl) rfl #[.agg #[.int .i64 a0_0, .int .i64 a0_1, .slice A0_2 l0_2.length c0_2, .slice A0_3 l0_3.length c0_3]] (by rfl) rfl rfl (by (try simp only [List.map_toArray, List.map_cons, List.map_nil]); first | done | rfl | (simp only [List.length_drop, List.length_take]; rfl)) ?_
       with_reducible refine (laws_toGrammar.calls kj15 a0_0 a0_1 _ _ l0_2 _ _ l0_3 t361 t362 t363 t366 _ ?side1 ?side2 ?side3 ?side4 A46.out).mono ?_
       (case side1 => repeat (first | exact (cB HR0_2.out HB.out) | (with_reducible refine cA ?_ _) | (with_reducible refine cN ?_ _) | (with_reducible refine cD ?_)))
       (case side2 => exact HC0_2.out)
       (case side3 => repeat (first | exact (cB HR0_3.out HB.out) | (with_reducible refine cA ?_ _) | (with_reducible refine cN ?_ _) | (with_reducible refine cD ?_)))
       (case side4 => exact HC0_3.out)
       rintro e w116 ⟨v364, v367, rfl, ho0, ho1, hb⟩
       refine ⟨_, rfl, ?_⟩
       have n0_ := Aside0.mk (rE (by (with_reducible repeat (first | apply rA | apply rN | apply rD)); exact HO_7.out) (Kd.R_base ho0) hb)
       have n1_ := Aside0.mk (rE (by (with_reducible repeat (first | apply rA | apply rN | apply rD)); exact HO_10.out) (Kd.R_base ho0) hb)
       have n2_ := Aside0.mk (rE (by (with_reducible repeat (first | apply rA | apply rN | apply rD)); exact HO_12.out) (Kd.R_base ho0) hb)
       have n3_ := Aside0.mk (rE (by (with_reducible repeat (first | apply rA | apply rN | apply rD)); exact HO_352002.out) (Kd.R_base ho0) hb)
       have n4_ := Aside0.mk (rE (by (with_reducible repeat (first | apply rA | apply rN | apply rD)); exact HO_352003.out) (Kd.R_base ho1) hb)
       have n5_ := Aside0.mk (rL (rW (rW (rW (rW ho0 (rT (by (with_reducible repeat (first | apply rA | apply rN | apply rD)); exact HO_7.out))) (rT (by (with_reducible repeat (first | apply rA | apply rN | apply rD)); exact HO_10.out))) (rT (by (with_reducible repeat (first | apply rA | apply rN | apply rD)); exact HO_12.out))) (rT (by (with_reducible repeat (first | apply rA | apply rN | apply rD)); exact HO_352002.out))) (bZ (by repeat (first | (with_reducible first | exact HB.out | apply bA | apply bN | apply bD | refine bS ?_ GE325.out | refine bS ?_ GE351.out) | exact HB.out))))
       have n6_ := Aside0.mk (rL (rW ho1 (rT (by (with_reducible repeat (first | apply rA | apply rN | apply rD)); exact HO_352003.out))) (bZ (by repeat (first | (with_reducible first | exact HB.out | apply bA | apply bN | apply bD | refine bS ?_ GE325.out | refine bS ?_ GE351.out) | exact HB.out))))
       have n7_ := Aside0.mk (kB (g := gb325) (o := .cells #[.int .i64 a0_0, .int .i64 a0_1, .slice A0_2 l0_2.length c0_2, .slice A0_3 l0_3.length c0_3] 25 (0, 0)) (by (with_reducible repeat (first | refine kN ?_ _ | refine kD ?_ | refine kA ?_ _)); exact BK325.out) hb)
       have n8_ := Aside0.mk (kB (g := gb351) (o := .cells #[.int .i64 t343, .int .i64 t344, .slice Ao32 t345.length co32, .slice Ao33 t348.length co33] 30 (0, 0)) (by (with_reducible repeat (first | refine kN ?_ _ | refine kD ?_ | refine kA ?_ _)); exact BK351.out) hb)
       have n9_ := Aside0.mk (bP (by repeat (first | (with_reducible first | exact HB.out | apply bA | apply bN | apply bD | refine bS ?_ GE325.out | refine bS ?_ GE351.out) | exact HB.out)) hb)
       clear HO_7
       clear HO_10
       clear HO_12
       clear HO_352002
       clear HO_352003
       clear BK325
       clear BK351
       clear HB
       have HO_7 := n0_
       have HO_10 := n1_
       have HO_12 := n2_
       have HO_352002 := n3_
       have HO_352003 := n4_
       have HO365 := n5_
       have HO368 := n6_
       have BK325 := n7_
       have BK351 := n8_
       have HB := n9_
       clear n0_ n1_ n2_ n3_ n4_ n5_ n6_ n7_ n8_ n9_
       (try clear hb)
       (try clear hb2)
       (try clear hk)
       (try clear hi)
       (try clear ho0)
       (try clear ho1)
       obtain ⟨Ao117, co117, eo117⟩ := Kd.R_slice HO365.out
       (first | subst eo117 | (injection eo117 with f1_ f2_ f3_; have f4_ := f1_.symm; have f5_ := f3_.symm; clear f1_ f2_ f3_; subst f4_; subst f5_))
       obtain ⟨Ao118, co118, eo118⟩ := Kd.R_slice HO368.out
       (first | subst eo118 | (injection eo118 with f1_ f2_ f3_; have f4_ := f1_.symm; have f5_ := f3_.symm; clear f1_ f2_ f3_; subst f4_; subst f5_))
       refine hK.out _ _ ⟨(kC BK351.out 0).trans rfl, (kC BK351.out 1).trans rfl, (kC BK351.out 2).trans rfl, (kC BK351.out 3).trans rfl, (kC BK325.out 0).trans rfl, (kC BK325.out 1).trans rfl, (kC BK325.out 2).trans rfl, (kC BK325.out 3).trans rfl⟩ (fun hHeld => ?_)
       clear hK K
       refine norm_ (a' := ?_) ?_ ?_
       rotate_left
       ·show Act.put _ (some 64) _ = _
        simp only [Act.put, sI, sZ, sS, iW, jW]
        rfl
       refine one_ (i := 3) (N := some 65) #[T,T,T,T,F] rfl rfl (by kernel_rfl) (by decide) (fun K hK => ?_)
       refine goes_ Try.func19 (by kernel_rfl) rfl #[.agg #[.int .i64 t343, .int .i64 t344, .slice Ao32 t345.length co32, .slice Ao33 t348.length co33], .agg #[.int .i64 t361, .int .i64 t362, .slice Ao117 t363.length co117, .slice Ao118 t366.length co118]] (by rfl) rfl rfl (by (try simp only [List.map_toArray, List.map_cons, List.map_nil]); first | done | rfl | (simp only [List.length_drop, List.length_take]; rfl)) ?_
       with_reducible refine (laws_eqGrammar.calls kj15 t343 t344 _ _ t345 _ _ t348 t361 t362 _ _ t363 _ _ t366 false _ ?side1 ?side2 ?side3 ?side4 ?side5 ?side6 ?side7 ?side8 A47.out).mono ?_
       (case side1 => repeat (first | exact (Kd.R_reads' HO_352002.out).2.2 | (with_reducible refine cA ?_ _) | (with_reducible refine cN ?_ _) | (with_reducible refine cD ?_)))
       (case side2 => exact (Kd.R_reads' HO_352002.out).2.1)
       (case side3 => repeat (first | exact (Kd.R_reads' HO_352003.out).2.2 | (with_reducible refine cA ?_ _) | (with_reducible refine cN ?_ _) | (with_reducible refine cD ?_)))
       (case side4 => exact (Kd.R_reads' HO_352003.out).2.1)
       (case side5 => repeat (first | exact (Kd.R_reads' HO365.out).2.2 | (with_reducible refine cA ?_ _) | (with_reducible refine cN ?_ _) | (with_reducible refine cD ?_)))
       (case side6 => exact (Kd.R_reads' HO365.out).2.1)
       (case side7 => repeat (first | exact (Kd.R_reads' HO368.out).2.2 | (with_reducible refine cA ?_ _) | (with_reducible refine cN ?_ _) | (with_reducible refine cD ?_)))
       (case side8 => exact (Kd.R_reads' HO368.out).2.1)
       rintro e w119 ⟨rfl, hb⟩
       refine ⟨_, rfl, ?_⟩
       have n0_ := Aside0.mk (rB (by (with_reducible repeat (first | apply rA | apply rN | apply rD)); exact HO_7.out) hb)
       have n1_ := Aside0.mk (rB (by (with_reducible repeat (first | apply rA | apply rN | apply rD)); exact HO_10.out) hb)
       have n2_ := Aside0.mk (rB (by (with_reducible repeat (first | apply rA | apply rN | apply rD)); exact HO_12.out) hb)
       have n3_ := Aside0.mk (rB (by (with_reducible repeat (first | apply rA | apply rN | apply rD)); exact HO_352002.out) hb)
       have n4_ := Aside0.mk (rB (by (with_reducible repeat (first | apply rA | apply rN | apply rD)); exact HO_352003.out) hb)
       have n5_ := Aside0.mk (rB (by (with_reducible repeat (first | apply rA | apply rN | apply rD)); exact HO365.out) hb)
       have n6_ := Aside0.mk (rB (by (with_reducible repeat (first | apply rA | apply rN | apply rD)); exact HO368.out) hb)
       have n7_ := Aside0.mk (kB (g := gb325) (o := .cells #[.int .i64 a0_0, .int .i64 a0_1, .slice A0_2 l0_2.length c0_2, .slice A0_3 l0_3.length c0_3] 25 (0, 0)) (by (with_reducible repeat (first | refine kN ?_ _ | refine kD ?_ | refine kA ?_ _)); exact BK325.out) hb)
       have n8_ := Aside0.mk (kB (g := gb351) (o := .cells #[.int .i64 t343, .int .i64 t344, .slice Ao32 t345.length co32, .slice Ao33 t348.length co33] 30 (0, 0)) (by (with_reducible repeat (first | refine kN ?_ _ | refine kD ?_ | refine kA ?_ _)); exact BK351.out) hb)
       have n9_ := Aside0.mk (bP (by repeat (first | (with_reducible first | exact HB.out | apply bA | apply bN | apply bD | refine bS ?_ GE325.out | refine bS ?_ GE351.out) | exact HB.out)) hb)
       clear HO_7
       clear HO_10
       clear HO_12
       clear HO_352002
       clear HO_352003
       clear HO365
       clear HO368
       clear BK325
       clear BK351
       clear HB
       have HO_7 := n0_
       have HO_10 := n1_
       have HO_12 := n2_
       have HO_352002 := n3_
       have HO_352003 := n4_
       have HO365 := n5_
       have HO368 := n6_
       have BK325 := n7_
       have BK351 := n8_
       have HB := n9_
       clear n0_ n1_ n2_ n3_ n4_ n5_ n6_ n7_ n8_ n9_
       (try clear hb)
       (try clear hb2)
       (try clear hk)
       (try clear hi)
       refine hK.out _ _ ⟨(kC BK351.out 0).trans rfl, (kC BK351.out 1).trans rfl, (kC BK351.out 2).trans rfl, (kC BK351.out 3).trans rfl, (kC BK325.out 0).trans rfl, (kC BK325.out 1).trans rfl, (kC BK325.out 2).trans rfl, (kC BK325.out 3).trans rfl⟩ (fun hHeld => ?_)
       clear hK K
       refine norm_ (a' := ?_) ?_ ?_
       rotate_left
       ·show Act.put _ (some 65) _ = _
        simp only [Act.put, sI, sZ, sS, iW, jW]
        rfl
       refine pure_ (i := 4) (N := some 66) (v := ?_) (a' := ?_) #[T,T,T,T,T] rfl rfl (by kernel_rfl) (fun _ _ _ h => h) (Or.inl ⟨by rfl, ?_⟩) ?_ ?_; rotate_left; (·intro w'; go_simp; with_reducible rfl); rotate_left; (·simp only [Act.put, sI, sZ, sS, iW, jW]; rfl)
       refine done_ (by kernel_rfl) ?_
       try go_wp2
       go_ret
       exact ⟨by first | rfl | (simp [errW_none, errW_some] <;> rfl) | (simp [*, errW_none, errW_some] <;> rfl), by repeat (first | (with_reducible first | exact HB.out | apply bA | apply bN | apply bD | refine bS ?_ GE325.out | refine bS ?_ GE351.out) | exact HB.out)⟩

/-- THE ONE PURE STATEMENT of laws_FnExactWrongTurn. -/
def laws_FnExactWrongTurn.Pure : Prop := ∀ (a0_0 : Int) (a0_1 : Int) (l0_2 : List Int) (l0_3 : List (S108)) (l1 : List Int), (Lit.int .i64 a0_0).wf = true → (Lit.int .i64 a0_1).wf = true → (l0_2.length ≤ maxLen ∧ ∀ x ∈ l0_2, (Lit.int .i64 x).wf = true) → (l0_3.length ≤ maxLen ∧ ∀ x ∈ l0_3, (Lit.int .i64 x.f0).wf = true ∧ (Lit.int .i64 x.f1).wf = true ∧ (Lit.int .i64 x.f2).wf = true) → (l1.length ≤ maxLen ∧ ∀ x ∈ l1, (Lit.int .i64 x).wf = true) → ∃ k, laws_FnExactWrongTurn.f k a0_0 a0_1 l0_2 l0_3 l1 = some true

end Go.Proofs.Ytijbhcalknfijaa.M
-- shrunk
-- tight
