/- What functions of the given program compute, as plain Lean functions, and that the code comes to just that; by a program of this session over the kit's print. No condition. -/
import Derived.Test.YtijbhcalknfijaaTight
import Derived.Test.YtijbhcalknfijaaM4x0
import Derived.Test.YtijbhcalknfijaaM4x2
import Derived.Test.YtijbhcalknfijaaM4x3
import Derived.Test.YtijbhcalknfijaaM4x5
import Derived.Test.YtijbhcalknfijaaM4x6
import Derived.Test.YtijbhcalknfijaaM4x9
namespace Go.Proofs.Ytijbhcalknfijaa.M4
open Go.RowKit Go.Proofs.YtijbhcalknfijaaW.PrintWords Go.Proofs.YtijbhcalknfijaaW.PrintLast
open Go.Proofs.YtijbhcalknfijaaW.PrintWords renaming below_alloc → bA, pw_below_drewN → bN, below_drew1 → bD, below_set → bS, blk_drewN → kN, blk_drew → kD, blk_alloc → kA, blk_below → kB, below_size → bZ, below_step → bP, blk_far → kF, blk_lt → kL, gate_callee → gC, box_event → bE, blk_cell → kC
open Go.Proofs.YtijbhcalknfijaaW.PrintLast renaming i64_w → iW, i32_w → jW
open Go.Proofs.YtijbhcalknfijaaW.PrintWords.Kd renaming R_alloc → rA, R_drewN → rN, R_drew → rD, C_alloc → cA, C_drewN → cN, C_drew → cD, C_below → cB, R_lower → rL, R_below → rB, R_elder' → rE, R_new' → rW, R_lt → rT, R_mono → rM
open List renaming setIfInBounds_toArray → sI, set_cons_zero → sZ, set_cons_succ → sS
open Bool renaming true → T, false → F
set_option linter.unusedVariables false
set_option linter.unusedSimpArgs false

/-! ### laws_FnExactSameGrammar: function 3 -/
def laws_FnExactSameGrammar.f (k : Nat) (a0_0 : Int) (a0_1 : Int) (l0_2 : List Int) (l0_3 : List (S108)) (a1_0 : Int) (a1_1 : Int) (l1_2 : List Int) (l1_3 : List (S108)) : Option (Bool) := (laws_szGrammar.f a0_0 a0_1 l0_2 l0_3 1048576).bind fun t157 => (if t157 < 0 then (some true) else ((laws_szGrammar.f a1_0 a1_1 l1_2 l1_3 t157).bind fun t158 => (if t158 < 0 then (some true) else ((laws_toGrammar.f k a0_0 a0_1 l0_2 l0_3).bind fun bt159 => ((laws_toGrammar.f k a1_0 a1_1 l1_2 l1_3).bind fun bt167 => ((spec_SameGrammar.f k bt159.1 bt159.2.1 bt159.2.2.1 bt159.2.2.2 bt167.1 bt167.2.1 bt167.2.2.1 bt167.2.2.2).bind fun t175 => ((laws_toGrammar.f k a0_0 a0_1 l0_2 l0_3).bind fun bt176 => ((laws_toGrammar.f k a1_0 a1_1 l1_2 l1_3).bind fun bt185 => ((impl_SameGrammar.f k bt176.1 bt176.2.1 bt176.2.2.1 bt176.2.2.2 bt185.1 bt185.2.1 bt185.2.2.1 bt185.2.2.2).bind fun t194 => (if (t194 != t175) = true then (some false) else ((laws_toGrammar.f k a0_0 a0_1 l0_2 l0_3).bind fun bt195 => ((laws_eqGrammar.f k bt176.1 bt176.2.1 bt176.2.2.1 bt176.2.2.2 bt195.1 bt195.2.1 bt195.2.2.1 bt195.2.2.2).bind fun t203 => (if t203 = true then ((laws_toGrammar.f k a1_0 a1_1 l1_2 l1_3).bind fun bt204 => ((laws_eqGrammar.f k bt185.1 bt185.2.1 bt185.2.2.1 bt185.2.2.2 bt204.1 bt204.2.1 bt204.2.2.1 bt204.2.2.2).bind fun t212 => (if t212 = true then (some true) else (some false)))) else (some false))))))))))))))
theorem laws_FnExactSameGrammar.mono : ∀ a0 a1 a2 a3 a4 a5 a6 a7 k, LeO (laws_FnExactSameGrammar.f k a0 a1 a2 a3 a4 a5 a6 a7) (laws_FnExactSameGrammar.f (k + 1) a0 a1 a2 a3 a4 a5 a6 a7) := by
 intro a0 a1 a2 a3 a4 a5 a6 a7 k
 unfold laws_FnExactSameGrammar.f
 repeat' first
   | (with_reducible exact impl_SameGrammar.mono _ _ _ _ _ _ _ _ _)
   | (with_reducible exact laws_eqGrammar.mono _ _ _ _ _ _ _ _ _)
   | (with_reducible exact laws_toGrammar.mono _ _ _ _ _)
   | (with_reducible exact spec_SameGrammar.mono _ _ _ _ _ _ _ _ _)
   | (with_reducible exact LeO.refl _)
   | (with_reducible exact LeO.none _)
   | (with_reducible refine LeO.ite ?_ ?_)
   | (with_reducible refine LeO.bind ?_ (fun _ => ?_))
   | exact impl_SameGrammar.mono _ _ _ _ _ _ _ _ _
   | exact laws_eqGrammar.mono _ _ _ _ _ _ _ _ _
   | exact laws_toGrammar.mono _ _ _ _ _
   | exact spec_SameGrammar.mono _ _ _ _ _ _ _ _ _
   | exact LeO.none _
   | refine LeO.ite ?_ ?_
   | refine LeO.bind ?_ (fun _ => ?_)
set_option maxHeartbeats 8000000 in
set_option maxRecDepth 100000 in
theorem laws_FnExactSameGrammar.calls (k : Nat) (a0_0 : Int) (a0_1 : Int) (A0_2 : Option Addr) (c0_2 : Nat) (l0_2 : List Int) (A0_3 : Option Addr) (c0_3 : Nat) (l0_3 : List (S108)) (a1_0 : Int) (a1_1 : Int) (A1_2 : Option Addr) (c1_2 : Nat) (l1_2 : List Int) (A1_3 : Option Addr) (c1_3 : Nat) (l1_3 : List (S108)) (r : Bool) (w : World) (hr0_2 : Kd.C (Kd.int .i64) w A0_2 l0_2.length l0_2) (hc0_2 : l0_2.length ≤ c0_2) (hr0_3 : Kd.C k108 w A0_3 l0_3.length l0_3) (hc0_3 : l0_3.length ≤ c0_3) (hr1_2 : Kd.C (Kd.int .i64) w A1_2 l1_2.length l1_2) (hc1_2 : l1_2.length ≤ c1_2) (hr1_3 : Kd.C k108 w A1_3 l1_3.length l1_3) (hc1_3 : l1_3.length ≤ c1_3) (h : laws_FnExactSameGrammar.f k a0_0 a0_1 l0_2 l0_3 a1_0 a1_1 l1_2 l1_3 = some r) :
  Calls Try.prog 3 #[.agg #[.int .i64 a0_0, .int .i64 a0_1, .slice A0_2 l0_2.length c0_2, .slice A0_3 l0_3.length c0_3], .agg #[.int .i64 a1_0, .int .i64 a1_1, .slice A1_2 l1_2.length c1_2, .slice A1_3 l1_3.length c1_3]] w fun e w' => e = .returned (.bool r) ∧ Below w.heap.size w w' := by
 have hu25 := Try.underlying25
 have hu30 := Try.underlying30
 have HR0_2 := Aside0.mk hr0_2
 have HC0_2 := Aside0.mk hc0_2
 clear hr0_2 hc0_2
 have HR0_3 := Aside0.mk hr0_3
 have HC0_3 := Aside0.mk hc0_3
 clear hr0_3 hc0_3
 have HR1_2 := Aside0.mk hr1_2
 have HC1_2 := Aside0.mk hc1_2
 clear hr1_2 hc1_2
 have HR1_3 := Aside0.mk hr1_3
 have HC1_3 := Aside0.mk hc1_3
 clear hr1_3 hc1_3
 have HB := Aside0.mk (Below.refl w.heap.size w)
 have H : ((laws_szGrammar.f a0_0 a0_1 l0_2 l0_3 1048576).bind fun t157 => (if t157 < 0 then (some true) else ((laws_szGrammar.f a1_0 a1_1 l1_2 l1_3 t157).bind fun t158 => (if t158 < 0 then (some true) else ((laws_toGrammar.f k a0_0 a0_1 l0_2 l0_3).bind fun bt159 => ((laws_toGrammar.f k a1_0 a1_1 l1_2 l1_3).bind fun bt167 => ((spec_SameGrammar.f k bt159.1 bt159.2.1 bt159.2.2.1 bt159.2.2.2 bt167.1 bt167.2.1 bt167.2.2.1 bt167.2.2.2).bind fun t175 => ((laws_toGrammar.f k a0_0 a0_1 l0_2 l0_3).bind fun bt176 => ((laws_toGrammar.f k a1_0 a1_1 l1_2 l1_3).bind fun bt185 => ((impl_SameGrammar.f k bt176.1 bt176.2.1 bt176.2.2.1 bt176.2.2.2 bt185.1 bt185.2.1 bt185.2.2.1 bt185.2.2.2).bind fun t194 => (if (t194 != t175) = true then (some false) else ((laws_toGrammar.f k a0_0 a0_1 l0_2 l0_3).bind fun bt195 => ((laws_eqGrammar.f k bt176.1 bt176.2.1 bt176.2.2.1 bt176.2.2.2 bt195.1 bt195.2.1 bt195.2.2.1 bt195.2.2.2).bind fun t203 => (if t203 = true then ((laws_toGrammar.f k a1_0 a1_1 l1_2 l1_3).bind fun bt204 => ((laws_eqGrammar.f k bt185.1 bt185.2.1 bt185.2.2.1 bt185.2.2.2 bt204.1 bt204.2.1 bt204.2.2.1 bt204.2.2.2).bind fun t212 => (if t212 = true then (some true) else (some false)))) else (some false))))))))))))))) = some r := h
 clear h
 replace H := Option.bind_eq_some_iff.mp H
 obtain ⟨t157, A30, H⟩ := H
 replace H : (if t157 < 0 then (some true) else ((laws_szGrammar.f a1_0 a1_1 l1_2 l1_3 t157).bind fun t158 => (if t158 < 0 then (some true) else ((laws_toGrammar.f k a0_0 a0_1 l0_2 l0_3).bind fun bt159 => ((laws_toGrammar.f k a1_0 a1_1 l1_2 l1_3).bind fun bt167 => ((spec_SameGrammar.f k bt159.1 bt159.2.1 bt159.2.2.1 bt159.2.2.2 bt167.1 bt167.2.1 bt167.2.2.1 bt167.2.2.2).bind fun t175 => ((laws_toGrammar.f k a0_0 a0_1 l0_2 l0_3).bind fun bt176 => ((laws_toGrammar.f k a1_0 a1_1 l1_2 l1_3).bind fun bt185 => ((impl_SameGrammar.f k bt176.1 bt176.2.1 bt176.2.2.1 bt176.2.2.2 bt185.1 bt185.2.1 bt185.2.2.1 bt185.2.2.2).bind fun t194 => (if (t194 != t175) = true then (some false) else ((laws_toGrammar.f k a0_0 a0_1 l0_2 l0_3).bind fun bt195 => ((laws_eqGrammar.f k bt176.1 bt176.2.1 bt176.2.2.1 bt176.2.2.2 bt195.1 bt195.2.1 bt195.2.2.1 bt195.2.2.2).bind fun t203 => (if t203 = true then ((laws_toGrammar.f k a1_0 a1_1 l1_2 l1_3).bind fun bt204 => ((laws_eqGrammar.f k bt185.1 bt185.2.1 bt185.2.2.1 bt185.2.2.2 bt204.1 bt204.2.1 bt204.2.2.1 bt204.2.2.2).bind fun t212 => (if t212 = true then (some true) else (some false)))) else (some false)))))))))))))) = some r := H
 have A3 := Aside0.mk A30
 clear A30
 by_cases c4 : t157 < 0
 ·rw [if_pos c4] at H
  have c4b0 : decide (t157 < 0) = true := decide_eq_true c4
  clear c4
  obtain rfl := Option.some.inj H
  go_enter Try.func3, Try.ntmps3
  go_wp2_with (first | ((with_reducible refine gate_dst (N := 2) rfl ?_); refine bE ?hg (N := 2) ?hd (cs := #[.int .i64 a0_0, .int .i64 a0_1, .slice A0_2 l0_2.length c0_2, .slice A0_3 l0_3.length c0_3]) (t := 25) ?hr ?_; (case hd => rfl); (case hg => rfl); (case hr => first | (go_simp; done) | (go_simp; rfl)); intro gb155 hg w5 hbox hb; have z_ := bX hb (by repeat (first | (with_reducible first | exact HB.out | apply bA | apply bN | apply bD) | exact HB.out)); have n0_ := Aside0.mk (bP z_ hb); have n1_ := Aside0.mk (hbox); have n2_ := Aside0.mk ((by rw [hg]; exact (bZ z_) : w.heap.size ≤ gb155)); have n3_ := Aside0.mk ((by rw [hg]; exact (bZ z_) : w.heap.size ≤ gb155)); clear HB; have HB := n0_; have BK155 := n1_; have GW155 := n2_; have GE155 := n3_; clear z_ n0_ n1_ n2_ n3_; clear hb hbox hg) | ((with_reducible refine gate_dst (N := 3) rfl ?_); refine bE ?hg (N := 3) ?hd (cs := #[.int .i64 a1_0, .int .i64 a1_1, .slice A1_2 l1_2.length c1_2, .slice A1_3 l1_3.length c1_3]) (t := 25) ?hr ?_; (case hd => rfl); (case hg => rfl); (case hr => first | (go_simp; done) | (go_simp; rfl)); intro gb156 hg w6 hbox hb; have z_ := bX hb (by repeat (first | (with_reducible first | exact HB.out | apply bA | apply bN | apply bD | refine bS ?_ GE155.out) | exact HB.out)); have n0_ := Aside0.mk (kB (kQ BK155) hb); have n1_ := Aside0.mk (bP z_ hb); have n2_ := Aside0.mk (hbox); have n3_ := Aside0.mk ((by rw [hg]; exact (bZ z_) : w.heap.size ≤ gb156)); have n4_ := Aside0.mk ((by rw [hg]; exact (bZ z_) : w.heap.size ≤ gb156)); have n5_ := Aside0.mk ((by rw [hg]; exact Nat.ne_of_lt (kL (kQ BK155)) : gb155 ≠ gb156)); have n6_ := Aside0.mk ((by rw [hg]; exact Nat.ne_of_gt (kL (kQ BK155)) : gb156 ≠ gb155)); clear BK155; clear HB; have BK155 := n0_; have HB := n1_; have BK156 := n2_; have GW156 := n3_; have GE156 := n4_; have NB155_156 := n5_; have NB156_155 := n6_; clear z_ n0_ n1_ n2_ n3_ n4_ n5_ n6_; clear hb hbox hg; have hnb7 := NB155_156.out; have hnc7 := NB156_155.out; have hcz8_0 : w6.cell? ⟨gb155, 0, none⟩ = some (.int .i64 a0_0) := (kC BK155.out 0).trans rfl; have hcz8_1 : w6.cell? ⟨gb155, 1, none⟩ = some (.int .i64 a0_1) := (kC BK155.out 1).trans rfl; have hcz8_2 : w6.cell? ⟨gb155, 2, none⟩ = some (.slice A0_2 l0_2.length c0_2) := (kC BK155.out 2).trans rfl; have hcz8_3 : w6.cell? ⟨gb155, 3, none⟩ = some (.slice A0_3 l0_3.length c0_3) := (kC BK155.out 3).trans rfl; have hfz8_0 := blk_frozen BK155.out 0; have hfz8_1 := blk_frozen BK155.out 1; have hfz8_2 := blk_frozen BK155.out 2; have hfz8_3 := blk_frozen BK155.out 3) | ((with_reducible refine gC (f := 15) rfl ?_); refine goesL_ (some 12) rfl rfl Try.func15 (by kernel_rfl) rfl #[.agg #[.int .i64 a0_0, .int .i64 a0_1, .slice A0_2 l0_2.length c0_2, .slice A0_3 l0_3.length c0_3], .int .i64 1048576] rfl lQ ?_; (with_reducible refine (laws_szGrammar.calls a0_0 a0_1 _ _ l0_2 _ _ l0_3 1048576 t157 _ ?side1 ?side2 ?side3 ?side4 A3.out).mono ?_); (case side1 => repeat (first | exact (cB HR0_2.out HB.out) | (with_reducible refine cA ?_ _) | (with_reducible refine cN ?_ _) | (with_reducible refine cD ?_))); (case side2 => exact HC0_2.out); (case side3 => repeat (first | exact (cB HR0_3.out HB.out) | (with_reducible refine cA ?_ _) | (with_reducible refine cN ?_ _) | (with_reducible refine cD ?_))); (case side4 => exact HC0_3.out); rintro e w9 ⟨rfl, hb⟩; refine ⟨_, rfl, ?_⟩; have n0_ := Aside0.mk (kB (kQ BK155) hb); have n1_ := Aside0.mk (kB (kQ BK156) hb); have n2_ := Aside0.mk (bP (by repeat (first | (with_reducible first | exact HB.out | apply bA | apply bN | apply bD | refine bS ?_ GE155.out | refine bS ?_ GE156.out) | exact HB.out)) hb); clear BK155; clear BK156; clear HB; have BK155 := n0_; have BK156 := n1_; have HB := n2_; clear n0_ n1_ n2_; (try clear hb); (try clear hb2); (try clear hk); (try clear hi)))
  go_ret
  exact ⟨by first | rfl | (simp [errW_none, errW_some] <;> rfl) | (simp [*, errW_none, errW_some] <;> rfl), by repeat (first | (with_reducible first | exact HB.out | apply bA | apply bN | apply bD | refine bS ?_ GE155.out | refine bS ?_ GE156.out) | exact HB.out)⟩
 ·rw [if_neg c4] at H
  have c4b0 : decide (t157 < 0) = false := decide_eq_false c4
  clear c4
  replace H := Option.bind_eq_some_iff.mp H
  obtain ⟨t158, A100, H⟩ := H
  replace H : (if t158 < 0 then (some true) else ((laws_toGrammar.f k a0_0 a0_1 l0_2 l0_3).bind fun bt159 => ((laws_toGrammar.f k a1_0 a1_1 l1_2 l1_3).bind fun bt167 => ((spec_SameGrammar.f k bt159.1 bt159.2.1 bt159.2.2.1 bt159.2.2.2 bt167.1 bt167.2.1 bt167.2.2.1 bt167.2.2.2).bind fun t175 => ((laws_toGrammar.f k a0_0 a0_1 l0_2 l0_3).bind fun bt176 => ((laws_toGrammar.f k a1_0 a1_1 l1_2 l1_3).bind fun bt185 => ((impl_SameGrammar.f k bt176.1 bt176.2.1 bt176.2.2.1 bt176.2.2.2 bt185.1 bt185.2.1 bt185.2.2.1 bt185.2.2.2).bind fun t194 => (if (t194 != t175) = true then (some false) else ((laws_toGrammar.f k a0_0 a0_1 l0_2 l0_3).bind fun bt195 => ((laws_eqGrammar.f k bt176.1 bt176.2.1 bt176.2.2.1 bt176.2.2.2 bt195.1 bt195.2.1 bt195.2.2.1 bt195.2.2.2).bind fun t203 => (if t203 = true then ((laws_toGrammar.f k a1_0 a1_1 l1_2 l1_3).bind fun bt204 => ((laws_eqGrammar.f k bt185.1 bt185.2.1 bt185.2.2.1 bt185.2.2.2 bt204.1 bt204.2.1 bt204.2.2.1 bt204.2.2.2).bind fun t212 => (if t212 = true then (some true) else (some false)))) else (some false)))))))))))) = some r := H
  have A10 := Aside0.mk A100
  clear A100
  by_cases c11 : t158 < 0
  ·rw [if_pos c11] at H
   have c11b0 : decide (t158 < 0) = true := decide_eq_true c11
   clear c11
   obtain rfl := Option.some.inj H
   go_enter Try.func3, Try.ntmps3
   go_wp2_with (first | ((with_reducible refine gate_dst (N := 2) rfl ?_); refine bE ?hg (N := 2) ?hd (cs := #[.int .i64 a0_0, .int .i64 a0_1, .slice A0_2 l0_2.length c0_2, .slice A0_3 l0_3.length c0_3]) (t := 25) ?hr ?_; (case hd => rfl); (case hg => rfl); (case hr => first | (go_simp; done) | (go_simp; rfl)); intro gb155 hg w12 hbox hb; have z_ := bX hb (by repeat (first | (with_reducible first | exact HB.out | apply bA | apply bN | apply bD) | exact HB.out)); have n0_ := Aside0.mk (bP z_ hb); have n1_ := Aside0.mk (hbox); have n2_ := Aside0.mk ((by rw [hg]; exact (bZ z_) : w.heap.size ≤ gb155)); have n3_ := Aside0.mk ((by rw [hg]; exact (bZ z_) : w.heap.size ≤ gb155)); clear HB; have HB := n0_; have BK155 := n1_; have GW155 := n2_; have GE155 := n3_; clear z_ n0_ n1_ n2_ n3_; clear hb hbox hg) | ((with_reducible refine gate_dst (N := 3) rfl ?_); refine bE ?hg (N := 3) ?hd (cs := #[.int .i64 a1_0, .int .i64 a1_1, .slice A1_2 l1_2.length c1_2, .slice A1_3 l1_3.length c1_3]) (t := 25) ?hr ?_; (case hd => rfl); (case hg => rfl); (case hr => first | (go_simp; done) | (go_simp; rfl)); intro gb156 hg w13 hbox hb; have z_ := bX hb (by repeat (first | (with_reducible first | exact HB.out | apply bA | apply bN | apply bD | refine bS ?_ GE155.out) | exact HB.out)); have n0_ := Aside0.mk (kB (kQ BK155) hb); have n1_ := Aside0.mk (bP z_ hb); have n2_ := Aside0.mk (hbox); have n3_ := Aside0.mk ((by rw [hg]; exact (bZ z_) : w.heap.size ≤ gb156)); have n4_ := Aside0.mk ((by rw [hg]; exact (bZ z_) : w.heap.size ≤ gb156)); have n5_ := Aside0.mk ((by rw [hg]; exact Nat.ne_of_lt (kL (kQ BK155)) : gb155 ≠ gb156)); have n6_ := Aside0.mk ((by rw [hg]; exact Nat.ne_of_gt (kL (kQ BK155)) : gb156 ≠ gb155)); clear BK155; clear HB; have BK155 := n0_; have HB := n1_; have BK156 := n2_; have GW156 := n3_; have GE156 := n4_; have NB155_156 := n5_; have NB156_155 := n6_; clear z_ n0_ n1_ n2_ n3_ n4_ n5_ n6_; clear hb hbox hg; have hnb14 := NB155_156.out; have hnc14 := NB156_155.out; have hcz15_0 : w13.cell? ⟨gb155, 0, none⟩ = some (.int .i64 a0_0) := (kC BK155.out 0).trans rfl; have hcz15_1 : w13.cell? ⟨gb155, 1, none⟩ = some (.int .i64 a0_1) := (kC BK155.out 1).trans rfl; have hcz15_2 : w13.cell? ⟨gb155, 2, none⟩ = some (.slice A0_2 l0_2.length c0_2) := (kC BK155.out 2).trans rfl; have hcz15_3 : w13.cell? ⟨gb155, 3, none⟩ = some (.slice A0_3 l0_3.length c0_3) := (kC BK155.out 3).trans rfl; have hfz15_0 := blk_frozen BK155.out 0; have hfz15_1 := blk_frozen BK155.out 1; have hfz15_2 := blk_frozen BK155.out 2; have hfz15_3 := blk_frozen BK155.out 3) | ((with_reducible refine gC (f := 15) rfl ?_); refine goesL_ (some 12) rfl rfl Try.func15 (by kernel_rfl) rfl #[.agg #[.int .i64 a0_0, .int .i64 a0_1, .slice A0_2 l0_2.length c0_2, .slice A0_3 l0_3.length c0_3], .int .i64 1048576] rfl lQ ?_; (with_reducible refine (laws_szGrammar.calls a0_0 a0_1 _ _ l0_2 _ _ l0_3 1048576 t157 _ ?side1 ?side2 ?side3 ?side4 A3.out).mono ?_); (case side1 => repeat (first | exact (cB HR0_2.out HB.out) | (with_reducible refine cA ?_ _) | (with_reducible refine cN ?_ _) | (with_reducible refine cD ?_))); (case side2 => exact HC0_2.out); (case side3 => repeat (first | exact (cB HR0_3.out HB.out) | (with_reducible refine cA ?_ _) | (with_reducible refine cN ?_ _) | (with_reducible refine cD ?_))); (case side4 => exact HC0_3.out); rintro e w16 ⟨rfl, hb⟩; refine ⟨_, rfl, ?_⟩; have n0_ := Aside0.mk (kB (kQ BK155) hb); have n1_ := Aside0.mk (kB (kQ BK156) hb); have n2_ := Aside0.mk (bP (by repeat (first | (with_reducible first | exact HB.out | apply bA | apply bN | apply bD | refine bS ?_ GE155.out | refine bS ?_ GE156.out) | exact HB.out)) hb); clear BK155; clear BK156; clear HB; have BK155 := n0_; have BK156 := n1_; have HB := n2_; clear n0_ n1_ n2_; (try clear hb); (try clear hb2); (try clear hk); (try clear hi); have hcz17_0 : w16.cell? ⟨gb156, 0, none⟩ = some (.int .i64 a1_0) := (kC BK156.out 0).trans rfl; have hcz17_1 : w16.cell? ⟨gb156, 1, none⟩ = some (.int .i64 a1_1) := (kC BK156.out 1).trans rfl; have hcz17_2 : w16.cell? ⟨gb156, 2, none⟩ = some (.slice A1_2 l1_2.length c1_2) := (kC BK156.out 2).trans rfl; have hcz17_3 : w16.cell? ⟨gb156, 3, none⟩ = some (.slice A1_3 l1_3.length c1_3) := (kC BK156.out 3).trans rfl; have hfz17_0 := blk_frozen BK156.out 0; have hfz17_1 := blk_frozen BK156.out 1; have hfz17_2 := blk_frozen BK156.out 2; have hfz17_3 := blk_frozen BK156.out 3) | ((with_reducible refine gC (f := 15) rfl ?_); refine goesL_ (some 17) rfl rfl Try.func15 (by kernel_rfl) rfl #[.agg #[.int .i64 a1_0, .int .i64 a1_1, .slice A1_2 l1_2.length c1_2, .slice A1_3 l1_3.length c1_3], .int .i64 t157] rfl lQ ?_; (with_reducible refine (laws_szGrammar.calls a1_0 a1_1 _ _ l1_2 _ _ l1_3 t157 t158 _ ?side1 ?side2 ?side3 ?side4 A10.out).mono ?_); (case side1 => repeat (first | exact (cB HR1_2.out HB.out) | (with_reducible refine cA ?_ _) | (with_reducible refine cN ?_ _) | (with_reducible refine cD ?_))); (case side2 => exact HC1_2.out); (case side3 => repeat (first | exact (cB HR1_3.out HB.out) | (with_reducible refine cA ?_ _) | (with_reducible refine cN ?_ _) | (with_reducible refine cD ?_))); (case side4 => exact HC1_3.out); rintro e w18 ⟨rfl, hb⟩; refine ⟨_, rfl, ?_⟩; have n0_ := Aside0.mk (kB (kQ BK155) hb); have n1_ := Aside0.mk (kB (kQ BK156) hb); have n2_ := Aside0.mk (bP (by repeat (first | (with_reducible first | exact HB.out | apply bA | apply bN | apply bD | refine bS ?_ GE155.out | refine bS ?_ GE156.out) | exact HB.out)) hb); clear BK155; clear BK156; clear HB; have BK155 := n0_; have BK156 := n1_; have HB := n2_; clear n0_ n1_ n2_; (try clear hb); (try clear hb2); (try clear hk); (try clear hi)))
   go_ret
   exact ⟨by first | rfl | (simp [errW_none, errW_some] <;> rfl) | (simp [*, errW_none, errW_some] <;> rfl), by repeat (first | (with_reducible first | exact HB.out | apply bA | apply bN | apply bD | refine bS ?_ GE155.out | refine bS ?_ GE156.out) | exact HB.out)⟩
  ·rw [if_neg c11] at H
   have c11b0 : decide (t158 < 0) = false := decide_eq_false c11
   clear c11
   replace H := Option.bind_eq_some_iff.mp H
   obtain ⟨⟨t159, t160, t161, t164⟩, A190, H⟩ := H
   replace H : ((laws_toGrammar.f k a1_0 a1_1 l1_2 l1_3).bind fun bt167 => ((spec_SameGrammar.f k t159 t160 t161 t164 bt167.1 bt167.2.1 bt167.2.2.1 bt167.2.2.2).bind fun t175 => ((laws_toGrammar.f k a0_0 a0_1 l0_2 l0_3).bind fun bt176 => ((laws_toGrammar.f k a1_0 a1_1 l1_2 l1_3).bind fun bt185 => ((impl_SameGrammar.f k bt176.1 bt176.2.1 bt176.2.2.1 bt176.2.2.2 bt185.1 bt185.2.1 bt185.2.2.1 bt185.2.2.2).bind fun t194 => (if (t194 != t175) = true then (some false) else ((laws_toGrammar.f k a0_0 a0_1 l0_2 l0_3).bind fun bt195 => ((laws_eqGrammar.f k bt176.1 bt176.2.1 bt176.2.2.1 bt176.2.2.2 bt195.1 bt195.2.1 bt195.2.2.1 bt195.2.2.2).bind fun t203 => (if t203 = true then ((laws_toGrammar.f k a1_0 a1_1 l1_2 l1_3).bind fun bt204 => ((laws_eqGrammar.f k bt185.1 bt185.2.1 bt185.2.2.1 bt185.2.2.2 bt204.1 bt204.2.1 bt204.2.2.1 bt204.2.2.2).bind fun t212 => (if t212 = true then (some true) else (some false)))) else (some false)))))))))) = some r := H
   have A19 := Aside0.mk A190
   clear A190
   replace H := Option.bind_eq_some_iff.mp H
   obtain ⟨⟨t167, t168, t169, t172⟩, A200, H⟩ := H
   replace H : ((spec_SameGrammar.f k t159 t160 t161 t164 t167 t168 t169 t172).bind fun t175 => ((laws_toGrammar.f k a0_0 a0_1 l0_2 l0_3).bind fun bt176 => ((laws_toGrammar.f k a1_0 a1_1 l1_2 l1_3).bind fun bt185 => ((impl_SameGrammar.f k bt176.1 bt176.2.1 bt176.2.2.1 bt176.2.2.2 bt185.1 bt185.2.1 bt185.2.2.1 bt185.2.2.2).bind fun t194 => (if (t194 != t175) = true then (some false) else ((laws_toGrammar.f k a0_0 a0_1 l0_2 l0_3).bind fun bt195 => ((laws_eqGrammar.f k bt176.1 bt176.2.1 bt176.2.2.1 bt176.2.2.2 bt195.1 bt195.2.1 bt195.2.2.1 bt195.2.2.2).bind fun t203 => (if t203 = true then ((laws_toGrammar.f k a1_0 a1_1 l1_2 l1_3).bind fun bt204 => ((laws_eqGrammar.f k bt185.1 bt185.2.1 bt185.2.2.1 bt185.2.2.2 bt204.1 bt204.2.1 bt204.2.2.1 bt204.2.2.2).bind fun t212 => (if t212 = true then (some true) else (some false)))) else (some false))))))))) = some r := H
   have A20 := Aside0.mk A200
   clear A200
   replace H := Option.bind_eq_some_iff.mp H
   obtain ⟨t175, A210, H⟩ := H
   replace H : ((laws_toGrammar.f k a0_0 a0_1 l0_2 l0_3).bind fun bt176 => ((laws_toGrammar.f k a1_0 a1_1 l1_2 l1_3).bind fun bt185 => ((impl_SameGrammar.f k bt176.1 bt176.2.1 bt176.2.2.1 bt176.2.2.2 bt185.1 bt185.2.1 bt185.2.2.1 bt185.2.2.2).bind fun t194 => (if (t194 != t175) = true then (some false) else ((laws_toGrammar.f k a0_0 a0_1 l0_2 l0_3).bind fun bt195 => ((laws_eqGrammar.f k bt176.1 bt176.2.1 bt176.2.2.1 bt176.2.2.2 bt195.1 bt195.2.1 bt195.2.2.1 bt195.2.2.2).bind fun t203 => (if t203 = true then ((laws_toGrammar.f k a1_0 a1_1 l1_2 l1_3).bind fun bt204 => ((laws_eqGrammar.f k bt185.1 bt185.2.1 bt185.2.2.1 bt185.2.2.2 bt204.1 bt204.2.1 bt204.2.2.1 bt204.2.2.2).bind fun t212 => (if t212 = true then (some true) else (some false)))) else (some false)))))))) = some r := H
   have A21 := Aside0.mk A210
   clear A210
   replace H := Option.bind_eq_some_iff.mp H
   obtain ⟨⟨t176, t177, t178, t181⟩, A220, H⟩ := H
   replace H : ((laws_toGrammar.f k a1_0 a1_1 l1_2 l1_3).bind fun bt185 => ((impl_SameGrammar.f k t176 t177 t178 t181 bt185.1 bt185.2.1 bt185.2.2.1 bt185.2.2.2).bind fun t194 => (if (t194 != t175) = true then (some false) else ((laws_toGrammar.f k a0_0 a0_1 l0_2 l0_3).bind fun bt195 => ((laws_eqGrammar.f k t176 t177 t178 t181 bt195.1 bt195.2.1 bt195.2.2.1 bt195.2.2.2).bind fun t203 => (if t203 = true then ((laws_toGrammar.f k a1_0 a1_1 l1_2 l1_3).bind fun bt204 => ((laws_eqGrammar.f k bt185.1 bt185.2.1 bt185.2.2.1 bt185.2.2.2 bt204.1 bt204.2.1 bt204.2.2.1 bt204.2.2.2).bind fun t212 => (if t212 = true then (some true) else (some false)))) else (some false))))))) = some r := H
   have A22 := Aside0.mk A220
   clear A220
   replace H := Option.bind_eq_some_iff.mp H
   obtain ⟨⟨t185, t186, t187, t190⟩, A230, H⟩ := H
   replace H : ((impl_SameGrammar.f k t176 t177 t178 t181 t185 t186 t187 t190).bind fun t194 => (if (t194 != t175) = true then (some false) else ((laws_toGrammar.f k a0_0 a0_1 l0_2 l0_3).bind fun bt195 => ((laws_eqGrammar.f k t176 t177 t178 t181 bt195.1 bt195.2.1 bt195.2.2.1 bt195.2.2.2).bind fun t203 => (if t203 = true then ((laws_toGrammar.f k a1_0 a1_1 l1_2 l1_3).bind fun bt204 => ((laws_eqGrammar.f k t185 t186 t187 t190 bt204.1 bt204.2.1 bt204.2.2.1 bt204.2.2.2).bind fun t212 => (if t212 = true then (some true) else (some false)))) else (some false)))))) = some r := H
   have A23 := Aside0.mk A230
   clear A230
   replace H := Option.bind_eq_some_iff.mp H
   obtain ⟨t194, A240, H⟩ := H
   replace H : (if (t194 != t175) = true then (some false) else ((laws_toGrammar.f k a0_0 a0_1 l0_2 l0_3).bind fun bt195 => ((laws_eqGrammar.f k t176 t177 t178 t181 bt195.1 bt195.2.1 bt195.2.2.1 bt195.2.2.2).bind fun t203 => (if t203 = true then ((laws_toGrammar.f k a1_0 a1_1 l1_2 l1_3).bind fun bt204 => ((laws_eqGrammar.f k t185 t186 t187 t190 bt204.1 bt204.2.1 bt204.2.2.1 bt204.2.2.2).bind fun t212 => (if t212 = true then (some true) else (some false)))) else (some false))))) = some r := H
   have A24 := Aside0.mk A240
   clear A240
   by_cases c25 : (t194 != t175) = true
   ·rw [if_pos c25] at H
    have c25b0 : (t194 != t175) = true := c25
    (try (have c25b1 : decide (t194 = t175) = false := by simpa using c25))
    (try (have c25b2 : (t194 == t175) = false := by simpa using c25))
    (try (have c25b3 : ¬ (t194 = t175) := by simpa using c25))
    clear c25
    obtain rfl := Option.some.inj H
    go_enter Try.func3, Try.ntmps3
    try go_wp2_with (first | ((with_reducible refine gate_dst (N := 2) rfl ?_); refine bE ?hg (N := 2) ?hd (cs := #[.int .i64 a0_0, .int .i64 a0_1, .slice A0_2 l0_2.length c0_2, .slice A0_3 l0_3.length c0_3]) (t := 25) ?hr ?_; (case hd => rfl); (case hg => rfl); (case hr => first | (go_simp; done) | (go_simp; rfl)); intro gb155 hg w26 hbox hb; have z_ := bX hb (by repeat (first | (with_reducible first | exact HB.out | apply bA | apply bN | apply bD) | exact HB.out)); have n0_ := Aside0.mk (bP z_ hb); have n1_ := Aside0.mk (hbox); have n2_ := Aside0.mk ((by rw [hg]; exact (bZ z_) : w.heap.size ≤ gb155)); have n3_ := Aside0.mk ((by rw [hg]; exact (bZ z_) : w.heap.size ≤ gb155)); clear HB; have HB := n0_; have BK155 := n1_; have GW155 := n2_; have GE155 := n3_; clear z_ n0_ n1_ n2_ n3_; clear hb hbox hg) | ((with_reducible refine gate_dst (N := 3) rfl ?_); refine bE ?hg (N := 3) ?hd (cs := #[.int .i64 a1_0, .int .i64 a1_1, .slice A1_2 l1_2.length c1_2, .slice A1_3 l1_3.length c1_3]) (t := 25) ?hr ?_; (case hd => rfl); (case hg => rfl); (case hr => first | (go_simp; done) | (go_simp; rfl)); intro gb156 hg w27 hbox hb; have z_ := bX hb (by repeat (first | (with_reducible first | exact HB.out | apply bA | apply bN | apply bD | refine bS ?_ GE155.out) | exact HB.out)); have n0_ := Aside0.mk (kB (kQ BK155) hb); have n1_ := Aside0.mk (bP z_ hb); have n2_ := Aside0.mk (hbox); have n3_ := Aside0.mk ((by rw [hg]; exact (bZ z_) : w.heap.size ≤ gb156)); have n4_ := Aside0.mk ((by rw [hg]; exact (bZ z_) : w.heap.size ≤ gb156)); have n5_ := Aside0.mk ((by rw [hg]; exact Nat.ne_of_lt (kL (kQ BK155)) : gb155 ≠ gb156)); have n6_ := Aside0.mk ((by rw [hg]; exact Nat.ne_of_gt (kL (kQ BK155)) : gb156 ≠ gb155)); clear BK155; clear HB; have BK155 := n0_; have HB := n1_; have BK156 := n2_; have GW156 := n3_; have GE156 := n4_; have NB155_156 := n5_; have NB156_155 := n6_; clear z_ n0_ n1_ n2_ n3_ n4_ n5_ n6_; clear hb hbox hg; have hnb28 := NB155_156.out; have hnc28 := NB156_155.out; have hcz29_0 : w27.cell? ⟨gb155, 0, none⟩ = some (.int .i64 a0_0) := (kC BK155.out 0).trans rfl; have hcz29_1 : w27.cell? ⟨gb155, 1, none⟩ = some (.int .i64 a0_1) := (kC BK155.out 1).trans rfl; have hcz29_2 : w27.cell? ⟨gb155, 2, none⟩ = some (.slice A0_2 l0_2.length c0_2) := (kC BK155.out 2).trans rfl; have hcz29_3 : w27.cell? ⟨gb155, 3, none⟩ = some (.slice A0_3 l0_3.length c0_3) := (kC BK155.out 3).trans rfl; have hfz29_0 := blk_frozen BK155.out 0; have hfz29_1 := blk_frozen BK155.out 1; have hfz29_2 := blk_frozen BK155.out 2; have hfz29_3 := blk_frozen BK155.out 3) | ((with_reducible refine gC (f := 15) rfl ?_); refine goesL_ (some 12) rfl rfl Try.func15 (by kernel_rfl) rfl #[.agg #[.int .i64 a0_0, .int .i64 a0_1, .slice A0_2 l0_2.length c0_2, .slice A0_3 l0_3.length c0_3], .int .i64 1048576] rfl lQ ?_; (with_reducible refine (laws_szGrammar.calls a0_0 a0_1 _ _ l0_2 _ _ l0_3 1048576 t157 _ ?side1 ?side2 ?side3 ?side4 A3.out).mono ?_); (case side1 => repeat (first | exact (cB HR0_2.out HB.out) | (with_reducible refine cA ?_ _) | (with_reducible refine cN ?_ _) | (with_reducible refine cD ?_))); (case side2 => exact HC0_2.out); (case side3 => repeat (first | exact (cB HR0_3.out HB.out) | (with_reducible refine cA ?_ _) | (with_reducible refine cN ?_ _) | (with_reducible refine cD ?_))); (case side4 => exact HC0_3.out); rintro e w30 ⟨rfl, hb⟩; refine ⟨_, rfl, ?_⟩; have n0_ := Aside0.mk (kB (kQ BK155) hb); have n1_ := Aside0.mk (kB (kQ BK156) hb); have n2_ := Aside0.mk (bP (by repeat (first | (with_reducible first | exact HB.out | apply bA | apply bN | apply bD | refine bS ?_ GE155.out | refine bS ?_ GE156.out) | exact HB.out)) hb); clear BK155; clear BK156; clear HB; have BK155 := n0_; have BK156 := n1_; have HB := n2_; clear n0_ n1_ n2_; (try clear hb); (try clear hb2); (try clear hk); (try clear hi); have hcz31_0 : w30.cell? ⟨gb156, 0, none⟩ = some (.int .i64 a1_0) := (kC BK156.out 0).trans rfl; have hcz31_1 : w30.cell? ⟨gb156, 1, none⟩ = some (.int .i64 a1_1) := (kC BK156.out 1).trans rfl; have hcz31_2 : w30.cell? ⟨gb156, 2, none⟩ = some (.slice A1_2 l1_2.length c1_2) := (kC BK156.out 2).trans rfl; have hcz31_3 : w30.cell? ⟨gb156, 3, none⟩ = some (.slice A1_3 l1_3.length c1_3) := (kC BK156.out 3).trans rfl; have hfz31_0 := blk_frozen BK156.out 0; have hfz31_1 := blk_frozen BK156.out 1; have hfz31_2 := blk_frozen BK156.out 2; have hfz31_3 := blk_frozen BK156.out 3) | ((with_reducible refine gC (f := 15) rfl ?_); refine goesL_ (some 17) rfl rfl Try.func15 (by kernel_rfl) rfl #[.agg #[.int .i64 a1_0, .int .i64 a1_1, .slice A1_2 l1_2.length c1_2, .slice A1_3 l1_3.length c1_3], .int .i64 t157] rfl lQ ?_; (with_reducible refine (laws_szGrammar.calls a1_0 a1_1 _ _ l1_2 _ _ l1_3 t157 t158 _ ?side1 ?side2 ?side3 ?side4 A10.out).mono ?_); (case side1 => repeat (first | exact (cB HR1_2.out HB.out) | (with_reducible refine cA ?_ _) | (with_reducible refine cN ?_ _) | (with_reducible refine cD ?_))); (case side2 => exact HC1_2.out); (case side3 => repeat (first | exact (cB HR1_3.out HB.out) | (with_reducible refine cA ?_ _) | (with_reducible refine cN ?_ _) | (with_reducible refine cD ?_))); (case side4 => exact HC1_3.out); rintro e w32 ⟨rfl, hb⟩; refine ⟨_, rfl, ?_⟩; have n0_ := Aside0.mk (kB (kQ BK155) hb); have n1_ := Aside0.mk (kB (kQ BK156) hb); have n2_ := Aside0.mk (bP (by repeat (first | (with_reducible first | exact HB.out | apply bA | apply bN | apply bD | refine bS ?_ GE155.out | refine bS ?_ GE156.out) | exact HB.out)) hb); clear BK155; clear BK156; clear HB; have BK155 := n0_; have BK156 := n1_; have HB := n2_; clear n0_ n1_ n2_; (try clear hb); (try clear hb2); (try clear hk); (try clear hi)))
    have n0_ := Aside0.mk (kD BK155.out)
    have n1_ := Aside0.mk (kD BK156.out)
    have n2_ := Aside0.mk (bD HB.out)
    clear BK155
    clear BK156
    clear HB
    have BK155 := n0_
    have BK156 := n1_
    have HB := n2_
    clear n0_ n1_ n2_
    refine start_ (n := 6) (S := fun w' => w'.cell? ⟨gb155, 0, none⟩ = some (.int .i64 a0_0) ∧ w'.cell? ⟨gb155, 1, none⟩ = some (.int .i64 a0_1) ∧ w'.cell? ⟨gb155, 2, none⟩ = some (.slice A0_2 l0_2.length c0_2) ∧ w'.cell? ⟨gb155, 3, none⟩ = some (.slice A0_3 l0_3.length c0_3) ∧ w'.cell? ⟨gb156, 0, none⟩ = some (.int .i64 a1_0) ∧ w'.cell? ⟨gb156, 1, none⟩ = some (.int .i64 a1_1) ∧ w'.cell? ⟨gb156, 2, none⟩ = some (.slice A1_2 l1_2.length c1_2) ∧ w'.cell? ⟨gb156, 3, none⟩ = some (.slice A1_3 l1_3.length c1_3)) (ds := []) #[F,F,F,F,F,F] (by kernel_rfl) rfl rfl ⟨(kC BK155.out 0).trans rfl, (kC BK155.out 1).trans rfl, (kC BK155.out 2).trans rfl, (kC BK155.out 3).trans rfl, (kC BK156.out 0).trans rfl, (kC BK156.out 1).trans rfl, (kC BK156.out 2).trans rfl, (kC BK156.out 3).trans rfl⟩ (fun hHeld => ?_)
    generalize w32.drew = w33 at BK155 BK156 HB hHeld ⊢
    refine take_ (i := 0) (N := some 20) (v := ?_) (a' := ?_) #[T,F,F,F,F,F] rfl rfl (by kernel_rfl) (fun _ _ _ h => h) (Or.inl ⟨by rfl, ?_⟩) hHeld ?_ ?_; rotate_left; (·rintro w' ⟨s0, s1, s2, s3, s4, s5, s6, s7⟩; go_simp; with_reducible rfl); rotate_left; (·simp only [Act.put, sI, sZ, sS, iW, jW]; rfl)
    refine take_ (i := 2) (N := some 22) (v := ?_) (a' := ?_) #[T,F,T,F,F,F] rfl rfl (by kernel_rfl) (fun _ _ _ h => h) (Or.inl ⟨by rfl, ?_⟩) hHeld ?_ ?_; rotate_left; (·rintro w' ⟨s0, s1, s2, s3, s4, s5, s6, s7⟩; go_simp; with_reducible rfl); rotate_left; (·simp only [Act.put, sI, sZ, sS, iW, jW]; rfl)
    refine one_ (i := 1) (N := some 21) #[T,T,T,F,F,F] rfl rfl (by kernel_rfl) (by decide) (fun K hK => ?_)
    refine goes_ Try.func17 (by kernel_rfl) rfl #[.agg #[.int .i64 a0_0, .int .i64 a0_1, .slice A0_2 l0_2.length c0_2, .slice A0_3 l0_3.length c0_3]] (by rfl) rfl rfl lQ ?_
    with_reducible refine (laws_toGrammar.calls k a0_0 a0_1 _ _ l0_2 _ _ l0_3 t159 t160 t161 t164 _ ?side1 ?side2 ?side3 ?side4 A19.out).mono ?_
    (case side1 => repeat (first | exact (cB HR0_2.out HB.out) | (with_reducible refine cA ?_ _) | (with_reducible refine cN ?_ _) | (with_reducible refine cD ?_)))
    (case side2 => exact HC0_2.out)
    (case side3 => repeat (first | exact (cB HR0_3.out HB.out) | (with_reducible refine cA ?_ _) | (with_reducible refine cN ?_ _) | (with_reducible refine cD ?_)))
    (case side4 => exact HC0_3.out)
    rintro e w34 ⟨v162, v165, rfl, ho0, ho1, hb⟩
    refine ⟨_, rfl, ?_⟩
    have z_ := bX hb (by repeat (first | (with_reducible first | exact HB.out | apply bA | apply bN | apply bD | refine bS ?_ GE155.out | refine bS ?_ GE156.out) | exact HB.out))
    have n0_ := Aside0.mk (rL ho0 (bZ z_))
    have n1_ := Aside0.mk (rL ho1 (bZ z_))
    have n2_ := Aside0.mk (kB (kQ BK155) hb)
    have n3_ := Aside0.mk (kB (kQ BK156) hb)
    have n4_ := Aside0.mk (bP z_ hb)
    clear BK155
    clear BK156
    clear HB
    have HO163 := n0_
    have HO166 := n1_
    have BK155 := n2_
    have BK156 := n3_
    have HB := n4_
    clear z_ n0_ n1_ n2_ n3_ n4_
    (try clear hb)
    (try clear hb2)
    (try clear hk)
    (try clear hi)
    (try clear ho0)
    (try clear ho1)
    refine hK.out _ _ ⟨(kC BK155.out 0).trans rfl, (kC BK155.out 1).trans rfl, (kC BK155.out 2).trans rfl, (kC BK155.out 3).trans rfl, (kC BK156.out 0).trans rfl, (kC BK156.out 1).trans rfl, (kC BK156.out 2).trans rfl, (kC BK156.out 3).trans rfl⟩ (fun hHeld => ?_)
    clear hK K
    refine norm_ (a' := ?_) ?_ ?_
    rotate_left
    ·show Act.put _ (some 21) _ = _
     simp only [Act.put, sI, sZ, sS, iW, jW]
     rfl
    refine one_ (i := 3) (N := some 23) #[T,T,T,T,F,F] rfl rfl (by kernel_rfl) (by decide) (fun K hK => ?_)
    refine goes_ Try.func17 (by kernel_rfl) rfl #[.agg #[.int .i64 a1_0, .int .i64 a1_1, .slice A1_2 l1_2.length c1_2, .slice A1_3 l1_3.length c1_3]] (by rfl) rfl rfl lQ ?_
    with_reducible refine (laws_toGrammar.calls k a1_0 a1_1 _ _ l1_2 _ _ l1_3 t167 t168 t169 t172 _ ?side1 ?side2 ?side3 ?side4 A20.out).mono ?_
    (case side1 => repeat (first | exact (cB HR1_2.out HB.out) | (with_reducible refine cA ?_ _) | (with_reducible refine cN ?_ _) | (with_reducible refine cD ?_)))
    (case side2 => exact HC1_2.out)
    (case side3 => repeat (first | exact (cB HR1_3.out HB.out) | (with_reducible refine cA ?_ _) | (with_reducible refine cN ?_ _) | (with_reducible refine cD ?_)))
    (case side4 => exact HC1_3.out)
    rintro e w35 ⟨v170, v173, rfl, ho0, ho1, hb⟩
    refine ⟨_, rfl, ?_⟩
    have z_ := bX hb (by repeat (first | (with_reducible first | exact HB.out | apply bA | apply bN | apply bD | refine bS ?_ GE155.out | refine bS ?_ GE156.out) | exact HB.out))
    have n0_ := Aside0.mk (rE (rQ HO163) (Kd.R_base ho0) hb)
    have n1_ := Aside0.mk (rE (rQ HO166) (Kd.R_base ho1) hb)
    have n2_ := Aside0.mk (rL (rW ho0 (rT (rQ HO163))) (bZ z_))
    have n3_ := Aside0.mk (rL (rW ho1 (rT (rQ HO166))) (bZ z_))
    have n4_ := Aside0.mk (kB (kQ BK155) hb)
    have n5_ := Aside0.mk (kB (kQ BK156) hb)
    have n6_ := Aside0.mk (bP z_ hb)
    clear HO163
    clear HO166
    clear BK155
    clear BK156
    clear HB
    have HO163 := n0_
    have HO166 := n1_
    have HO171 := n2_
    have HO174 := n3_
    have BK155 := n4_
    have BK156 := n5_
    have HB := n6_
    clear z_ n0_ n1_ n2_ n3_ n4_ n5_ n6_
    (try clear hb)
    (try clear hb2)
    (try clear hk)
    (try clear hi)
    (try clear ho0)
    (try clear ho1)
    obtain ⟨Ao36, co36, eo36⟩ := Kd.R_slice HO163.out
    (first | subst eo36 | (injection eo36 with f1_ f2_ f3_; have f4_ := f1_.symm; have f5_ := f3_.symm; clear f1_ f2_ f3_; subst f4_; subst f5_))
    obtain ⟨Ao37, co37, eo37⟩ := Kd.R_slice HO166.out
    (first | subst eo37 | (injection eo37 with f1_ f2_ f3_; have f4_ := f1_.symm; have f5_ := f3_.symm; clear f1_ f2_ f3_; subst f4_; subst f5_))
    obtain ⟨Ao38, co38, eo38⟩ := Kd.R_slice HO171.out
    (first | subst eo38 | (injection eo38 with f1_ f2_ f3_; have f4_ := f1_.symm; have f5_ := f3_.symm; clear f1_ f2_ f3_; subst f4_; subst f5_))
    obtain ⟨Ao39, co39, eo39⟩ := Kd.R_slice HO174.out
    (first | subst eo39 | (injection eo39 with f1_ f2_ f3_; have f4_ := f1_.symm; have f5_ := f3_.symm; clear f1_ f2_ f3_; subst f4_; subst f5_))
    refine hK.out _ _ ⟨(kC BK155.out 0).trans rfl, (kC BK155.out 1).trans rfl, (kC BK155.out 2).trans rfl, (kC BK155.out 3).trans rfl, (kC BK156.out 0).trans rfl, (kC BK156.out 1).trans rfl, (kC BK156.out 2).trans rfl, (kC BK156.out 3).trans rfl⟩ (fun hHeld => ?_)
    clear hK K
    refine norm_ (a' := ?_) ?_ ?_
    rotate_left
    ·show Act.put _ (some 23) _ = _
     simp only [Act.put, sI, sZ, sS, iW, jW]
     rfl
    refine one_ (i := 4) (N := some 24) #[T,T,T,T,T,F] rfl rfl (by kernel_rfl) (by decide) (fun K hK => ?_)
    refine goes_ Try.func16 (by kernel_rfl) rfl #[.agg #[.int .i64 t159, .int .i64 t160, .slice Ao36 t161.length co36, .slice Ao37 t164.length co37], .agg #[.int .i64 t167, .int .i64 t168, .slice Ao38 t169.length co38, .slice Ao39 t172.length co39]] (by rfl) rfl rfl lQ ?_
    with_reducible refine (spec_SameGrammar.calls k t159 t160 _ _ t161 _ _ t164 t167 t168 _ _ t169 _ _ t172 t175 _ ?side1 ?side2 ?side3 ?side4 ?side5 ?side6 ?side7 ?side8 A21.out).mono ?_
    (case side1 => repeat (first | exact (Kd.R_reads' HO163.out).2.2 | (with_reducible refine cA ?_ _) | (with_reducible refine cN ?_ _) | (with_reducible refine cD ?_)))
    (case side2 => exact (Kd.R_reads' HO163.out).2.1)
    (case side3 => repeat (first | exact (Kd.R_reads' HO166.out).2.2 | (with_reducible refine cA ?_ _) | (with_reducible refine cN ?_ _) | (with_reducible refine cD ?_)))
    (case side4 => exact (Kd.R_reads' HO166.out).2.1)
    (case side5 => repeat (first | exact (Kd.R_reads' HO171.out).2.2 | (with_reducible refine cA ?_ _) | (with_reducible refine cN ?_ _) | (with_reducible refine cD ?_)))
    (case side6 => exact (Kd.R_reads' HO171.out).2.1)
    (case side7 => repeat (first | exact (Kd.R_reads' HO174.out).2.2 | (with_reducible refine cA ?_ _) | (with_reducible refine cN ?_ _) | (with_reducible refine cD ?_)))
    (case side8 => exact (Kd.R_reads' HO174.out).2.1)
    rintro e w40 ⟨rfl, hb⟩
    refine ⟨_, rfl, ?_⟩
    have n0_ := Aside0.mk (rB (rQ HO163) hb)
    have n1_ := Aside0.mk (rB (rQ HO166) hb)
    have n2_ := Aside0.mk (rB (rQ HO171) hb)
    have n3_ := Aside0.mk (rB (rQ HO174) hb)
    have n4_ := Aside0.mk (kB (kQ BK155) hb)
    have n5_ := Aside0.mk (kB (kQ BK156) hb)
    have n6_ := Aside0.mk (bP (by repeat (first | (with_reducible first | exact HB.out | apply bA | apply bN | apply bD | refine bS ?_ GE155.out | refine bS ?_ GE156.out) | exact HB.out)) hb)
    clear HO163
    clear HO166
    clear HO171
    clear HO174
    clear BK155
    clear BK156
    clear HB
    have HO163 := n0_
    have HO166 := n1_
    have HO171 := n2_
    have HO174 := n3_
    have BK155 := n4_
    have BK156 := n5_
    have HB := n6_
    clear n0_ n1_ n2_ n3_ n4_ n5_ n6_
    (try clear hb)
    (try clear hb2)
    (try clear hk)
    (try clear hi)
    refine hK.out _ _ ⟨(kC BK155.out 0).trans rfl, (kC BK155.out 1).trans rfl, (kC BK155.out 2).trans rfl, (kC BK155.out 3).trans rfl, (kC BK156.out 0).trans rfl, (kC BK156.out 1).trans rfl, (kC BK156.out 2).trans rfl, (kC BK156.out 3).trans rfl⟩ (fun hHeld => ?_)
    clear hK K
    refine norm_ (a' := ?_) ?_ ?_
    rotate_left
    ·show Act.put _ (some 24) _ = _
     simp only [Act.put, sI, sZ, sS, iW, jW]
     rfl
    refine pure_ (i := 5) (N := some 6) (v := ?_) (a' := ?_) #[T,T,T,T,T,T] rfl rfl (by kernel_rfl) (fun _ _ _ h => h) (Or.inl ⟨by rfl, ?_⟩) ?_ ?_; rotate_left; (·intro w'; go_simp; with_reducible rfl); rotate_left; (·simp only [Act.put, sI, sZ, sS, iW, jW]; rfl)
    refine done_ (by kernel_rfl) ?_
    have hcz41_0 : w40.cell? ⟨gb155, 0, none⟩ = some (.int .i64 a0_0) := (kC BK155.out 0).trans rfl
    have hcz41_1 : w40.cell? ⟨gb155, 1, none⟩ = some (.int .i64 a0_1) := (kC BK155.out 1).trans rfl
    have hcz41_2 : w40.cell? ⟨gb155, 2, none⟩ = some (.slice A0_2 l0_2.length c0_2) := (kC BK155.out 2).trans rfl
    have hcz41_3 : w40.cell? ⟨gb155, 3, none⟩ = some (.slice A0_3 l0_3.length c0_3) := (kC BK155.out 3).trans rfl
    have hfz41_0 := blk_frozen BK155.out 0
    have hfz41_1 := blk_frozen BK155.out 1
    have hfz41_2 := blk_frozen BK155.out 2
    have hfz41_3 := blk_frozen BK155.out 3
    try go_wp2_with (first | ((with_reducible refine gC (f := 17) rfl ?_); refine goesL_ (some 26) rfl rfl Try.func17 (by kernel_rfl) rfl #[.agg #[.int .i64 a0_0, .int .i64 a0_1, .slice A0_2 l0_2.length c0_2, .slice A0_3 l0_3.length c0_3]] rfl lQ ?_; (with_reducible refine (laws_toGrammar.calls k a0_0 a0_1 _ _ l0_2 _ _ l0_3 t176 t177 t178 t181 _ ?side1 ?side2 ?side3 ?side4 A22.out).mono ?_); (case side1 => repeat (first | exact (cB HR0_2.out HB.out) | (with_reducible refine cA ?_ _) | (with_reducible refine cN ?_ _) | (with_reducible refine cD ?_))); (case side2 => exact HC0_2.out); (case side3 => repeat (first | exact (cB HR0_3.out HB.out) | (with_reducible refine cA ?_ _) | (with_reducible refine cN ?_ _) | (with_reducible refine cD ?_))); (case side4 => exact HC0_3.out); rintro e w42 ⟨v179, v182, rfl, ho0, ho1, hb⟩; refine ⟨_, rfl, ?_⟩; have z_ := bX hb (by repeat (first | (with_reducible first | exact HB.out | apply bA | apply bN | apply bD | refine bS ?_ GE155.out | refine bS ?_ GE156.out) | exact HB.out)); have n0_ := Aside0.mk (rE (rQ HO163) (Kd.R_base ho0) hb); have n1_ := Aside0.mk (rE (rQ HO166) (Kd.R_base ho1) hb); have n2_ := Aside0.mk (rE (rQ HO171) (Kd.R_base ho0) hb); have n3_ := Aside0.mk (rE (rQ HO174) (Kd.R_base ho1) hb); have n4_ := Aside0.mk (rL (rW (rW ho0 (rT (rQ HO163))) (rT (rQ HO171))) (bZ z_)); have n5_ := Aside0.mk (rL (rW (rW ho1 (rT (rQ HO166))) (rT (rQ HO174))) (bZ z_)); have n6_ := Aside0.mk (kB (kQ BK155) hb); have n7_ := Aside0.mk (kB (kQ BK156) hb); have n8_ := Aside0.mk (bP z_ hb); clear HO163; clear HO166; clear HO171; clear HO174; clear BK155; clear BK156; clear HB; have HO163 := n0_; have HO166 := n1_; have HO171 := n2_; have HO174 := n3_; have HO180 := n4_; have HO183 := n5_; have BK155 := n6_; have BK156 := n7_; have HB := n8_; clear z_ n0_ n1_ n2_ n3_ n4_ n5_ n6_ n7_ n8_; (try clear hb); (try clear hb2); (try clear hk); (try clear hi); (try clear ho0); (try clear ho1)) | ((with_reducible refine gate_dst (N := 7) rfl ?_); refine bE ?hg (N := 7) ?hd (cs := #[.int .i64 0, .int .i64 0, .slice none 0 0, .slice none 0 0]) (t := 30) ?hr ?_; (case hd => rfl); (case hg => rfl); (case hr => first | (go_simp; done) | (go_simp; rfl)); intro gb184 hg w43 hbox hb; have z_ := bX hb (by repeat (first | (with_reducible first | exact HB.out | apply bA | apply bN | apply bD | refine bS ?_ GE155.out | refine bS ?_ GE156.out) | exact HB.out)); have n0_ := Aside0.mk (rB (rQ HO163) hb); have n1_ := Aside0.mk (rB (rQ HO166) hb); have n2_ := Aside0.mk (rB (rQ HO171) hb); have n3_ := Aside0.mk (rB (rQ HO174) hb); have n4_ := Aside0.mk (rB (rQ HO180) hb); have n5_ := Aside0.mk (rB (rQ HO183) hb); have n6_ := Aside0.mk (kB (kQ BK155) hb); have n7_ := Aside0.mk (kB (kQ BK156) hb); have n8_ := Aside0.mk (bP z_ hb); have n9_ := Aside0.mk (hbox); have n10_ := Aside0.mk ((by rw [hg]; exact (bZ z_) : w.heap.size ≤ gb184)); have n11_ := Aside0.mk ((by rw [hg]; exact (bZ z_) : w.heap.size ≤ gb184)); have n12_ := Aside0.mk ((by rw [hg]; exact Nat.ne_of_lt (kL (kQ BK155)) : gb155 ≠ gb184)); have n13_ := Aside0.mk ((by rw [hg]; exact Nat.ne_of_gt (kL (kQ BK155)) : gb184 ≠ gb155)); have n14_ := Aside0.mk ((by rw [hg]; exact Nat.ne_of_lt (kL (kQ BK156)) : gb156 ≠ gb184)); have n15_ := Aside0.mk ((by rw [hg]; exact Nat.ne_of_gt (kL (kQ BK156)) : gb184 ≠ gb156)); clear HO163; clear HO166; clear HO171; clear HO174; clear HO180; clear HO183; clear BK155; clear BK156; clear HB; have HO163 := n0_; have HO166 := n1_; have HO171 := n2_; have HO174 := n3_; have HO180 := n4_; have HO183 := n5_; have BK155 := n6_; have BK156 := n7_; have HB := n8_; have BK184 := n9_; have GW184 := n10_; have GE184 := n11_; have NB155_184 := n12_; have NB184_155 := n13_; have NB156_184 := n14_; have NB184_156 := n15_; clear z_ n0_ n1_ n2_ n3_ n4_ n5_ n6_ n7_ n8_ n9_ n10_ n11_ n12_ n13_ n14_ n15_; clear hb hbox hg; have hnb44 := NB184_155.out; have hnc44 := NB155_184.out; have hnb45 := NB184_156.out; have hnc45 := NB156_184.out; have hcz46_0 : w43.cell? ⟨gb184, 0, none⟩ = some (.int .i64 0) := (kC BK184.out 0).trans rfl; have hcz46_1 : w43.cell? ⟨gb184, 1, none⟩ = some (.int .i64 0) := (kC BK184.out 1).trans rfl; have hcz46_2 : w43.cell? ⟨gb184, 2, none⟩ = some (.slice none 0 0) := (kC BK184.out 2).trans rfl; have hcz46_3 : w43.cell? ⟨gb184, 3, none⟩ = some (.slice none 0 0) := (kC BK184.out 3).trans rfl; have hfz46_0 := blk_frozen BK184.out 0; have hfz46_1 := blk_frozen BK184.out 1; have hfz46_2 := blk_frozen BK184.out 2; have hfz46_3 := blk_frozen BK184.out 3; obtain ⟨Ao47, co47, eo47⟩ := Kd.R_slice HO180.out; subst eo47; obtain ⟨Ao48, co48, eo48⟩ := Kd.R_slice HO183.out; subst eo48; have hcz49_0 : w43.cell? ⟨gb156, 0, none⟩ = some (.int .i64 a1_0) := (kC BK156.out 0).trans rfl; have hcz49_1 : w43.cell? ⟨gb156, 1, none⟩ = some (.int .i64 a1_1) := (kC BK156.out 1).trans rfl; have hcz49_2 : w43.cell? ⟨gb156, 2, none⟩ = some (.slice A1_2 l1_2.length c1_2) := (kC BK156.out 2).trans rfl; have hcz49_3 : w43.cell? ⟨gb156, 3, none⟩ = some (.slice A1_3 l1_3.length c1_3) := (kC BK156.out 3).trans rfl; have hfz49_0 := blk_frozen BK156.out 0; have hfz49_1 := blk_frozen BK156.out 1; have hfz49_2 := blk_frozen BK156.out 2; have hfz49_3 := blk_frozen BK156.out 3) | ((with_reducible refine gC (f := 17) rfl ?_); refine goesL_ (some 28) rfl rfl Try.func17 (by kernel_rfl) rfl #[.agg #[.int .i64 a1_0, .int .i64 a1_1, .slice A1_2 l1_2.length c1_2, .slice A1_3 l1_3.length c1_3]] rfl lQ ?_; (with_reducible refine (laws_toGrammar.calls k a1_0 a1_1 _ _ l1_2 _ _ l1_3 t185 t186 t187 t190 _ ?side1 ?side2 ?side3 ?side4 A23.out).mono ?_); (case side1 => exact cB HR1_2.out (by repeat (first | (with_reducible first | exact HB.out | apply bA | apply bN | apply bD | refine bS ?_ GE155.out | refine bS ?_ GE156.out | refine bS ?_ GE184.out) | exact HB.out))); (case side2 => exact HC1_2.out); (case side3 => exact cB HR1_3.out (by repeat (first | (with_reducible first | exact HB.out | apply bA | apply bN | apply bD | refine bS ?_ GE155.out | refine bS ?_ GE156.out | refine bS ?_ GE184.out) | exact HB.out))); (case side4 => exact HC1_3.out); rintro e w50 ⟨v188, v191, rfl, ho0, ho1, hb⟩; refine ⟨_, rfl, ?_⟩; have z_ := bX hb (by repeat (first | (with_reducible first | exact HB.out | apply bA | apply bN | apply bD | refine bS ?_ GE155.out | refine bS ?_ GE156.out | refine bS ?_ GE184.out) | exact HB.out)); have n0_ := Aside0.mk (rE (by (with_reducible repeat (first | apply rA | apply rN | apply rD)); exact (rM (Kd.R_far (p := ⟨gb184, 3, none⟩) (Kd.R_far (p := ⟨gb184, 2, none⟩) (Kd.R_far (p := ⟨gb184, 1, none⟩) (Kd.R_far (p := ⟨gb184, 0, none⟩) (Kd.R_types HO163.out BK184.out (by decide)) (fun _ hk => hk.2) (.int .i64 t176)) (fun _ hk => hk.2) (.int .i64 t177)) (fun _ hk => hk.2) (.slice Ao47 t178.length co47)) (fun _ hk => hk.2) (.slice Ao48 t181.length co48)) (fun _ h_ => h_.1))) (Kd.R_base ho0) hb); have n1_ := Aside0.mk (rE (by (with_reducible repeat (first | apply rA | apply rN | apply rD)); exact (rM (Kd.R_far (p := ⟨gb184, 3, none⟩) (Kd.R_far (p := ⟨gb184, 2, none⟩) (Kd.R_far (p := ⟨gb184, 1, none⟩) (Kd.R_far (p := ⟨gb184, 0, none⟩) (Kd.R_types HO166.out BK184.out (by decide)) (fun _ hk => hk.2) (.int .i64 t176)) (fun _ hk => hk.2) (.int .i64 t177)) (fun _ hk => hk.2) (.slice Ao47 t178.length co47)) (fun _ hk => hk.2) (.slice Ao48 t181.length co48)) (fun _ h_ => h_.1))) (Kd.R_base ho1) hb); have n2_ := Aside0.mk (rE (by (with_reducible repeat (first | apply rA | apply rN | apply rD)); exact (rM (Kd.R_far (p := ⟨gb184, 3, none⟩) (Kd.R_far (p := ⟨gb184, 2, none⟩) (Kd.R_far (p := ⟨gb184, 1, none⟩) (Kd.R_far (p := ⟨gb184, 0, none⟩) (Kd.R_types HO171.out BK184.out (by decide)) (fun _ hk => hk.2) (.int .i64 t176)) (fun _ hk => hk.2) (.int .i64 t177)) (fun _ hk => hk.2) (.slice Ao47 t178.length co47)) (fun _ hk => hk.2) (.slice Ao48 t181.length co48)) (fun _ h_ => h_.1))) (Kd.R_base ho0) hb); have n3_ := Aside0.mk (rE (by (with_reducible repeat (first | apply rA | apply rN | apply rD)); exact (rM (Kd.R_far (p := ⟨gb184, 3, none⟩) (Kd.R_far (p := ⟨gb184, 2, none⟩) (Kd.R_far (p := ⟨gb184, 1, none⟩) (Kd.R_far (p := ⟨gb184, 0, none⟩) (Kd.R_types HO174.out BK184.out (by decide)) (fun _ hk => hk.2) (.int .i64 t176)) (fun _ hk => hk.2) (.int .i64 t177)) (fun _ hk => hk.2) (.slice Ao47 t178.length co47)) (fun _ hk => hk.2) (.slice Ao48 t181.length co48)) (fun _ h_ => h_.1))) (Kd.R_base ho1) hb); have n4_ := Aside0.mk (rE (by (with_reducible repeat (first | apply rA | apply rN | apply rD)); exact (rM (Kd.R_far (p := ⟨gb184, 3, none⟩) (Kd.R_far (p := ⟨gb184, 2, none⟩) (Kd.R_far (p := ⟨gb184, 1, none⟩) (Kd.R_far (p := ⟨gb184, 0, none⟩) (Kd.R_types HO180.out BK184.out (by decide)) (fun _ hk => hk.2) (.int .i64 t176)) (fun _ hk => hk.2) (.int .i64 t177)) (fun _ hk => hk.2) (.slice Ao47 t178.length co47)) (fun _ hk => hk.2) (.slice Ao48 t181.length co48)) (fun _ h_ => h_.1))) (Kd.R_base ho0) hb); have n5_ := Aside0.mk (rE (by (with_reducible repeat (first | apply rA | apply rN | apply rD)); exact (rM (Kd.R_far (p := ⟨gb184, 3, none⟩) (Kd.R_far (p := ⟨gb184, 2, none⟩) (Kd.R_far (p := ⟨gb184, 1, none⟩) (Kd.R_far (p := ⟨gb184, 0, none⟩) (Kd.R_types HO183.out BK184.out (by decide)) (fun _ hk => hk.2) (.int .i64 t176)) (fun _ hk => hk.2) (.int .i64 t177)) (fun _ hk => hk.2) (.slice Ao47 t178.length co47)) (fun _ hk => hk.2) (.slice Ao48 t181.length co48)) (fun _ h_ => h_.1))) (Kd.R_base ho1) hb); have n6_ := Aside0.mk (rL (rW (rW (rW ho0 (rT (by (with_reducible repeat (first | apply rA | apply rN | apply rD)); exact (rM (Kd.R_far (p := ⟨gb184, 3, none⟩) (Kd.R_far (p := ⟨gb184, 2, none⟩) (Kd.R_far (p := ⟨gb184, 1, none⟩) (Kd.R_far (p := ⟨gb184, 0, none⟩) (Kd.R_types HO163.out BK184.out (by decide)) (fun _ hk => hk.2) (.int .i64 t176)) (fun _ hk => hk.2) (.int .i64 t177)) (fun _ hk => hk.2) (.slice Ao47 t178.length co47)) (fun _ hk => hk.2) (.slice Ao48 t181.length co48)) (fun _ h_ => h_.1))))) (rT (by (with_reducible repeat (first | apply rA | apply rN | apply rD)); exact (rM (Kd.R_far (p := ⟨gb184, 3, none⟩) (Kd.R_far (p := ⟨gb184, 2, none⟩) (Kd.R_far (p := ⟨gb184, 1, none⟩) (Kd.R_far (p := ⟨gb184, 0, none⟩) (Kd.R_types HO171.out BK184.out (by decide)) (fun _ hk => hk.2) (.int .i64 t176)) (fun _ hk => hk.2) (.int .i64 t177)) (fun _ hk => hk.2) (.slice Ao47 t178.length co47)) (fun _ hk => hk.2) (.slice Ao48 t181.length co48)) (fun _ h_ => h_.1))))) (rT (by (with_reducible repeat (first | apply rA | apply rN | apply rD)); exact (rM (Kd.R_far (p := ⟨gb184, 3, none⟩) (Kd.R_far (p := ⟨gb184, 2, none⟩) (Kd.R_far (p := ⟨gb184, 1, none⟩) (Kd.R_far (p := ⟨gb184, 0, none⟩) (Kd.R_types HO180.out BK184.out (by decide)) (fun _ hk => hk.2) (.int .i64 t176)) (fun _ hk => hk.2) (.int .i64 t177)) (fun _ hk => hk.2) (.slice Ao47 t178.length co47)) (fun _ hk => hk.2) (.slice Ao48 t181.length co48)) (fun _ h_ => h_.1))))) (bZ z_)); have n7_ := Aside0.mk (rL (rW (rW (rW ho1 (rT (by (with_reducible repeat (first | apply rA | apply rN | apply rD)); exact (rM (Kd.R_far (p := ⟨gb184, 3, none⟩) (Kd.R_far (p := ⟨gb184, 2, none⟩) (Kd.R_far (p := ⟨gb184, 1, none⟩) (Kd.R_far (p := ⟨gb184, 0, none⟩) (Kd.R_types HO166.out BK184.out (by decide)) (fun _ hk => hk.2) (.int .i64 t176)) (fun _ hk => hk.2) (.int .i64 t177)) (fun _ hk => hk.2) (.slice Ao47 t178.length co47)) (fun _ hk => hk.2) (.slice Ao48 t181.length co48)) (fun _ h_ => h_.1))))) (rT (by (with_reducible repeat (first | apply rA | apply rN | apply rD)); exact (rM (Kd.R_far (p := ⟨gb184, 3, none⟩) (Kd.R_far (p := ⟨gb184, 2, none⟩) (Kd.R_far (p := ⟨gb184, 1, none⟩) (Kd.R_far (p := ⟨gb184, 0, none⟩) (Kd.R_types HO174.out BK184.out (by decide)) (fun _ hk => hk.2) (.int .i64 t176)) (fun _ hk => hk.2) (.int .i64 t177)) (fun _ hk => hk.2) (.slice Ao47 t178.length co47)) (fun _ hk => hk.2) (.slice Ao48 t181.length co48)) (fun _ h_ => h_.1))))) (rT (by (with_reducible repeat (first | apply rA | apply rN | apply rD)); exact (rM (Kd.R_far (p := ⟨gb184, 3, none⟩) (Kd.R_far (p := ⟨gb184, 2, none⟩) (Kd.R_far (p := ⟨gb184, 1, none⟩) (Kd.R_far (p := ⟨gb184, 0, none⟩) (Kd.R_types HO183.out BK184.out (by decide)) (fun _ hk => hk.2) (.int .i64 t176)) (fun _ hk => hk.2) (.int .i64 t177)) (fun _ hk => hk.2) (.slice Ao47 t178.length co47)) (fun _ hk => hk.2) (.slice Ao48 t181.length co48)) (fun _ h_ => h_.1))))) (bZ z_)); have n8_ := Aside0.mk (kB (g := gb155) (o := .cells #[.int .i64 a0_0, .int .i64 a0_1, .slice A0_2 l0_2.length c0_2, .slice A0_3 l0_3.length c0_3] 25 (0, 0)) (by (with_reducible repeat (first | refine kN ?_ _ | refine kD ?_ | refine kA ?_ _)); refine kF ?_ NB155_184.out _; (with_reducible repeat (first | refine kN ?_ _ | refine kD ?_ | refine kA ?_ _)); refine kF ?_ NB155_184.out _; (with_reducible repeat (first | refine kN ?_ _ | refine kD ?_ | refine kA ?_ _)); refine kF ?_ NB155_184.out _; (with_reducible repeat (first | refine kN ?_ _ | refine kD ?_ | refine kA ?_ _)); refine kF ?_ NB155_184.out _; (with_reducible repeat (first | refine kN ?_ _ | refine kD ?_ | refine kA ?_ _)); exact BK155.out) hb); have n9_ := Aside0.mk (kB (g := gb156) (o := .cells #[.int .i64 a1_0, .int .i64 a1_1, .slice A1_2 l1_2.length c1_2, .slice A1_3 l1_3.length c1_3] 25 (0, 0)) (by (with_reducible repeat (first | refine kN ?_ _ | refine kD ?_ | refine kA ?_ _)); refine kF ?_ NB156_184.out _; (with_reducible repeat (first | refine kN ?_ _ | refine kD ?_ | refine kA ?_ _)); refine kF ?_ NB156_184.out _; (with_reducible repeat (first | refine kN ?_ _ | refine kD ?_ | refine kA ?_ _)); refine kF ?_ NB156_184.out _; (with_reducible repeat (first | refine kN ?_ _ | refine kD ?_ | refine kA ?_ _)); refine kF ?_ NB156_184.out _; (with_reducible repeat (first | refine kN ?_ _ | refine kD ?_ | refine kA ?_ _)); exact BK156.out) hb); have n10_ := Aside0.mk (kB (g := gb184) (o := .cells #[.int .i64 t176, .int .i64 t177, .slice Ao47 t178.length co47, .slice Ao48 t181.length co48] 30 (0, 0)) (by (with_reducible repeat (first | refine kN ?_ _ | refine kD ?_ | refine kA ?_ _)); refine blk_put (cs := #[.int .i64 t176, .int .i64 t177, .slice Ao47 t178.length co47, .slice none 0 0]) ?_ 3 _ rfl; (with_reducible repeat (first | refine kN ?_ _ | refine kD ?_ | refine kA ?_ _)); refine blk_put (cs := #[.int .i64 t176, .int .i64 t177, .slice none 0 0, .slice none 0 0]) ?_ 2 _ rfl; (with_reducible repeat (first | refine kN ?_ _ | refine kD ?_ | refine kA ?_ _)); refine blk_put (cs := #[.int .i64 t176, .int .i64 0, .slice none 0 0, .slice none 0 0]) ?_ 1 _ rfl; (with_reducible repeat (first | refine kN ?_ _ | refine kD ?_ | refine kA ?_ _)); refine blk_put (cs := #[.int .i64 0, .int .i64 0, .slice none 0 0, .slice none 0 0]) ?_ 0 _ rfl; (with_reducible repeat (first | refine kN ?_ _ | refine kD ?_ | refine kA ?_ _)); exact BK184.out) hb); have n11_ := Aside0.mk (bP z_ hb); clear HO163; clear HO166; clear HO171; clear HO174; clear HO180; clear HO183; clear BK155; clear BK156; clear BK184; clear HB; have HO163 := n0_; have HO166 := n1_; have HO171 := n2_; have HO174 := n3_; have HO180 := n4_; have HO183 := n5_; have HO189 := n6_; have HO192 := n7_; have BK155 := n8_; have BK156 := n9_; have BK184 := n10_; have HB := n11_; clear z_ n0_ n1_ n2_ n3_ n4_ n5_ n6_ n7_ n8_ n9_ n10_ n11_; (try clear hb); (try clear hb2); (try clear hk); (try clear hi); (try clear ho0); (try clear ho1)) | ((with_reducible refine gate_dst (N := 8) rfl ?_); refine bE ?hg (N := 8) ?hd (cs := #[.int .i64 0, .int .i64 0, .slice none 0 0, .slice none 0 0]) (t := 30) ?hr ?_; (case hd => rfl); (case hg => rfl); (case hr => first | (go_simp; done) | (go_simp; rfl)); intro gb193 hg w51 hbox hb; have z_ := bX hb (by repeat (first | (with_reducible first | exact HB.out | apply bA | apply bN | apply bD | refine bS ?_ GE155.out | refine bS ?_ GE156.out | refine bS ?_ GE184.out) | exact HB.out)); have n0_ := Aside0.mk (rB (rQ HO163) hb); have n1_ := Aside0.mk (rB (rQ HO166) hb); have n2_ := Aside0.mk (rB (rQ HO171) hb); have n3_ := Aside0.mk (rB (rQ HO174) hb); have n4_ := Aside0.mk (rB (rQ HO180) hb); have n5_ := Aside0.mk (rB (rQ HO183) hb); have n6_ := Aside0.mk (rB (rQ HO189) hb); have n7_ := Aside0.mk (rB (rQ HO192) hb); have n8_ := Aside0.mk (kB (kQ BK155) hb); have n9_ := Aside0.mk (kB (kQ BK156) hb); have n10_ := Aside0.mk (kB (kQ BK184) hb); have n11_ := Aside0.mk (bP z_ hb); have n12_ := Aside0.mk (hbox); have n13_ := Aside0.mk ((by rw [hg]; exact (bZ z_) : w.heap.size ≤ gb193)); have n14_ := Aside0.mk ((by rw [hg]; exact (bZ z_) : w.heap.size ≤ gb193)); have n15_ := Aside0.mk ((by rw [hg]; exact Nat.ne_of_lt (kL (kQ BK155)) : gb155 ≠ gb193)); have n16_ := Aside0.mk ((by rw [hg]; exact Nat.ne_of_gt (kL (kQ BK155)) : gb193 ≠ gb155)); have n17_ := Aside0.mk ((by rw [hg]; exact Nat.ne_of_lt (kL (kQ BK156)) : gb156 ≠ gb193)); have n18_ := Aside0.mk ((by rw [hg]; exact Nat.ne_of_gt (kL (kQ BK156)) : gb193 ≠ gb156)); have n19_ := Aside0.mk ((by rw [hg]; exact Nat.ne_of_lt (kL (kQ BK184)) : gb184 ≠ gb193)); have n20_ := Aside0.mk ((by rw [hg]; exact Nat.ne_of_gt (kL (kQ BK184)) : gb193 ≠ gb184)); clear HO163; clear HO166; clear HO171; clear HO174; clear HO180; clear HO183; clear HO189; clear HO192; clear BK155; clear BK156; clear BK184; clear HB; have HO163 := n0_; have HO166 := n1_; have HO171 := n2_; have HO174 := n3_; have HO180 := n4_; have HO183 := n5_; have HO189 := n6_; have HO192 := n7_; have BK155 := n8_; have BK156 := n9_; have BK184 := n10_; have HB := n11_; have BK193 := n12_; have GW193 := n13_; have GE193 := n14_; have NB155_193 := n15_; have NB193_155 := n16_; have NB156_193 := n17_; have NB193_156 := n18_; have NB184_193 := n19_; have NB193_184 := n20_; clear z_ n0_ n1_ n2_ n3_ n4_ n5_ n6_ n7_ n8_ n9_ n10_ n11_ n12_ n13_ n14_ n15_ n16_ n17_ n18_ n19_ n20_; clear hb hbox hg; have hnb52 := NB193_155.out; have hnc52 := NB155_193.out; have hnb53 := NB193_156.out; have hnc53 := NB156_193.out; have hnb54 := NB193_184.out; have hnc54 := NB184_193.out; have hcz55_0 : w51.cell? ⟨gb193, 0, none⟩ = some (.int .i64 0) := (kC BK193.out 0).trans rfl; have hcz55_1 : w51.cell? ⟨gb193, 1, none⟩ = some (.int .i64 0) := (kC BK193.out 1).trans rfl; have hcz55_2 : w51.cell? ⟨gb193, 2, none⟩ = some (.slice none 0 0) := (kC BK193.out 2).trans rfl; have hcz55_3 : w51.cell? ⟨gb193, 3, none⟩ = some (.slice none 0 0) := (kC BK193.out 3).trans rfl; have hfz55_0 := blk_frozen BK193.out 0; have hfz55_1 := blk_frozen BK193.out 1; have hfz55_2 := blk_frozen BK193.out 2; have hfz55_3 := blk_frozen BK193.out 3; obtain ⟨Ao56, co56, eo56⟩ := Kd.R_slice HO189.out; subst eo56; obtain ⟨Ao57, co57, eo57⟩ := Kd.R_slice HO192.out; subst eo57; have hcz58_0 : w51.cell? ⟨gb184, 0, none⟩ = some (.int .i64 t176) := (kC BK184.out 0).trans rfl; have hcz58_1 : w51.cell? ⟨gb184, 1, none⟩ = some (.int .i64 t177) := (kC BK184.out 1).trans rfl; have hcz58_2 : w51.cell? ⟨gb184, 2, none⟩ = some (.slice Ao47 t178.length co47) := (kC BK184.out 2).trans rfl; have hcz58_3 : w51.cell? ⟨gb184, 3, none⟩ = some (.slice Ao48 t181.length co48) := (kC BK184.out 3).trans rfl; have hfz58_0 := blk_frozen BK184.out 0; have hfz58_1 := blk_frozen BK184.out 1; have hfz58_2 := blk_frozen BK184.out 2; have hfz58_3 := blk_frozen BK184.out 3) | ((with_reducible refine gC (f := 18) rfl ?_); refine goesL_ (some 31) rfl rfl Try.func18 (by kernel_rfl) rfl #[.agg #[.int .i64 t176, .int .i64 t177, .slice Ao47 t178.length co47, .slice Ao48 t181.length co48], .agg #[.int .i64 t185, .int .i64 t186, .slice Ao56 t187.length co56, .slice Ao57 t190.length co57]] rfl lQ ?_; (with_reducible refine (impl_SameGrammar.calls k t176 t177 _ _ t178 _ _ t181 t185 t186 _ _ t187 _ _ t190 t194 _ ?side1 ?side2 ?side3 ?side4 ?side5 ?side6 ?side7 ?side8 A24.out).mono ?_); (case side1 => refine (Kd.R_reads' (e := 2) (base := w.heap.size) (ok := fun k_ => (((True ∧ some k_ ≠ (.slice Ao36 t161.length co36 : Value).ownBlock) ∧ some k_ ≠ (.slice Ao38 t169.length co38 : Value).ownBlock) ∧ some k_ ≠ (.slice Ao56 t187.length co56 : Value).ownBlock)) (n := t178.length) (c := co47) ?_).2.2; exact (by (with_reducible repeat (first | apply rA | apply rN | apply rD)); exact (rM (Kd.R_far (p := ⟨gb193, 3, none⟩) (Kd.R_far (p := ⟨gb193, 2, none⟩) (Kd.R_far (p := ⟨gb193, 1, none⟩) (Kd.R_far (p := ⟨gb193, 0, none⟩) (Kd.R_types HO180.out BK193.out (by decide)) (fun _ hk => hk.2) (.int .i64 t185)) (fun _ hk => hk.2) (.int .i64 t186)) (fun _ hk => hk.2) (.slice Ao56 t187.length co56)) (fun _ hk => hk.2) (.slice Ao57 t190.length co57)) (fun _ h_ => h_.1)))); (case side2 => exact (Kd.R_reads' HO180.out).2.1); (case side3 => refine (Kd.R_reads' (e := 67) (base := w.heap.size) (ok := fun k_ => (((True ∧ some k_ ≠ (.slice Ao37 t164.length co37 : Value).ownBlock) ∧ some k_ ≠ (.slice Ao39 t172.length co39 : Value).ownBlock) ∧ some k_ ≠ (.slice Ao57 t190.length co57 : Value).ownBlock)) (n := t181.length) (c := co48) ?_).2.2; exact (by (with_reducible repeat (first | apply rA | apply rN | apply rD)); exact (rM (Kd.R_far (p := ⟨gb193, 3, none⟩) (Kd.R_far (p := ⟨gb193, 2, none⟩) (Kd.R_far (p := ⟨gb193, 1, none⟩) (Kd.R_far (p := ⟨gb193, 0, none⟩) (Kd.R_types HO183.out BK193.out (by decide)) (fun _ hk => hk.2) (.int .i64 t185)) (fun _ hk => hk.2) (.int .i64 t186)) (fun _ hk => hk.2) (.slice Ao56 t187.length co56)) (fun _ hk => hk.2) (.slice Ao57 t190.length co57)) (fun _ h_ => h_.1)))); (case side4 => exact (Kd.R_reads' HO183.out).2.1); (case side5 => refine (Kd.R_reads' (e := 2) (base := w.heap.size) (ok := fun k_ => (((True ∧ some k_ ≠ (.slice Ao36 t161.length co36 : Value).ownBlock) ∧ some k_ ≠ (.slice Ao38 t169.length co38 : Value).ownBlock) ∧ some k_ ≠ (.slice Ao47 t178.length co47 : Value).ownBlock)) (n := t187.length) (c := co56) ?_).2.2; exact (by (with_reducible repeat (first | apply rA | apply rN | apply rD)); exact (rM (Kd.R_far (p := ⟨gb193, 3, none⟩) (Kd.R_far (p := ⟨gb193, 2, none⟩) (Kd.R_far (p := ⟨gb193, 1, none⟩) (Kd.R_far (p := ⟨gb193, 0, none⟩) (Kd.R_types HO189.out BK193.out (by decide)) (fun _ hk => hk.2) (.int .i64 t185)) (fun _ hk => hk.2) (.int .i64 t186)) (fun _ hk => hk.2) (.slice Ao56 t187.length co56)) (fun _ hk => hk.2) (.slice Ao57 t190.length co57)) (fun _ h_ => h_.1)))); (case side6 => exact (Kd.R_reads' HO189.out).2.1); (case side7 => refine (Kd.R_reads' (e := 67) (base := w.heap.size) (ok := fun k_ => (((True ∧ some k_ ≠ (.slice Ao37 t164.length co37 : Value).ownBlock) ∧ some k_ ≠ (.slice Ao39 t172.length co39 : Value).ownBlock) ∧ some k_ ≠ (.slice Ao48 t181.length co48 : Value).ownBlock)) (n := t190.length) (c := co57) ?_).2.2; exact (by (with_reducible repeat (first | apply rA | apply rN | apply rD)); exact (rM (Kd.R_far (p := ⟨gb193, 3, none⟩) (Kd.R_far (p := ⟨gb193, 2, none⟩) (Kd.R_far (p := ⟨gb193, 1, none⟩) (Kd.R_far (p := ⟨gb193, 0, none⟩) (Kd.R_types HO192.out BK193.out (by decide)) (fun _ hk => hk.2) (.int .i64 t185)) (fun _ hk => hk.2) (.int .i64 t186)) (fun _ hk => hk.2) (.slice Ao56 t187.length co56)) (fun _ hk => hk.2) (.slice Ao57 t190.length co57)) (fun _ h_ => h_.1)))); (case side8 => exact (Kd.R_reads' HO192.out).2.1); rintro e w59 ⟨rfl, hb⟩; refine ⟨_, rfl, ?_⟩; have n0_ := Aside0.mk (rB (by (with_reducible repeat (first | apply rA | apply rN | apply rD)); exact (rM (Kd.R_far (p := ⟨gb193, 3, none⟩) (Kd.R_far (p := ⟨gb193, 2, none⟩) (Kd.R_far (p := ⟨gb193, 1, none⟩) (Kd.R_far (p := ⟨gb193, 0, none⟩) (Kd.R_types HO163.out BK193.out (by decide)) (fun _ hk => hk.2) (.int .i64 t185)) (fun _ hk => hk.2) (.int .i64 t186)) (fun _ hk => hk.2) (.slice Ao56 t187.length co56)) (fun _ hk => hk.2) (.slice Ao57 t190.length co57)) (fun _ h_ => h_.1))) hb); have n1_ := Aside0.mk (rB (by (with_reducible repeat (first | apply rA | apply rN | apply rD)); exact (rM (Kd.R_far (p := ⟨gb193, 3, none⟩) (Kd.R_far (p := ⟨gb193, 2, none⟩) (Kd.R_far (p := ⟨gb193, 1, none⟩) (Kd.R_far (p := ⟨gb193, 0, none⟩) (Kd.R_types HO166.out BK193.out (by decide)) (fun _ hk => hk.2) (.int .i64 t185)) (fun _ hk => hk.2) (.int .i64 t186)) (fun _ hk => hk.2) (.slice Ao56 t187.length co56)) (fun _ hk => hk.2) (.slice Ao57 t190.length co57)) (fun _ h_ => h_.1))) hb); have n2_ := Aside0.mk (rB (by (with_reducible repeat (first | apply rA | apply rN | apply rD)); exact (rM (Kd.R_far (p := ⟨gb193, 3, none⟩) (Kd.R_far (p := ⟨gb193, 2, none⟩) (Kd.R_far (p := ⟨gb193, 1, none⟩) (Kd.R_far (p := ⟨gb193, 0, none⟩) (Kd.R_types HO171.out BK193.out (by decide)) (fun _ hk => hk.2) (.int .i64 t185)) (fun _ hk => hk.2) (.int .i64 t186)) (fun _ hk => hk.2) (.slice Ao56 t187.length co56)) (fun _ hk => hk.2) (.slice Ao57 t190.length co57)) (fun _ h_ => h_.1))) hb); have n3_ := Aside0.mk (rB (by (with_reducible repeat (first | apply rA | apply rN | apply rD)); exact (rM (Kd.R_far (p := ⟨gb193, 3, none⟩) (Kd.R_far (p := ⟨gb193, 2, none⟩) (Kd.R_far (p := ⟨gb193, 1, none⟩) (Kd.R_far (p := ⟨gb193, 0, none⟩) (Kd.R_types HO174.out BK193.out (by decide)) (fun _ hk => hk.2) (.int .i64 t185)) (fun _ hk => hk.2) (.int .i64 t186)) (fun _ hk => hk.2) (.slice Ao56 t187.length co56)) (fun _ hk => hk.2) (.slice Ao57 t190.length co57)) (fun _ h_ => h_.1))) hb); have n4_ := Aside0.mk (rB (by (with_reducible repeat (first | apply rA | apply rN | apply rD)); exact (rM (Kd.R_far (p := ⟨gb193, 3, none⟩) (Kd.R_far (p := ⟨gb193, 2, none⟩) (Kd.R_far (p := ⟨gb193, 1, none⟩) (Kd.R_far (p := ⟨gb193, 0, none⟩) (Kd.R_types HO180.out BK193.out (by decide)) (fun _ hk => hk.2) (.int .i64 t185)) (fun _ hk => hk.2) (.int .i64 t186)) (fun _ hk => hk.2) (.slice Ao56 t187.length co56)) (fun _ hk => hk.2) (.slice Ao57 t190.length co57)) (fun _ h_ => h_.1))) hb); have n5_ := Aside0.mk (rB (by (with_reducible repeat (first | apply rA | apply rN | apply rD)); exact (rM (Kd.R_far (p := ⟨gb193, 3, none⟩) (Kd.R_far (p := ⟨gb193, 2, none⟩) (Kd.R_far (p := ⟨gb193, 1, none⟩) (Kd.R_far (p := ⟨gb193, 0, none⟩) (Kd.R_types HO183.out BK193.out (by decide)) (fun _ hk => hk.2) (.int .i64 t185)) (fun _ hk => hk.2) (.int .i64 t186)) (fun _ hk => hk.2) (.slice Ao56 t187.length co56)) (fun _ hk => hk.2) (.slice Ao57 t190.length co57)) (fun _ h_ => h_.1))) hb); have n6_ := Aside0.mk (rB (by (with_reducible repeat (first | apply rA | apply rN | apply rD)); exact (rM (Kd.R_far (p := ⟨gb193, 3, none⟩) (Kd.R_far (p := ⟨gb193, 2, none⟩) (Kd.R_far (p := ⟨gb193, 1, none⟩) (Kd.R_far (p := ⟨gb193, 0, none⟩) (Kd.R_types HO189.out BK193.out (by decide)) (fun _ hk => hk.2) (.int .i64 t185)) (fun _ hk => hk.2) (.int .i64 t186)) (fun _ hk => hk.2) (.slice Ao56 t187.length co56)) (fun _ hk => hk.2) (.slice Ao57 t190.length co57)) (fun _ h_ => h_.1))) hb); have n7_ := Aside0.mk (rB (by (with_reducible repeat (first | apply rA | apply rN | apply rD)); exact (rM (Kd.R_far (p := ⟨gb193, 3, none⟩) (Kd.R_far (p := ⟨gb193, 2, none⟩) (Kd.R_far (p := ⟨gb193, 1, none⟩) (Kd.R_far (p := ⟨gb193, 0, none⟩) (Kd.R_types HO192.out BK193.out (by decide)) (fun _ hk => hk.2) (.int .i64 t185)) (fun _ hk => hk.2) (.int .i64 t186)) (fun _ hk => hk.2) (.slice Ao56 t187.length co56)) (fun _ hk => hk.2) (.slice Ao57 t190.length co57)) (fun _ h_ => h_.1))) hb); have n8_ := Aside0.mk (kB (g := gb155) (o := .cells #[.int .i64 a0_0, .int .i64 a0_1, .slice A0_2 l0_2.length c0_2, .slice A0_3 l0_3.length c0_3] 25 (0, 0)) (by (with_reducible repeat (first | refine kN ?_ _ | refine kD ?_ | refine kA ?_ _)); refine kF ?_ NB155_193.out _; (with_reducible repeat (first | refine kN ?_ _ | refine kD ?_ | refine kA ?_ _)); refine kF ?_ NB155_193.out _; (with_reducible repeat (first | refine kN ?_ _ | refine kD ?_ | refine kA ?_ _)); refine kF ?_ NB155_193.out _; (with_reducible repeat (first | refine kN ?_ _ | refine kD ?_ | refine kA ?_ _)); refine kF ?_ NB155_193.out _; (with_reducible repeat (first | refine kN ?_ _ | refine kD ?_ | refine kA ?_ _)); exact BK155.out) hb); have n9_ := Aside0.mk (kB (g := gb156) (o := .cells #[.int .i64 a1_0, .int .i64 a1_1, .slice A1_2 l1_2.length c1_2, .slice A1_3 l1_3.length c1_3] 25 (0, 0)) (by (with_reducible repeat (first | refine kN ?_ _ | refine kD ?_ | refine kA ?_ _)); refine kF ?_ NB156_193.out _; (with_reducible repeat (first | refine kN ?_ _ | refine kD ?_ | refine kA ?_ _)); refine kF ?_ NB156_193.out _; (with_reducible repeat (first | refine kN ?_ _ | refine kD ?_ | refine kA ?_ _)); refine kF ?_ NB156_193.out _; (with_reducible repeat (first | refine kN ?_ _ | refine kD ?_ | refine kA ?_ _)); refine kF ?_ NB156_193.out _; (with_reducible repeat (first | refine kN ?_ _ | refine kD ?_ | refine kA ?_ _)); exact BK156.out) hb); have n10_ := Aside0.mk (kB (g := gb184) (o := .cells #[.int .i64 t176, .int .i64 t177, .slice Ao47 t178.length co47, .slice Ao48 t181.length co48] 30 (0, 0)) (by (with_reducible repeat (first | refine kN ?_ _ | refine kD ?_ | refine kA ?_ _)); refine kF ?_ NB184_193.out _; (with_reducible repeat (first | refine kN ?_ _ | refine kD ?_ | refine kA ?_ _)); refine kF ?_ NB184_193.out _; (with_reducible repeat (first | refine kN ?_ _ | refine kD ?_ | refine kA ?_ _)); refine kF ?_ NB184_193.out _; (with_reducible repeat (first | refine kN ?_ _ | refine kD ?_ | refine kA ?_ _)); refine kF ?_ NB184_193.out _; (with_reducible repeat (first | refine kN ?_ _ | refine kD ?_ | refine kA ?_ _)); exact BK184.out) hb); have n11_ := Aside0.mk (kB (g := gb193) (o := .cells #[.int .i64 t185, .int .i64 t186, .slice Ao56 t187.length co56, .slice Ao57 t190.length co57] 30 (0, 0)) (by (with_reducible repeat (first | refine kN ?_ _ | refine kD ?_ | refine kA ?_ _)); refine blk_put (cs := #[.int .i64 t185, .int .i64 t186, .slice Ao56 t187.length co56, .slice none 0 0]) ?_ 3 _ rfl; (with_reducible repeat (first | refine kN ?_ _ | refine kD ?_ | refine kA ?_ _)); refine blk_put (cs := #[.int .i64 t185, .int .i64 t186, .slice none 0 0, .slice none 0 0]) ?_ 2 _ rfl; (with_reducible repeat (first | refine kN ?_ _ | refine kD ?_ | refine kA ?_ _)); refine blk_put (cs := #[.int .i64 t185, .int .i64 0, .slice none 0 0, .slice none 0 0]) ?_ 1 _ rfl; (with_reducible repeat (first | refine kN ?_ _ | refine kD ?_ | refine kA ?_ _)); refine blk_put (cs := #[.int .i64 0, .int .i64 0, .slice none 0 0, .slice none 0 0]) ?_ 0 _ rfl; (with_reducible repeat (first | refine kN ?_ _ | refine kD ?_ | refine kA ?_ _)); exact BK193.out) hb); have n12_ := Aside0.mk (bP (by repeat (first | (with_reducible first | exact HB.out | apply bA | apply bN | apply bD | refine bS ?_ GE155.out | refine bS ?_ GE156.out | refine bS ?_ GE184.out | refine bS ?_ GE193.out) | exact HB.out)) hb); clear HO163; clear HO166; clear HO171; clear HO174; clear HO180; clear HO183; clear HO189; clear HO192; clear BK155; clear BK156; clear BK184; clear BK193; clear HB; have HO163 := n0_; have HO166 := n1_; have HO171 := n2_; have HO174 := n3_; have HO180 := n4_; have HO183 := n5_; have HO189 := n6_; have HO192 := n7_; have BK155 := n8_; have BK156 := n9_; have BK184 := n10_; have BK193 := n11_; have HB := n12_; clear n0_ n1_ n2_ n3_ n4_ n5_ n6_ n7_ n8_ n9_ n10_ n11_ n12_; (try clear hb); (try clear hb2); (try clear hk); (try clear hi)))
    go_ret
    exact ⟨by first | rfl | (simp [errW_none, errW_some] <;> rfl) | (simp [*, errW_none, errW_some] <;> rfl), by repeat (first | (with_reducible first | exact HB.out | apply bA | apply bN | apply bD | refine bS ?_ GE155.out | refine bS ?_ GE156.out | refine bS ?_ GE184.out | refine bS ?_ GE193.out) | exact HB.out)⟩
   ·rw [if_neg c25] at H
    have c25b0 : (t194 != t175) = false := by simpa using c25
    (try (have c25b1 : decide (t194 = t175) = true := by simpa using c25))
    (try (have c25b2 : (t194 == t175) = true := by simpa using c25))
    clear c25
    replace H := Option.bind_eq_some_iff.mp H
    obtain ⟨⟨t195, t196, t197, t200⟩, A600, H⟩ := H
    replace H : ((laws_eqGrammar.f k t176 t177 t178 t181 t195 t196 t197 t200).bind fun t203 => (if t203 = true then ((laws_toGrammar.f k a1_0 a1_1 l1_2 l1_3).bind fun bt204 => ((laws_eqGrammar.f k t185 t186 t187 t190 bt204.1 bt204.2.1 bt204.2.2.1 bt204.2.2.2).bind fun t212 => (if t212 = true then (some true) else (some false)))) else (some false))) = some r := H
    have A60 := Aside0.mk A600
    clear A600
    replace H := Option.bind_eq_some_iff.mp H
    obtain ⟨t203, A610, H⟩ := H
    replace H : (if t203 = true then ((laws_toGrammar.f k a1_0 a1_1 l1_2 l1_3).bind fun bt204 => ((laws_eqGrammar.f k t185 t186 t187 t190 bt204.1 bt204.2.1 bt204.2.2.1 bt204.2.2.2).bind fun t212 => (if t212 = true then (some true) else (some false)))) else (some false)) = some r := H
    have A61 := Aside0.mk A610
    clear A610
    by_cases c62 : t203 = true
    ·subst c62
     have H1 : ((laws_toGrammar.f k a1_0 a1_1 l1_2 l1_3).bind fun bt204 => ((laws_eqGrammar.f k t185 t186 t187 t190 bt204.1 bt204.2.1 bt204.2.2.1 bt204.2.2.2).bind fun t212 => (if t212 = true then (some true) else (some false)))) = some r := by rw [if_pos rfl] at H; exact H
     clear H
     have H := H1
     clear H1
     replace H := Option.bind_eq_some_iff.mp H
     obtain ⟨⟨t204, t205, t206, t209⟩, A630, H⟩ := H
     replace H : ((laws_eqGrammar.f k t185 t186 t187 t190 t204 t205 t206 t209).bind fun t212 => (if t212 = true then (some true) else (some false))) = some r := H
     have A63 := Aside0.mk A630
     clear A630
     replace H := Option.bind_eq_some_iff.mp H
     obtain ⟨t212, A640, H⟩ := H
     replace H : (if t212 = true then (some true) else (some false)) = some r := H
     have A64 := Aside0.mk A640
     clear A640
     by_cases c65 : t212 = true
     ·subst c65
      have H1 : (some true) = some r := by rw [if_pos rfl] at H; exact H
      clear H
      have H := H1
      clear H1
      obtain rfl := Option.some.inj H
      go_enter Try.func3, Try.ntmps3
      try go_wp2_with (first | ((with_reducible refine gate_dst (N := 2) rfl ?_); refine bE ?hg (N := 2) ?hd (cs := #[.int .i64 a0_0, .int .i64 a0_1, .slice A0_2 l0_2.length c0_2, .slice A0_3 l0_3.length c0_3]) (t := 25) ?hr ?_; (case hd => rfl); (case hg => rfl); (case hr => first | (go_simp; done) | (go_simp; rfl)); intro gb155 hg w66 hbox hb; have z_ := bX hb (by repeat (first | (with_reducible first | exact HB.out | apply bA | apply bN | apply bD) | exact HB.out)); have n0_ := Aside0.mk (bP z_ hb); have n1_ := Aside0.mk (hbox); have n2_ := Aside0.mk ((by rw [hg]; exact (bZ z_) : w.heap.size ≤ gb155)); have n3_ := Aside0.mk ((by rw [hg]; exact (bZ z_) : w.heap.size ≤ gb155)); clear HB; have HB := n0_; have BK155 := n1_; have GW155 := n2_; have GE155 := n3_; clear z_ n0_ n1_ n2_ n3_; clear hb hbox hg) | ((with_reducible refine gate_dst (N := 3) rfl ?_); refine bE ?hg (N := 3) ?hd (cs := #[.int .i64 a1_0, .int .i64 a1_1, .slice A1_2 l1_2.length c1_2, .slice A1_3 l1_3.length c1_3]) (t := 25) ?hr ?_; (case hd => rfl); (case hg => rfl); (case hr => first | (go_simp; done) | (go_simp; rfl)); intro gb156 hg w67 hbox hb; have z_ := bX hb (by repeat (first | (with_reducible first | exact HB.out | apply bA | apply bN | apply bD | refine bS ?_ GE155.out) | exact HB.out)); have n0_ := Aside0.mk (kB (kQ BK155) hb); have n1_ := Aside0.mk (bP z_ hb); have n2_ := Aside0.mk (hbox); have n3_ := Aside0.mk ((by rw [hg]; exact (bZ z_) : w.heap.size ≤ gb156)); have n4_ := Aside0.mk ((by rw [hg]; exact (bZ z_) : w.heap.size ≤ gb156)); have n5_ := Aside0.mk ((by rw [hg]; exact Nat.ne_of_lt (kL (kQ BK155)) : gb155 ≠ gb156)); have n6_ := Aside0.mk ((by rw [hg]; exact Nat.ne_of_gt (kL (kQ BK155)) : gb156 ≠ gb155)); clear BK155; clear HB; have BK155 := n0_; have HB := n1_; have BK156 := n2_; have GW156 := n3_; have GE156 := n4_; have NB155_156 := n5_; have NB156_155 := n6_; clear z_ n0_ n1_ n2_ n3_ n4_ n5_ n6_; clear hb hbox hg; have hnb68 := NB155_156.out; have hnc68 := NB156_155.out; have hcz69_0 : w67.cell? ⟨gb155, 0, none⟩ = some (.int .i64 a0_0) := (kC BK155.out 0).trans rfl; have hcz69_1 : w67.cell? ⟨gb155, 1, none⟩ = some (.int .i64 a0_1) := (kC BK155.out 1).trans rfl; have hcz69_2 : w67.cell? ⟨gb155, 2, none⟩ = some (.slice A0_2 l0_2.length c0_2) := (kC BK155.out 2).trans rfl; have hcz69_3 : w67.cell? ⟨gb155, 3, none⟩ = some (.slice A0_3 l0_3.length c0_3) := (kC BK155.out 3).trans rfl; have hfz69_0 := blk_frozen BK155.out 0; have hfz69_1 := blk_frozen BK155.out 1; have hfz69_2 := blk_frozen BK155.out 2; have hfz69_3 := blk_frozen BK155.out 3) | ((with_reducible refine gC (f := 15) rfl ?_); refine goesL_ (some 12) rfl rfl Try.func15 (by kernel_rfl) rfl #[.agg #[.int .i64 a0_0, .int .i64 a0_1, .slice A0_2 l0_2.length c0_2, .slice A0_3 l0_3.length c0_3], .int .i64 1048576] rfl lQ ?_; (with_reducible refine (laws_szGrammar.calls a0_0 a0_1 _ _ l0_2 _ _ l0_3 1048576 t157 _ ?side1 ?side2 ?side3 ?side4 A3.out).mono ?_); (case side1 => repeat (first | exact (cB HR0_2.out HB.out) | (with_reducible refine cA ?_ _) | (with_reducible refine cN ?_ _) | (with_reducible refine cD ?_))); (case side2 => exact HC0_2.out); (case side3 => repeat (first | exact (cB HR0_3.out HB.out) | (with_reducible refine cA ?_ _) | (with_reducible refine cN ?_ _) | (with_reducible refine cD ?_))); (case side4 => exact HC0_3.out); rintro e w70 ⟨rfl, hb⟩; refine ⟨_, rfl, ?_⟩; have n0_ := Aside0.mk (kB (kQ BK155) hb); have n1_ := Aside0.mk (kB (kQ BK156) hb); have n2_ := Aside0.mk (bP (by repeat (first | (with_reducible first | exact HB.out | apply bA | apply bN | apply bD | refine bS ?_ GE155.out | refine bS ?_ GE156.out) | exact HB.out)) hb); clear BK155; clear BK156; clear HB; have BK155 := n0_; have BK156 := n1_; have HB := n2_; clear n0_ n1_ n2_; (try clear hb); (try clear hb2); (try clear hk); (try clear hi); have hcz71_0 : w70.cell? ⟨gb156, 0, none⟩ = some (.int .i64 a1_0) := (kC BK156.out 0).trans rfl; have hcz71_1 : w70.cell? ⟨gb156, 1, none⟩ = some (.int .i64 a1_1) := (kC BK156.out 1).trans rfl; have hcz71_2 : w70.cell? ⟨gb156, 2, none⟩ = some (.slice A1_2 l1_2.length c1_2) := (kC BK156.out 2).trans rfl; have hcz71_3 : w70.cell? ⟨gb156, 3, none⟩ = some (.slice A1_3 l1_3.length c1_3) := (kC BK156.out 3).trans rfl; have hfz71_0 := blk_frozen BK156.out 0; have hfz71_1 := blk_frozen BK156.out 1; have hfz71_2 := blk_frozen BK156.out 2; have hfz71_3 := blk_frozen BK156.out 3) | ((with_reducible refine gC (f := 15) rfl ?_); refine goesL_ (some 17) rfl rfl Try.func15 (by kernel_rfl) rfl #[.agg #[.int .i64 a1_0, .int .i64 a1_1, .slice A1_2 l1_2.length c1_2, .slice A1_3 l1_3.length c1_3], .int .i64 t157] rfl lQ ?_; (with_reducible refine (laws_szGrammar.calls a1_0 a1_1 _ _ l1_2 _ _ l1_3 t157 t158 _ ?side1 ?side2 ?side3 ?side4 A10.out).mono ?_); (case side1 => repeat (first | exact (cB HR1_2.out HB.out) | (with_reducible refine cA ?_ _) | (with_reducible refine cN ?_ _) | (with_reducible refine cD ?_))); (case side2 => exact HC1_2.out); (case side3 => repeat (first | exact (cB HR1_3.out HB.out) | (with_reducible refine cA ?_ _) | (with_reducible refine cN ?_ _) | (with_reducible refine cD ?_))); (case side4 => exact HC1_3.out); rintro e w72 ⟨rfl, hb⟩; refine ⟨_, rfl, ?_⟩; have n0_ := Aside0.mk (kB (kQ BK155) hb); have n1_ := Aside0.mk (kB (kQ BK156) hb); have n2_ := Aside0.mk (bP (by repeat (first | (with_reducible first | exact HB.out | apply bA | apply bN | apply bD | refine bS ?_ GE155.out | refine bS ?_ GE156.out) | exact HB.out)) hb); clear BK155; clear BK156; clear HB; have BK155 := n0_; have BK156 := n1_; have HB := n2_; clear n0_ n1_ n2_; (try clear hb); (try clear hb2); (try clear hk); (try clear hi)))
      have n0_ := Aside0.mk (kD BK155.out)
      have n1_ := Aside0.mk (kD BK156.out)
      have n2_ := Aside0.mk (bD HB.out)
      clear BK155
      clear BK156
      clear HB
      have BK155 := n0_
      have BK156 := n1_
      have HB := n2_
      clear n0_ n1_ n2_
      refine start_ (n := 6) (S := fun w' => w'.cell? ⟨gb155, 0, none⟩ = some (.int .i64 a0_0) ∧ w'.cell? ⟨gb155, 1, none⟩ = some (.int .i64 a0_1) ∧ w'.cell? ⟨gb155, 2, none⟩ = some (.slice A0_2 l0_2.length c0_2) ∧ w'.cell? ⟨gb155, 3, none⟩ = some (.slice A0_3 l0_3.length c0_3) ∧ w'.cell? ⟨gb156, 0, none⟩ = some (.int .i64 a1_0) ∧ w'.cell? ⟨gb156, 1, none⟩ = some (.int .i64 a1_1) ∧ w'.cell? ⟨gb156, 2, none⟩ = some (.slice A1_2 l1_2.length c1_2) ∧ w'.cell? ⟨gb156, 3, none⟩ = some (.slice A1_3 l1_3.length c1_3)) (ds := []) #[F,F,F,F,F,F] (by kernel_rfl) rfl rfl ⟨(kC BK155.out 0).trans rfl, (kC BK155.out 1).trans rfl, (kC BK155.out 2).trans rfl, (kC BK155.out 3).trans rfl, (kC BK156.out 0).trans rfl, (kC BK156.out 1).trans rfl, (kC BK156.out 2).trans rfl, (kC BK156.out 3).trans rfl⟩ (fun hHeld => ?_)
      generalize w72.drew = w73 at BK155 BK156 HB hHeld ⊢
      refine take_ (i := 0) (N := some 20) (v := ?_) (a' := ?_) #[T,F,F,F,F,F] rfl rfl (by kernel_rfl) (fun _ _ _ h => h) (Or.inl ⟨by rfl, ?_⟩) hHeld ?_ ?_; rotate_left; (·rintro w' ⟨s0, s1, s2, s3, s4, s5, s6, s7⟩; go_simp; with_reducible rfl); rotate_left; (·simp only [Act.put, sI, sZ, sS, iW, jW]; rfl)
      refine take_ (i := 2) (N := some 22) (v := ?_) (a' := ?_) #[T,F,T,F,F,F] rfl rfl (by kernel_rfl) (fun _ _ _ h => h) (Or.inl ⟨by rfl, ?_⟩) hHeld ?_ ?_; rotate_left; (·rintro w' ⟨s0, s1, s2, s3, s4, s5, s6, s7⟩; go_simp; with_reducible rfl); rotate_left; (·simp only [Act.put, sI, sZ, sS, iW, jW]; rfl)
      refine one_ (i := 1) (N := some 21) #[T,T,T,F,F,F] rfl rfl (by kernel_rfl) (by decide) (fun K hK => ?_)
      refine goes_ Try.func17 (by kernel_rfl) rfl #[.agg #[.int .i64 a0_0, .int .i64 a0_1, .slice A0_2 l0_2.length c0_2, .slice A0_3 l0_3.length c0_3]] (by rfl) rfl rfl lQ ?_
      with_reducible refine (laws_toGrammar.calls k a0_0 a0_1 _ _ l0_2 _ _ l0_3 t159 t160 t161 t164 _ ?side1 ?side2 ?side3 ?side4 A19.out).mono ?_
      (case side1 => repeat (first | exact (cB HR0_2.out HB.out) | (with_reducible refine cA ?_ _) | (with_reducible refine cN ?_ _) | (with_reducible refine cD ?_)))
      (case side2 => exact HC0_2.out)
      (case side3 => repeat (first | exact (cB HR0_3.out HB.out) | (with_reducible refine cA ?_ _) | (with_reducible refine cN ?_ _) | (with_reducible refine cD ?_)))
      (case side4 => exact HC0_3.out)
      rintro e w74 ⟨v162, v165, rfl, ho0, ho1, hb⟩
      refine ⟨_, rfl, ?_⟩
      have z_ := bX hb (by repeat (first | (with_reducible first | exact HB.out | apply bA | apply bN | apply bD | refine bS ?_ GE155.out | refine bS ?_ GE156.out) | exact HB.out))
      have n0_ := Aside0.mk (rL ho0 (bZ z_))
      have n1_ := Aside0.mk (rL ho1 (bZ z_))
      have n2_ := Aside0.mk (kB (kQ BK155) hb)
      have n3_ := Aside0.mk (kB (kQ BK156) hb)
      have n4_ := Aside0.mk (bP z_ hb)
      clear BK155
      clear BK156
      clear HB
      have HO163 := n0_
      have HO166 := n1_
      have BK155 := n2_
      have BK156 := n3_
      have HB := n4_
      clear z_ n0_ n1_ n2_ n3_ n4_
      (try clear hb)
      (try clear hb2)
      (try clear hk)
      (try clear hi)
      (try clear ho0)
      (try clear ho1)
      refine hK.out _ _ ⟨(kC BK155.out 0).trans rfl, (kC BK155.out 1).trans rfl, (kC BK155.out 2).trans rfl, (kC BK155.out 3).trans rfl, (kC BK156.out 0).trans rfl, (kC BK156.out 1).trans rfl, (kC BK156.out 2).trans rfl, (kC BK156.out 3).trans rfl⟩ (fun hHeld => ?_)
      clear hK K
      refine norm_ (a' := ?_) ?_ ?_
      rotate_left
      ·show Act.put _ (some 21) _ = _
       simp only [Act.put, sI, sZ, sS, iW, jW]
       rfl
      refine one_ (i := 3) (N := some 23) #[T,T,T,T,F,F] rfl rfl (by kernel_rfl) (by decide) (fun K hK => ?_)
      refine goes_ Try.func17 (by kernel_rfl) rfl #[.agg #[.int .i64 a1_0, .int .i64 a1_1, .slice A1_2 l1_2.length c1_2, .slice A1_3 l1_3.length c1_3]] (by rfl) rfl rfl lQ ?_
      with_reducible refine (laws_toGrammar.calls k a1_0 a1_1 _ _ l1_2 _ _ l1_3 t167 t168 t169 t172 _ ?side1 ?side2 ?side3 ?side4 A20.out).mono ?_
      (case side1 => repeat (first | exact (cB HR1_2.out HB.out) | (with_reducible refine cA ?_ _) | (with_reducible refine cN ?_ _) | (with_reducible refine cD ?_)))
      (case side2 => exact HC1_2.out)
      (case side3 => repeat (first | exact (cB HR1_3.out HB.out) | (with_reducible refine cA ?_ _) | (with_reducible refine cN ?_ _) | (with_reducible refine cD ?_)))
      (case side4 => exact HC1_3.out)
      rintro e w75 ⟨v170, v173, rfl, ho0, ho1, hb⟩
      refine ⟨_, rfl, ?_⟩
      have z_ := bX hb (by repeat (first | (with_reducible first | exact HB.out | apply bA | apply bN | apply bD | refine bS ?_ GE155.out | refine bS ?_ GE156.out) | exact HB.out))
      have n0_ := Aside0.mk (rE (rQ HO163) (Kd.R_base ho0) hb)
      have n1_ := Aside0.mk (rE (rQ HO166) (Kd.R_base ho1) hb)
      have n2_ := Aside0.mk (rL (rW ho0 (rT (rQ HO163))) (bZ z_))
      have n3_ := Aside0.mk (rL (rW ho1 (rT (rQ HO166))) (bZ z_))
      have n4_ := Aside0.mk (kB (kQ BK155) hb)
      have n5_ := Aside0.mk (kB (kQ BK156) hb)
      have n6_ := Aside0.mk (bP z_ hb)
      clear HO163
      clear HO166
      clear BK155
      clear BK156
      clear HB
      have HO163 := n0_
      have HO166 := n1_
      have HO171 := n2_
      have HO174 := n3_
      have BK155 := n4_
      have BK156 := n5_
      have HB := n6_
      clear z_ n0_ n1_ n2_ n3_ n4_ n5_ n6_
      (try clear hb)
      (try clear hb2)
      (try clear hk)
      (try clear hi)
      (try clear ho0)
      (try clear ho1)
      obtain ⟨Ao76, co76, eo76⟩ := Kd.R_slice HO163.out
      (first | subst eo76 | (injection eo76 with f1_ f2_ f3_; have f4_ := f1_.symm; have f5_ := f3_.symm; clear f1_ f2_ f3_; subst f4_; subst f5_))
      obtain ⟨Ao77, co77, eo77⟩ := Kd.R_slice HO166.out
      (first | subst eo77 | (injection eo77 with f1_ f2_ f3_; have f4_ := f1_.symm; have f5_ := f3_.symm; clear f1_ f2_ f3_; subst f4_; subst f5_))
      obtain ⟨Ao78, co78, eo78⟩ := Kd.R_slice HO171.out
      (first | subst eo78 | (injection eo78 with f1_ f2_ f3_; have f4_ := f1_.symm; have f5_ := f3_.symm; clear f1_ f2_ f3_; subst f4_; subst f5_))
      obtain ⟨Ao79, co79, eo79⟩ := Kd.R_slice HO174.out
      (first | subst eo79 | (injection eo79 with f1_ f2_ f3_; have f4_ := f1_.symm; have f5_ := f3_.symm; clear f1_ f2_ f3_; subst f4_; subst f5_))
      refine hK.out _ _ ⟨(kC BK155.out 0).trans rfl, (kC BK155.out 1).trans rfl, (kC BK155.out 2).trans rfl, (kC BK155.out 3).trans rfl, (kC BK156.out 0).trans rfl, (kC BK156.out 1).trans rfl, (kC BK156.out 2).trans rfl, (kC BK156.out 3).trans rfl⟩ (fun hHeld => ?_)
      clear hK K
      refine norm_ (a' := ?_) ?_ ?_
      rotate_left
      ·show Act.put _ (some 23) _ = _
       simp only [Act.put, sI, sZ, sS, iW, jW]
       rfl
      refine one_ (i := 4) (N := some 24) #[T,T,T,T,T,F] rfl rfl (by kernel_rfl) (by decide) (fun K hK => ?_)
      refine goes_ Try.func16 (by kernel_rfl) rfl #[.agg #[.int .i64 t159, .int .i64 t160, .slice Ao76 t161.length co76, .slice Ao77 t164.length co77], .agg #[.int .i64 t167, .int .i64 t168, .slice Ao78 t169.length co78, .slice Ao79 t172.length co79]] (by rfl) rfl rfl lQ ?_
      with_reducible refine (spec_SameGrammar.calls k t159 t160 _ _ t161 _ _ t164 t167 t168 _ _ t169 _ _ t172 t175 _ ?side1 ?side2 ?side3 ?side4 ?side5 ?side6 ?side7 ?side8 A21.out).mono ?_
      (case side1 => repeat (first | exact (Kd.R_reads' HO163.out).2.2 | (with_reducible refine cA ?_ _) | (with_reducible refine cN ?_ _) | (with_reducible refine cD ?_)))
      (case side2 => exact (Kd.R_reads' HO163.out).2.1)
      (case side3 => repeat (first | exact (Kd.R_reads' HO166.out).2.2 | (with_reducible refine cA ?_ _) | (with_reducible refine cN ?_ _) | (with_reducible refine cD ?_)))
      (case side4 => exact (Kd.R_reads' HO166.out).2.1)
      (case side5 => repeat (first | exact (Kd.R_reads' HO171.out).2.2 | (with_reducible refine cA ?_ _) | (with_reducible refine cN ?_ _) | (with_reducible refine cD ?_)))
      (case side6 => exact (Kd.R_reads' HO171.out).2.1)
      (case side7 => repeat (first | exact (Kd.R_reads' HO174.out).2.2 | (with_reducible refine cA ?_ _) | (with_reducible refine cN ?_ _) | (with_reducible refine cD ?_)))
      (case side8 => exact (Kd.R_reads' HO174.out).2.1)
      rintro e w80 ⟨rfl, hb⟩
      refine ⟨_, rfl, ?_⟩
      have n0_ := Aside0.mk (rB (rQ HO163) hb)
      have n1_ := Aside0.mk (rB (rQ HO166) hb)
      have n2_ := Aside0.mk (rB (rQ HO171) hb)
      have n3_ := Aside0.mk (rB (rQ HO174) hb)
      have n4_ := Aside0.mk (kB (kQ BK155) hb)
      have n5_ := Aside0.mk (kB (kQ BK156) hb)
      have n6_ := Aside0.mk (bP (by repeat (first | (with_reducible first | exact HB.out | apply bA | apply bN | apply bD | refine bS ?_ GE155.out | refine bS ?_ GE156.out) | exact HB.out)) hb)
      clear HO163
      clear HO166
      clear HO171
      clear HO174
      clear BK155
      clear BK156
      clear HB
      have HO163 := n0_
      have HO166 := n1_
      have HO171 := n2_
      have HO174 := n3_
      have BK155 := n4_
      have BK156 := n5_
      have HB := n6_
      clear n0_ n1_ n2_ n3_ n4_ n5_ n6_
      (try clear hb)
      (try clear hb2)
      (try clear hk)
      (try clear hi)
      refine hK.out _ _ ⟨(kC BK155.out 0).trans rfl, (kC BK155.out 1).trans rfl, (kC BK155.out 2).trans rfl, (kC BK155.out 3).trans rfl, (kC BK156.out 0).trans rfl, (kC BK156.out 1).trans rfl, (kC BK156.out 2).trans rfl, (kC BK156.out 3).trans rfl⟩ (fun hHeld => ?_)
      clear hK K
      refine norm_ (a' := ?_) ?_ ?_
      rotate_left
      ·show Act.put _ (some 24) _ = _
       simp only [Act.put, sI, sZ, sS, iW, jW]
       rfl
      refine pure_ (i := 5) (N := some 6) (v := ?_) (a' := ?_) #[T,T,T,T,T,T] rfl rfl (by kernel_rfl) (fun _ _ _ h => h) (Or.inl ⟨by rfl, ?_⟩) ?_ ?_; rotate_left; (·intro w'; go_simp; with_reducible rfl); rotate_left; (·simp only [Act.put, sI, sZ, sS, iW, jW]; rfl)
      refine done_ (by kernel_rfl) ?_
      have hcz81_0 : w80.cell? ⟨gb155, 0, none⟩ = some (.int .i64 a0_0) := (kC BK155.out 0).trans rfl
      have hcz81_1 : w80.cell? ⟨gb155, 1, none⟩ = some (.int .i64 a0_1) := (kC BK155.out 1).trans rfl
      have hcz81_2 : w80.cell? ⟨gb155, 2, none⟩ = some (.slice A0_2 l0_2.length c0_2) := (kC BK155.out 2).trans rfl
      have hcz81_3 : w80.cell? ⟨gb155, 3, none⟩ = some (.slice A0_3 l0_3.length c0_3) := (kC BK155.out 3).trans rfl
      have hfz81_0 := blk_frozen BK155.out 0
      have hfz81_1 := blk_frozen BK155.out 1
      have hfz81_2 := blk_frozen BK155.out 2
      have hfz81_3 := blk_frozen BK155.out 3
      try go_wp2_with (first | ((with_reducible refine gC (f := 17) rfl ?_); refine goesL_ (some 26) rfl rfl Try.func17 (by kernel_rfl) rfl #[.agg #[.int .i64 a0_0, .int .i64 a0_1, .slice A0_2 l0_2.length c0_2, .slice A0_3 l0_3.length c0_3]] rfl lQ ?_; (with_reducible refine (laws_toGrammar.calls k a0_0 a0_1 _ _ l0_2 _ _ l0_3 t176 t177 t178 t181 _ ?side1 ?side2 ?side3 ?side4 A22.out).mono ?_); (case side1 => repeat (first | exact (cB HR0_2.out HB.out) | (with_reducible refine cA ?_ _) | (with_reducible refine cN ?_ _) | (with_reducible refine cD ?_))); (case side2 => exact HC0_2.out); (case side3 => repeat (first | exact (cB HR0_3.out HB.out) | (with_reducible refine cA ?_ _) | (with_reducible refine cN ?_ _) | (with_reducible refine cD ?_))); (case side4 => exact HC0_3.out); rintro e w82 ⟨v179, v182, rfl, ho0, ho1, hb⟩; refine ⟨_, rfl, ?_⟩; have z_ := bX hb (by repeat (first | (with_reducible first | exact HB.out | apply bA | apply bN | apply bD | refine bS ?_ GE155.out | refine bS ?_ GE156.out) | exact HB.out)); have n0_ := Aside0.mk (rE (rQ HO163) (Kd.R_base ho0) hb); have n1_ := Aside0.mk (rE (rQ HO166) (Kd.R_base ho1) hb); have n2_ := Aside0.mk (rE (rQ HO171) (Kd.R_base ho0) hb); have n3_ := Aside0.mk (rE (rQ HO174) (Kd.R_base ho1) hb); have n4_ := Aside0.mk (rL (rW (rW ho0 (rT (rQ HO163))) (rT (rQ HO171))) (bZ z_)); have n5_ := Aside0.mk (rL (rW (rW ho1 (rT (rQ HO166))) (rT (rQ HO174))) (bZ z_)); have n6_ := Aside0.mk (kB (kQ BK155) hb); have n7_ := Aside0.mk (kB (kQ BK156) hb); have n8_ := Aside0.mk (bP z_ hb); clear HO163; clear HO166; clear HO171; clear HO174; clear BK155; clear BK156; clear HB; have HO163 := n0_; have HO166 := n1_; have HO171 := n2_; have HO174 := n3_; have HO180 := n4_; have HO183 := n5_; have BK155 := n6_; have BK156 := n7_; have HB := n8_; clear z_ n0_ n1_ n2_ n3_ n4_ n5_ n6_ n7_ n8_; (try clear hb); (try clear hb2); (try clear hk); (try clear hi); (try clear ho0); (try clear ho1)) | ((with_reducible refine gate_dst (N := 7) rfl ?_); refine bE ?hg (N := 7) ?hd (cs := #[.int .i64 0, .int .i64 0, .slice none 0 0, .slice none 0 0]) (t := 30) ?hr ?_; (case hd => rfl); (case hg => rfl); (case hr => first | (go_simp; done) | (go_simp; rfl)); intro gb184 hg w83 hbox hb; have z_ := bX hb (by repeat (first | (with_reducible first | exact HB.out | apply bA | apply bN | apply bD | refine bS ?_ GE155.out | refine bS ?_ GE156.out) | exact HB.out)); have n0_ := Aside0.mk (rB (rQ HO163) hb); have n1_ := Aside0.mk (rB (rQ HO166) hb); have n2_ := Aside0.mk (rB (rQ HO171) hb); have n3_ := Aside0.mk (rB (rQ HO174) hb); have n4_ := Aside0.mk (rB (rQ HO180) hb); have n5_ := Aside0.mk (rB (rQ HO183) hb); have n6_ := Aside0.mk (kB (kQ BK155) hb); have n7_ := Aside0.mk (kB (kQ BK156) hb); have n8_ := Aside0.mk (bP z_ hb); have n9_ := Aside0.mk (hbox); have n10_ := Aside0.mk ((by rw [hg]; exact (bZ z_) : w.heap.size ≤ gb184)); have n11_ := Aside0.mk ((by rw [hg]; exact (bZ z_) : w.heap.size ≤ gb184)); have n12_ := Aside0.mk ((by rw [hg]; exact Nat.ne_of_lt (kL (kQ BK155)) : gb155 ≠ gb184)); have n13_ := Aside0.mk ((by rw [hg]; exact Nat.ne_of_gt (kL (kQ BK155)) : gb184 ≠ gb155)); have n14_ := Aside0.mk ((by rw [hg]; exact Nat.ne_of_lt (kL (kQ BK156)) : gb156 ≠ gb184)); have n15_ := Aside0.mk ((by rw [hg]; exact Nat.ne_of_gt (kL (kQ BK156)) : gb184 ≠ gb156)); clear HO163; clear HO166; clear HO171; clear HO174; clear HO180; clear HO183; clear BK155; clear BK156; clear HB; have HO163 := n0_; have HO166 := n1_; have HO171 := n2_; have HO174 := n3_; have HO180 := n4_; have HO183 := n5_; have BK155 := n6_; have BK156 := n7_; have HB := n8_; have BK184 := n9_; have GW184 := n10_; have GE184 := n11_; have NB155_184 := n12_; have NB184_155 := n13_; have NB156_184 := n14_; have NB184_156 := n15_; clear z_ n0_ n1_ n2_ n3_ n4_ n5_ n6_ n7_ n8_ n9_ n10_ n11_ n12_ n13_ n14_ n15_; clear hb hbox hg; have hnb84 := NB184_155.out; have hnc84 := NB155_184.out; have hnb85 := NB184_156.out; have hnc85 := NB156_184.out; have hcz86_0 : w83.cell? ⟨gb184, 0, none⟩ = some (.int .i64 0) := (kC BK184.out 0).trans rfl; have hcz86_1 : w83.cell? ⟨gb184, 1, none⟩ = some (.int .i64 0) := (kC BK184.out 1).trans rfl; have hcz86_2 : w83.cell? ⟨gb184, 2, none⟩ = some (.slice none 0 0) := (kC BK184.out 2).trans rfl; have hcz86_3 : w83.cell? ⟨gb184, 3, none⟩ = some (.slice none 0 0) := (kC BK184.out 3).trans rfl; have hfz86_0 := blk_frozen BK184.out 0; have hfz86_1 := blk_frozen BK184.out 1; have hfz86_2 := blk_frozen BK184.out 2; have hfz86_3 := blk_frozen BK184.out 3; obtain ⟨Ao87, co87, eo87⟩ := Kd.R_slice HO180.out; subst eo87; obtain ⟨Ao88, co88, eo88⟩ := Kd.R_slice HO183.out; subst eo88; have hcz89_0 : w83.cell? ⟨gb156, 0, none⟩ = some (.int .i64 a1_0) := (kC BK156.out 0).trans rfl; have hcz89_1 : w83.cell? ⟨gb156, 1, none⟩ = some (.int .i64 a1_1) := (kC BK156.out 1).trans rfl; have hcz89_2 : w83.cell? ⟨gb156, 2, none⟩ = some (.slice A1_2 l1_2.length c1_2) := (kC BK156.out 2).trans rfl; have hcz89_3 : w83.cell? ⟨gb156, 3, none⟩ = some (.slice A1_3 l1_3.length c1_3) := (kC BK156.out 3).trans rfl; have hfz89_0 := blk_frozen BK156.out 0; have hfz89_1 := blk_frozen BK156.out 1; have hfz89_2 := blk_frozen BK156.out 2; have hfz89_3 := blk_frozen BK156.out 3) | ((with_reducible refine gC (f := 17) rfl ?_); refine goesL_ (some 28) rfl rfl Try.func17 (by kernel_rfl) rfl #[.agg #[.int .i64 a1_0, .int .i64 a1_1, .slice A1_2 l1_2.length c1_2, .slice A1_3 l1_3.length c1_3]] rfl lQ ?_; (with_reducible refine (laws_toGrammar.calls k a1_0 a1_1 _ _ l1_2 _ _ l1_3 t185 t186 t187 t190 _ ?side1 ?side2 ?side3 ?side4 A23.out).mono ?_); (case side1 => exact cB HR1_2.out (by repeat (first | (with_reducible first | exact HB.out | apply bA | apply bN | apply bD | refine bS ?_ GE155.out | refine bS ?_ GE156.out | refine bS ?_ GE184.out) | exact HB.out))); (case side2 => exact HC1_2.out); (case side3 => exact cB HR1_3.out (by repeat (first | (with_reducible first | exact HB.out | apply bA | apply bN | apply bD | refine bS ?_ GE155.out | refine bS ?_ GE156.out | refine bS ?_ GE184.out) | exact HB.out))); (case side4 => exact HC1_3.out); rintro e w90 ⟨v188, v191, rfl, ho0, ho1, hb⟩; refine ⟨_, rfl, ?_⟩; have z_ := bX hb (by repeat (first | (with_reducible first | exact HB.out | apply bA | apply bN | apply bD | refine bS ?_ GE155.out | refine bS ?_ GE156.out | refine bS ?_ GE184.out) | exact HB.out)); have n0_ := Aside0.mk (rE (by (with_reducible repeat (first | apply rA | apply rN | apply rD)); exact (rM (Kd.R_far (p := ⟨gb184, 3, none⟩) (Kd.R_far (p := ⟨gb184, 2, none⟩) (Kd.R_far (p := ⟨gb184, 1, none⟩) (Kd.R_far (p := ⟨gb184, 0, none⟩) (Kd.R_types HO163.out BK184.out (by decide)) (fun _ hk => hk.2) (.int .i64 t176)) (fun _ hk => hk.2) (.int .i64 t177)) (fun _ hk => hk.2) (.slice Ao87 t178.length co87)) (fun _ hk => hk.2) (.slice Ao88 t181.length co88)) (fun _ h_ => h_.1))) (Kd.R_base ho0) hb); have n1_ := Aside0.mk (rE (by (with_reducible repeat (first | apply rA | apply rN | apply rD)); exact (rM (Kd.R_far (p := ⟨gb184, 3, none⟩) (Kd.R_far (p := ⟨gb184, 2, none⟩) (Kd.R_far (p := ⟨gb184, 1, none⟩) (Kd.R_far (p := ⟨gb184, 0, none⟩) (Kd.R_types HO166.out BK184.out (by decide)) (fun _ hk => hk.2) (.int .i64 t176)) (fun _ hk => hk.2) (.int .i64 t177)) (fun _ hk => hk.2) (.slice Ao87 t178.length co87)) (fun _ hk => hk.2) (.slice Ao88 t181.length co88)) (fun _ h_ => h_.1))) (Kd.R_base ho1) hb); have n2_ := Aside0.mk (rE (by (with_reducible repeat (first | apply rA | apply rN | apply rD)); exact (rM (Kd.R_far (p := ⟨gb184, 3, none⟩) (Kd.R_far (p := ⟨gb184, 2, none⟩) (Kd.R_far (p := ⟨gb184, 1, none⟩) (Kd.R_far (p := ⟨gb184, 0, none⟩) (Kd.R_types HO171.out BK184.out (by decide)) (fun _ hk => hk.2) (.int .i64 t176)) (fun _ hk => hk.2) (.int .i64 t177)) (fun _ hk => hk.2) (.slice Ao87 t178.length co87)) (fun _ hk => hk.2) (.slice Ao88 t181.length co88)) (fun _ h_ => h_.1))) (Kd.R_base ho0) hb); have n3_ := Aside0.mk (rE (by (with_reducible repeat (first | apply rA | apply rN | apply rD)); exact (rM (Kd.R_far (p := ⟨gb184, 3, none⟩) (Kd.R_far (p := ⟨gb184, 2, none⟩) (Kd.R_far (p := ⟨gb184, 1, none⟩) (Kd.R_far (p := ⟨gb184, 0, none⟩) (Kd.R_types HO174.out BK184.out (by decide)) (fun _ hk => hk.2) (.int .i64 t176)) (fun _ hk => hk.2) (.int .i64 t177)) (fun _ hk => hk.2) (.slice Ao87 t178.length co87)) (fun _ hk => hk.2) (.slice Ao88 t181.length co88)) (fun _ h_ => h_.1))) (Kd.R_base ho1) hb); have n4_ := Aside0.mk (rE (by (with_reducible repeat (first | apply rA | apply rN | apply rD)); exact (rM (Kd.R_far (p := ⟨gb184, 3, none⟩) (Kd.R_far (p := ⟨gb184, 2, none⟩) (Kd.R_far (p := ⟨gb184, 1, none⟩) (Kd.R_far (p := ⟨gb184, 0, none⟩) (Kd.R_types HO180.out BK184.out (by decide)) (fun _ hk => hk.2) (.int .i64 t176)) (fun _ hk => hk.2) (.int .i64 t177)) (fun _ hk => hk.2) (.slice Ao87 t178.length co87)) (fun _ hk => hk.2) (.slice Ao88 t181.length co88)) (fun _ h_ => h_.1))) (Kd.R_base ho0) hb); have n5_ := Aside0.mk (rE (by (with_reducible repeat (first | apply rA | apply rN | apply rD)); exact (rM (Kd.R_far (p := ⟨gb184, 3, none⟩) (Kd.R_far (p := ⟨gb184, 2, none⟩) (Kd.R_far (p := ⟨gb184, 1, none⟩) (Kd.R_far (p := ⟨gb184, 0, none⟩) (Kd.R_types HO183.out BK184.out (by decide)) (fun _ hk => hk.2) (.int .i64 t176)) (fun _ hk => hk.2) (.int .i64 t177)) (fun _ hk => hk.2) (.slice Ao87 t178.length co87)) (fun _ hk => hk.2) (.slice Ao88 t181.length co88)) (fun _ h_ => h_.1))) (Kd.R_base ho1) hb); have n6_ := Aside0.mk (rL (rW (rW (rW ho0 (rT (by (with_reducible repeat (first | apply rA | apply rN | apply rD)); exact (rM (Kd.R_far (p := ⟨gb184, 3, none⟩) (Kd.R_far (p := ⟨gb184, 2, none⟩) (Kd.R_far (p := ⟨gb184, 1, none⟩) (Kd.R_far (p := ⟨gb184, 0, none⟩) (Kd.R_types HO163.out BK184.out (by decide)) (fun _ hk => hk.2) (.int .i64 t176)) (fun _ hk => hk.2) (.int .i64 t177)) (fun _ hk => hk.2) (.slice Ao87 t178.length co87)) (fun _ hk => hk.2) (.slice Ao88 t181.length co88)) (fun _ h_ => h_.1))))) (rT (by (with_reducible repeat (first | apply rA | apply rN | apply rD)); exact (rM (Kd.R_far (p := ⟨gb184, 3, none⟩) (Kd.R_far (p := ⟨gb184, 2, none⟩) (Kd.R_far (p := ⟨gb184, 1, none⟩) (Kd.R_far (p := ⟨gb184, 0, none⟩) (Kd.R_types HO171.out BK184.out (by decide)) (fun _ hk => hk.2) (.int .i64 t176)) (fun _ hk => hk.2) (.int .i64 t177)) (fun _ hk => hk.2) (.slice Ao87 t178.length co87)) (fun _ hk => hk.2) (.slice Ao88 t181.length co88)) (fun _ h_ => h_.1))))) (rT (by (with_reducible repeat (first | apply rA | apply rN | apply rD)); exact (rM (Kd.R_far (p := ⟨gb184, 3, none⟩) (Kd.R_far (p := ⟨gb184, 2, none⟩) (Kd.R_far (p := ⟨gb184, 1, none⟩) (Kd.R_far (p := ⟨gb184, 0, none⟩) (Kd.R_types HO180.out BK184.out (by decide)) (fun _ hk => hk.2) (.int .i64 t176)) (fun _ hk => hk.2) (.int .i64 t177)) (fun _ hk => hk.2) (.slice Ao87 t178.length co87)) (fun _ hk => hk.2) (.slice Ao88 t181.length co88)) (fun _ h_ => h_.1))))) (bZ z_)); have n7_ := Aside0.mk (rL (rW (rW (rW ho1 (rT (by (with_reducible repeat (first | apply rA | apply rN | apply rD)); exact (rM (Kd.R_far (p := ⟨gb184, 3, none⟩) (Kd.R_far (p := ⟨gb184, 2, none⟩) (Kd.R_far (p := ⟨gb184, 1, none⟩) (Kd.R_far (p := ⟨gb184, 0, none⟩) (Kd.R_types HO166.out BK184.out (by decide)) (fun _ hk => hk.2) (.int .i64 t176)) (fun _ hk => hk.2) (.int .i64 t177)) (fun _ hk => hk.2) (.slice Ao87 t178.length co87)) (fun _ hk => hk.2) (.slice Ao88 t181.length co88)) (fun _ h_ => h_.1))))) (rT (by (with_reducible repeat (first | apply rA | apply rN | apply rD)); exact (rM (Kd.R_far (p := ⟨gb184, 3, none⟩) (Kd.R_far (p := ⟨gb184, 2, none⟩) (Kd.R_far (p := ⟨gb184, 1, none⟩) (Kd.R_far (p := ⟨gb184, 0, none⟩) (Kd.R_types HO174.out BK184.out (by decide)) (fun _ hk => hk.2) (.int .i64 t176)) (fun _ hk => hk.2) (.int .i64 t177)) (fun _ hk => hk.2) (.slice Ao87 t178.length co87)) (fun _ hk => hk.2) (.slice Ao88 t181.length co88)) (fun _ h_ => h_.1))))) (rT (by (with_reducible repeat (first | apply rA | apply rN | apply rD)); exact (rM (Kd.R_far (p := ⟨gb184, 3, none⟩) (Kd.R_far (p := ⟨gb184, 2, none⟩) (Kd.R_far (p := ⟨gb184, 1, none⟩) (Kd.R_far (p := ⟨gb184, 0, none⟩) (Kd.R_types HO183.out BK184.out (by decide)) (fun _ hk => hk.2) (.int .i64 t176)) (fun _ hk => hk.2) (.int .i64 t177)) (fun _ hk => hk.2) (.slice Ao87 t178.length co87)) (fun _ hk => hk.2) (.slice Ao88 t181.length co88)) (fun _ h_ => h_.1))))) (bZ z_)); have n8_ := Aside0.mk (kB (g := gb155) (o := .cells #[.int .i64 a0_0, .int .i64 a0_1, .slice A0_2 l0_2.length c0_2, .slice A0_3 l0_3.length c0_3] 25 (0, 0)) (by (with_reducible repeat (first | refine kN ?_ _ | refine kD ?_ | refine kA ?_ _)); refine kF ?_ NB155_184.out _; (with_reducible repeat (first | refine kN ?_ _ | refine kD ?_ | refine kA ?_ _)); refine kF ?_ NB155_184.out _; (with_reducible repeat (first | refine kN ?_ _ | refine kD ?_ | refine kA ?_ _)); refine kF ?_ NB155_184.out _; (with_reducible repeat (first | refine kN ?_ _ | refine kD ?_ | refine kA ?_ _)); refine kF ?_ NB155_184.out _; (with_reducible repeat (first | refine kN ?_ _ | refine kD ?_ | refine kA ?_ _)); exact BK155.out) hb); have n9_ := Aside0.mk (kB (g := gb156) (o := .cells #[.int .i64 a1_0, .int .i64 a1_1, .slice A1_2 l1_2.length c1_2, .slice A1_3 l1_3.length c1_3] 25 (0, 0)) (by (with_reducible repeat (first | refine kN ?_ _ | refine kD ?_ | refine kA ?_ _)); refine kF ?_ NB156_184.out _; (with_reducible repeat (first | refine kN ?_ _ | refine kD ?_ | refine kA ?_ _)); refine kF ?_ NB156_184.out _; (with_reducible repeat (first | refine kN ?_ _ | refine kD ?_ | refine kA ?_ _)); refine kF ?_ NB156_184.out _; (with_reducible repeat (first | refine kN ?_ _ | refine kD ?_ | refine kA ?_ _)); refine kF ?_ NB156_184.out _; (with_reducible repeat (first | refine kN ?_ _ | refine kD ?_ | refine kA ?_ _)); exact BK156.out) hb); have n10_ := Aside0.mk (kB (g := gb184) (o := .cells #[.int .i64 t176, .int .i64 t177, .slice Ao87 t178.length co87, .slice Ao88 t181.length co88] 30 (0, 0)) (by (with_reducible repeat (first | refine kN ?_ _ | refine kD ?_ | refine kA ?_ _)); refine blk_put (cs := #[.int .i64 t176, .int .i64 t177, .slice Ao87 t178.length co87, .slice none 0 0]) ?_ 3 _ rfl; (with_reducible repeat (first | refine kN ?_ _ | refine kD ?_ | refine kA ?_ _)); refine blk_put (cs := #[.int .i64 t176, .int .i64 t177, .slice none 0 0, .slice none 0 0]) ?_ 2 _ rfl; (with_reducible repeat (first | refine kN ?_ _ | refine kD ?_ | refine kA ?_ _)); refine blk_put (cs := #[.int .i64 t176, .int .i64 0, .slice none 0 0, .slice none 0 0]) ?_ 1 _ rfl; (with_reducible repeat (first | refine kN ?_ _ | refine kD ?_ | refine kA ?_ _)); refine blk_put (cs := #[.int .i64 0, .int .i64 0, .slice none 0 0, .slice none 0 0]) ?_ 0 _ rfl; (with_reducible repeat (first | refine kN ?_ _ | refine kD ?_ | refine kA ?_ _)); exact BK184.out) hb); have n11_ := Aside0.mk (bP z_ hb); clear HO163; clear HO166; clear HO171; clear HO174; clear HO180; clear HO183; clear BK155; clear BK156; clear BK184; clear HB; have HO163 := n0_; have HO166 := n1_; have HO171 := n2_; have HO174 := n3_; have HO180 := n4_; have HO183 := n5_; have HO189 := n6_; have HO192 := n7_; have BK155 := n8_; have BK156 := n9_; have BK184 := n10_; have HB := n11_; clear z_ n0_ n1_ n2_ n3_ n4_ n5_ n6_ n7_ n8_ n9_ n10_ n11_; (try clear hb); (try clear hb2); (try clear hk); (try clear hi); (try clear ho0); (try clear ho1)) | ((with_reducible refine gate_dst (N := 8) rfl ?_); refine bE ?hg (N := 8) ?hd (cs := #[.int .i64 0, .int .i64 0, .slice none 0 0, .slice none 0 0]) (t := 30) ?hr ?_; (case hd => rfl); (case hg => rfl); (case hr => first | (go_simp; done) | (go_simp; rfl)); intro gb193 hg w91 hbox hb; have z_ := bX hb (by repeat (first | (with_reducible first | exact HB.out | apply bA | apply bN | apply bD | refine bS ?_ GE155.out | refine bS ?_ GE156.out | refine bS ?_ GE184.out) | exact HB.out)); have n0_ := Aside0.mk (rB (rQ HO163) hb); have n1_ := Aside0.mk (rB (rQ HO166) hb); have n2_ := Aside0.mk (rB (rQ HO171) hb); have n3_ := Aside0.mk (rB (rQ HO174) hb); have n4_ := Aside0.mk (rB (rQ HO180) hb); have n5_ := Aside0.mk (rB (rQ HO183) hb); have n6_ := Aside0.mk (rB (rQ HO189) hb); have n7_ := Aside0.mk (rB (rQ HO192) hb); have n8_ := Aside0.mk (kB (kQ BK155) hb); have n9_ := Aside0.mk (kB (kQ BK156) hb); have n10_ := Aside0.mk (kB (kQ BK184) hb); have n11_ := Aside0.mk (bP z_ hb); have n12_ := Aside0.mk (hbox); have n13_ := Aside0.mk ((by rw [hg]; exact (bZ z_) : w.heap.size ≤ gb193)); have n14_ := Aside0.mk ((by rw [hg]; exact (bZ z_) : w.heap.size ≤ gb193)); have n15_ := Aside0.mk ((by rw [hg]; exact Nat.ne_of_lt (kL (kQ BK155)) : gb155 ≠ gb193)); have n16_ := Aside0.mk ((by rw [hg]; exact Nat.ne_of_gt (kL (kQ BK155)) : gb193 ≠ gb155)); have n17_ := Aside0.mk ((by rw [hg]; exact Nat.ne_of_lt (kL (kQ BK156)) : gb156 ≠ gb193)); have n18_ := Aside0.mk ((by rw [hg]; exact Nat.ne_of_gt (kL (kQ BK156)) : gb193 ≠ gb156)); have n19_ := Aside0.mk ((by rw [hg]; exact Nat.ne_of_lt (kL (kQ BK184)) : gb184 ≠ gb193)); have n20_ := Aside0.mk ((by rw [hg]; exact Nat.ne_of_gt (kL (kQ BK184)) : gb193 ≠ gb184)); clear HO163; clear HO166; clear HO171; clear HO174; clear HO180; clear HO183; clear HO189; clear HO192; clear BK155; clear BK156; clear BK184; clear HB; have HO163 := n0_; have HO166 := n1_; have HO171 := n2_; have HO174 := n3_; have HO180 := n4_; have HO183 := n5_; have HO189 := n6_; have HO192 := n7_; have BK155 := n8_; have BK156 := n9_; have BK184 := n10_; have HB := n11_; have BK193 := n12_; have GW193 := n13_; have GE193 := n14_; have NB155_193 := n15_; have NB193_155 := n16_; have NB156_193 := n17_; have NB193_156 := n18_; have NB184_193 := n19_; have NB193_184 := n20_; clear z_ n0_ n1_ n2_ n3_ n4_ n5_ n6_ n7_ n8_ n9_ n10_ n11_ n12_ n13_ n14_ n15_ n16_ n17_ n18_ n19_ n20_; clear hb hbox hg; have hnb92 := NB193_155.out; have hnc92 := NB155_193.out; have hnb93 := NB193_156.out; have hnc93 := NB156_193.out; have hnb94 := NB193_184.out; have hnc94 := NB184_193.out; have hcz95_0 : w91.cell? ⟨gb193, 0, none⟩ = some (.int .i64 0) := (kC BK193.out 0).trans rfl; have hcz95_1 : w91.cell? ⟨gb193, 1, none⟩ = some (.int .i64 0) := (kC BK193.out 1).trans rfl; have hcz95_2 : w91.cell? ⟨gb193, 2, none⟩ = some (.slice none 0 0) := (kC BK193.out 2).trans rfl; have hcz95_3 : w91.cell? ⟨gb193, 3, none⟩ = some (.slice none 0 0) := (kC BK193.out 3).trans rfl; have hfz95_0 := blk_frozen BK193.out 0; have hfz95_1 := blk_frozen BK193.out 1; have hfz95_2 := blk_frozen BK193.out 2; have hfz95_3 := blk_frozen BK193.out 3; obtain ⟨Ao96, co96, eo96⟩ := Kd.R_slice HO189.out; subst eo96; obtain ⟨Ao97, co97, eo97⟩ := Kd.R_slice HO192.out; subst eo97; have hcz98_0 : w91.cell? ⟨gb184, 0, none⟩ = some (.int .i64 t176) := (kC BK184.out 0).trans rfl; have hcz98_1 : w91.cell? ⟨gb184, 1, none⟩ = some (.int .i64 t177) := (kC BK184.out 1).trans rfl; have hcz98_2 : w91.cell? ⟨gb184, 2, none⟩ = some (.slice Ao87 t178.length co87) := (kC BK184.out 2).trans rfl; have hcz98_3 : w91.cell? ⟨gb184, 3, none⟩ = some (.slice Ao88 t181.length co88) := (kC BK184.out 3).trans rfl; have hfz98_0 := blk_frozen BK184.out 0; have hfz98_1 := blk_frozen BK184.out 1; have hfz98_2 := blk_frozen BK184.out 2; have hfz98_3 := blk_frozen BK184.out 3) | ((with_reducible refine gC (f := 18) rfl ?_); refine goesL_ (some 31) rfl rfl Try.func18 (by kernel_rfl) rfl #[.agg #[.int .i64 t176, .int .i64 t177, .slice Ao87 t178.length co87, .slice Ao88 t181.length co88], .agg #[.int .i64 t185, .int .i64 t186, .slice Ao96 t187.length co96, .slice Ao97 t190.length co97]] rfl lQ ?_; (with_reducible refine (impl_SameGrammar.calls k t176 t177 _ _ t178 _ _ t181 t185 t186 _ _ t187 _ _ t190 t194 _ ?side1 ?side2 ?side3 ?side4 ?side5 ?side6 ?side7 ?side8 A24.out).mono ?_); (case side1 => refine (Kd.R_reads' (e := 2) (base := w.heap.size) (ok := fun k_ => (((True ∧ some k_ ≠ (.slice Ao76 t161.length co76 : Value).ownBlock) ∧ some k_ ≠ (.slice Ao78 t169.length co78 : Value).ownBlock) ∧ some k_ ≠ (.slice Ao96 t187.length co96 : Value).ownBlock)) (n := t178.length) (c := co87) ?_).2.2; exact (by (with_reducible repeat (first | apply rA | apply rN | apply rD)); exact (rM (Kd.R_far (p := ⟨gb193, 3, none⟩) (Kd.R_far (p := ⟨gb193, 2, none⟩) (Kd.R_far (p := ⟨gb193, 1, none⟩) (Kd.R_far (p := ⟨gb193, 0, none⟩) (Kd.R_types HO180.out BK193.out (by decide)) (fun _ hk => hk.2) (.int .i64 t185)) (fun _ hk => hk.2) (.int .i64 t186)) (fun _ hk => hk.2) (.slice Ao96 t187.length co96)) (fun _ hk => hk.2) (.slice Ao97 t190.length co97)) (fun _ h_ => h_.1)))); (case side2 => exact (Kd.R_reads' HO180.out).2.1); (case side3 => refine (Kd.R_reads' (e := 67) (base := w.heap.size) (ok := fun k_ => (((True ∧ some k_ ≠ (.slice Ao77 t164.length co77 : Value).ownBlock) ∧ some k_ ≠ (.slice Ao79 t172.length co79 : Value).ownBlock) ∧ some k_ ≠ (.slice Ao97 t190.length co97 : Value).ownBlock)) (n := t181.length) (c := co88) ?_).2.2; exact (by (with_reducible repeat (first | apply rA | apply rN | apply rD)); exact (rM (Kd.R_far (p := ⟨gb193, 3, none⟩) (Kd.R_far (p := ⟨gb193, 2, none⟩) (Kd.R_far (p := ⟨gb193, 1, none⟩) (Kd.R_far (p := ⟨gb193, 0, none⟩) (Kd.R_types HO183.out BK193.out (by decide)) (fun _ hk => hk.2) (.int .i64 t185)) (fun _ hk => hk.2) (.int .i64 t186)) (fun _ hk => hk.2) (.slice Ao96 t187.length co96)) (fun _ hk => hk.2) (.slice Ao97 t190.length co97)) (fun _ h_ => h_.1)))); (case side4 => exact (Kd.R_reads' HO183.out).2.1); (case side5 => refine (Kd.R_reads' (e := 2) (base := w.heap.size) (ok := fun k_ => (((True ∧ some k_ ≠ (.slice Ao76 t161.length co76 : Value).ownBlock) ∧ some k_ ≠ (.slice Ao78 t169.length co78 : Value).ownBlock) ∧ some k_ ≠ (.slice Ao87 t178.length co87 : Value).ownBlock)) (n := t187.length) (c := co96) ?_).2.2; exact (by (with_reducible repeat (first | apply rA | apply rN | apply rD)); exact (rM (Kd.R_far (p := ⟨gb193, 3, none⟩) (Kd.R_far (p := ⟨gb193, 2, none⟩) (Kd.R_far (p := ⟨gb193, 1, none⟩) (Kd.R_far (p := ⟨gb193, 0, none⟩) (Kd.R_types HO189.out BK193.out (by decide)) (fun _ hk => hk.2) (.int .i64 t185)) (fun _ hk => hk.2) (.int .i64 t186)) (fun _ hk => hk.2) (.slice Ao96 t187.length co96)) (fun _ hk => hk.2) (.slice Ao97 t190.length co97)) (fun _ h_ => h_.1)))); (case side6 => exact (Kd.R_reads' HO189.out).2.1); (case side7 => refine (Kd.R_reads' (e := 67) (base := w.heap.size) (ok := fun k_ => (((True ∧ some k_ ≠ (.slice Ao77 t164.length co77 : Value).ownBlock) ∧ some k_ ≠ (.slice Ao79 t172.length co79 : Value).ownBlock) ∧ some k_ ≠ (.slice Ao88 t181.length co88 : Value).ownBlock)) (n := t190.length) (c := co97) ?_).2.2; exact (by (with_reducible repeat (first | apply rA | apply rN | apply rD)); exact (rM (Kd.R_far (p := ⟨gb193, 3, none⟩) (Kd.R_far (p := ⟨gb193, 2, none⟩) (Kd.R_far (p := ⟨gb193, 1, none⟩) (Kd.R_far (p := ⟨gb193, 0, none⟩) (Kd.R_types HO192.out BK193.out (by decide)) (fun _ hk => hk.2) (.int .i64 t185)) (fun _ hk => hk.2) (.int .i64 t186)) (fun _ hk => hk.2) (.slice Ao96 t187.length co96)) (fun _ hk => hk.2) (.slice Ao97 t190.length co97)) (fun _ h_ => h_.1)))); (case side8 => exact (Kd.R_reads' HO192.out).2.1); rintro e w99 ⟨rfl, hb⟩; refine ⟨_, rfl, ?_⟩; have n0_ := Aside0.mk (rB (by (with_reducible repeat (first | apply rA | apply rN | apply rD)); exact (rM (Kd.R_far (p := ⟨gb193, 3, none⟩) (Kd.R_far (p := ⟨gb193, 2, none⟩) (Kd.R_far (p := ⟨gb193, 1, none⟩) (Kd.R_far (p := ⟨gb193, 0, none⟩) (Kd.R_types HO163.out BK193.out (by decide)) (fun _ hk => hk.2) (.int .i64 t185)) (fun _ hk => hk.2) (.int .i64 t186)) (fun _ hk => hk.2) (.slice Ao96 t187.length co96)) (fun _ hk => hk.2) (.slice Ao97 t190.length co97)) (fun _ h_ => h_.1))) hb); have n1_ := Aside0.mk (rB (by (with_reducible repeat (first | apply rA | apply rN | apply rD)); exact (rM (Kd.R_far (p := ⟨gb193, 3, none⟩) (Kd.R_far (p := ⟨gb193, 2, none⟩) (Kd.R_far (p := ⟨gb193, 1, none⟩) (Kd.R_far (p := ⟨gb193, 0, none⟩) (Kd.R_types HO166.out BK193.out (by decide)) (fun _ hk => hk.2) (.int .i64 t185)) (fun _ hk => hk.2) (.int .i64 t186)) (fun _ hk => hk.2) (.slice Ao96 t187.length co96)) (fun _ hk => hk.2) (.slice Ao97 t190.length co97)) (fun _ h_ => h_.1))) hb); have n2_ := Aside0.mk (rB (by (with_reducible repeat (first | apply rA | apply rN | apply rD)); exact (rM (Kd.R_far (p := ⟨gb193, 3, none⟩) (Kd.R_far (p := ⟨gb193, 2, none⟩) (Kd.R_far (p := ⟨gb193, 1, none⟩) (Kd.R_far (p := ⟨gb193, 0, none⟩) (Kd.R_types HO171.out BK193.out (by decide)) (fun _ hk => hk.2) (.int .i64 t185)) (fun _ hk => hk.2) (.int .i64 t186)) (fun _ hk => hk.2) (.slice Ao96 t187.length co96)) (fun _ hk => hk.2) (.slice Ao97 t190.length co97)) (fun _ h_ => h_.1))) hb); have n3_ := Aside0.mk (rB (by (with_reducible repeat (first | apply rA | apply rN | apply rD)); exact (rM (Kd.R_far (p := ⟨gb193, 3, none⟩) (Kd.R_far (p := ⟨gb193, 2, none⟩) (Kd.R_far (p := ⟨gb193, 1, none⟩) (Kd.R_far (p := ⟨gb193, 0, none⟩) (Kd.R_types HO174.out BK193.out (by decide)) (fun _ hk => hk.2) (.int .i64 t185)) (fun _ hk => hk.2) (.int .i64 t186)) (fun _ hk => hk.2) (.slice Ao96 t187.length co96)) (fun _ hk => hk.2) (.slice Ao97 t190.length co97)) (fun _ h_ => h_.1))) hb); have n4_ := Aside0.mk (rB (by (with_reducible repeat (first | apply rA | apply rN | apply rD)); exact (rM (Kd.R_far (p := ⟨gb193, 3, none⟩) (Kd.R_far (p := ⟨gb193, 2, none⟩) (Kd.R_far (p := ⟨gb193, 1, none⟩) (Kd.R_far (p := ⟨gb193, 0, none⟩) (Kd.R_types HO180.out BK193.out (by decide)) (fun _ hk => hk.2) (.int .i64 t185)) (fun _ hk => hk.2) (.int .i64 t186)) (fun _ hk => hk.2) (.slice Ao96 t187.length co96)) (fun _ hk => hk.2) (.slice Ao97 t190.length co97)) (fun _ h_ => h_.1))) hb); have n5_ := Aside0.mk (rB (by (with_reducible repeat (first | apply rA | apply rN | apply rD)); exact (rM (Kd.R_far (p := ⟨gb193, 3, none⟩) (Kd.R_far (p := ⟨gb193, 2, none⟩) (Kd.R_far (p := ⟨gb193, 1, none⟩) (Kd.R_far (p := ⟨gb193, 0, none⟩) (Kd.R_types HO183.out BK193.out (by decide)) (fun _ hk => hk.2) (.int .i64 t185)) (fun _ hk => hk.2) (.int .i64 t186)) (fun _ hk => hk.2) (.slice Ao96 t187.length co96)) (fun _ hk => hk.2) (.slice Ao97 t190.length co97)) (fun _ h_ => h_.1))) hb); have n6_ := Aside0.mk (rB (by (with_reducible repeat (first | apply rA | apply rN | apply rD)); exact (rM (Kd.R_far (p := ⟨gb193, 3, none⟩) (Kd.R_far (p := ⟨gb193, 2, none⟩) (Kd.R_far (p := ⟨gb193, 1, none⟩) (Kd.R_far (p := ⟨gb193, 0, none⟩) (Kd.R_types HO189.out BK193.out (by decide)) (fun _ hk => hk.2) (.int .i64 t185)) (fun _ hk => hk.2) (.int .i64 t186)) (fun _ hk => hk.2) (.slice Ao96 t187.length co96)) (fun _ hk => hk.2) (.slice Ao97 t190.length co97)) (fun _ h_ => h_.1))) hb); have n7_ := Aside0.mk (rB (by (with_reducible repeat (first | apply rA | apply rN | apply rD)); exact (rM (Kd.R_far (p := ⟨gb193, 3, none⟩) (Kd.R_far (p := ⟨gb193, 2, none⟩) (Kd.R_far (p := ⟨gb193, 1, none⟩) (Kd.R_far (p := ⟨gb193, 0, none⟩) (Kd.R_types HO192.out BK193.out (by decide)) (fun _ hk => hk.2) (.int .i64 t185)) (fun _ hk => hk.2) (.int .i64 t186)) (fun _ hk => hk.2) (.slice Ao96 t187.length co96)) (fun _ hk => hk.2) (.slice Ao97 t190.length co97)) (fun _ h_ => h_.1))) hb); have n8_ := Aside0.mk (kB (g := gb155) (o := .cells #[.int .i64 a0_0, .int .i64 a0_1, .slice A0_2 l0_2.length c0_2, .slice A0_3 l0_3.length c0_3] 25 (0, 0)) (by (with_reducible repeat (first | refine kN ?_ _ | refine kD ?_ | refine kA ?_ _)); refine kF ?_ NB155_193.out _; (with_reducible repeat (first | refine kN ?_ _ | refine kD ?_ | refine kA ?_ _)); refine kF ?_ NB155_193.out _; (with_reducible repeat (first | refine kN ?_ _ | refine kD ?_ | refine kA ?_ _)); refine kF ?_ NB155_193.out _; (with_reducible repeat (first | refine kN ?_ _ | refine kD ?_ | refine kA ?_ _)); refine kF ?_ NB155_193.out _; (with_reducible repeat (first | refine kN ?_ _ | refine kD ?_ | refine kA ?_ _)); exact BK155.out) hb); have n9_ := Aside0.mk (kB (g := gb156) (o := .cells #[.int .i64 a1_0, .int .i64 a1_1, .slice A1_2 l1_2.length c1_2, .slice A1_3 l1_3.length c1_3] 25 (0, 0)) (by (with_reducible repeat (first | refine kN ?_ _ | refine kD ?_ | refine kA ?_ _)); refine kF ?_ NB156_193.out _; (with_reducible repeat (first | refine kN ?_ _ | refine kD ?_ | refine kA ?_ _)); refine kF ?_ NB156_193.out _; (with_reducible repeat (first | refine kN ?_ _ | refine kD ?_ | refine kA ?_ _)); refine kF ?_ NB156_193.out _; (with_reducible repeat (first | refine kN ?_ _ | refine kD ?_ | refine kA ?_ _)); refine kF ?_ NB156_193.out _; (with_reducible repeat (first | refine kN ?_ _ | refine kD ?_ | refine kA ?_ _)); exact BK156.out) hb); have n10_ := Aside0.mk (kB (g := gb184) (o := .cells #[.int .i64 t176, .int .i64 t177, .slice Ao87 t178.length co87, .slice Ao88 t181.length co88] 30 (0, 0)) (by (with_reducible repeat (first | refine kN ?_ _ | refine kD ?_ | refine kA ?_ _)); refine kF ?_ NB184_193.out _; (with_reducible repeat (first | refine kN ?_ _ | refine kD ?_ | refine kA ?_ _)); refine kF ?_ NB184_193.out _; (with_reducible repeat (first | refine kN ?_ _ | refine kD ?_ | refine kA ?_ _)); refine kF ?_ NB184_193.out _; (with_reducible repeat (first | refine kN ?_ _ | refine kD ?_ | refine kA ?_ _)); refine kF ?_ NB184_193.out _; (with_reducible repeat (first | refine kN ?_ _ | refine kD ?_ | refine kA ?_ _)); exact BK184.out) hb); have n11_ := Aside0.mk (kB (g := gb193) (o := .cells #[.int .i64 t185, .int .i64 t186, .slice Ao96 t187.length co96, .slice Ao97 t190.length co97] 30 (0, 0)) (by (with_reducible repeat (first | refine kN ?_ _ | refine kD ?_ | refine kA ?_ _)); refine blk_put (cs := #[.int .i64 t185, .int .i64 t186, .slice Ao96 t187.length co96, .slice none 0 0]) ?_ 3 _ rfl; (with_reducible repeat (first | refine kN ?_ _ | refine kD ?_ | refine kA ?_ _)); refine blk_put (cs := #[.int .i64 t185, .int .i64 t186, .slice none 0 0, .slice none 0 0]) ?_ 2 _ rfl; (with_reducible repeat (first | refine kN ?_ _ | refine kD ?_ | refine kA ?_ _)); refine blk_put (cs := #[.int .i64 t185, .int .i64 0, .slice none 0 0, .slice none 0 0]) ?_ 1 _ rfl; (with_reducible repeat (first | refine kN ?_ _ | refine kD ?_ | refine kA ?_ _)); refine blk_put (cs := #[.int .i64 0, .int .i64 0, .slice none 0 0, .slice none 0 0]) ?_ 0 _ rfl; (with_reducible repeat (first | refine kN ?_ _ | refine kD ?_ | refine kA ?_ _)); exact BK193.out) hb); have n12_ := Aside0.mk (bP (by repeat (first | (with_reducible first | exact HB.out | apply bA | apply bN | apply bD | refine bS ?_ GE155.out | refine bS ?_ GE156.out | refine bS ?_ GE184.out | refine bS ?_ GE193.out) | exact HB.out)) hb); clear HO163; clear HO166; clear HO171; clear HO174; clear HO180; clear HO183; clear HO189; clear HO192; clear BK155; clear BK156; clear BK184; clear BK193; clear HB; have HO163 := n0_; have HO166 := n1_; have HO171 := n2_; have HO174 := n3_; have HO180 := n4_; have HO183 := n5_; have HO189 := n6_; have HO192 := n7_; have BK155 := n8_; have BK156 := n9_; have BK184 := n10_; have BK193 := n11_; have HB := n12_; clear n0_ n1_ n2_ n3_ n4_ n5_ n6_ n7_ n8_ n9_ n10_ n11_ n12_; (try clear hb); (try clear hb2); (try clear hk); (try clear hi)))
      have n0_ := Aside0.mk (rD HO163.out)
      have n1_ := Aside0.mk (rD HO166.out)
      have n2_ := Aside0.mk (rD HO171.out)
      have n3_ := Aside0.mk (rD HO174.out)
      have n4_ := Aside0.mk (rD HO180.out)
      have n5_ := Aside0.mk (rD HO183.out)
      have n6_ := Aside0.mk (rD HO189.out)
      have n7_ := Aside0.mk (rD HO192.out)
      have n8_ := Aside0.mk (kD BK155.out)
      have n9_ := Aside0.mk (kD BK156.out)
      have n10_ := Aside0.mk (kD BK184.out)
      have n11_ := Aside0.mk (kD BK193.out)
      have n12_ := Aside0.mk (bD HB.out)
      clear HO163
      clear HO166
      clear HO171
      clear HO174
      clear HO180
      clear HO183
      clear HO189
      clear HO192
      clear BK155
      clear BK156
      clear BK184
      clear BK193
      clear HB
      have HO163 := n0_
      have HO166 := n1_
      have HO171 := n2_
      have HO174 := n3_
      have HO180 := n4_
      have HO183 := n5_
      have HO189 := n6_
      have HO192 := n7_
      have BK155 := n8_
      have BK156 := n9_
      have BK184 := n10_
      have BK193 := n11_
      have HB := n12_
      clear n0_ n1_ n2_ n3_ n4_ n5_ n6_ n7_ n8_ n9_ n10_ n11_ n12_
      refine start_ (n := 5) (S := fun w' => w'.cell? ⟨gb184, 0, none⟩ = some (.int .i64 t176) ∧ w'.cell? ⟨gb184, 1, none⟩ = some (.int .i64 t177) ∧ w'.cell? ⟨gb184, 2, none⟩ = some (.slice Ao87 t178.length co87) ∧ w'.cell? ⟨gb184, 3, none⟩ = some (.slice Ao88 t181.length co88) ∧ w'.cell? ⟨gb155, 0, none⟩ = some (.int .i64 a0_0) ∧ w'.cell? ⟨gb155, 1, none⟩ = some (.int .i64 a0_1) ∧ w'.cell? ⟨gb155, 2, none⟩ = some (.slice A0_2 l0_2.length c0_2) ∧ w'.cell? ⟨gb155, 3, none⟩ = some (.slice A0_3 l0_3.length c0_3)) (ds := []) #[F,F,F,F,F] (by kernel_rfl) rfl rfl ⟨(kC BK184.out 0).trans rfl, (kC BK184.out 1).trans rfl, (kC BK184.out 2).trans rfl, (kC BK184.out 3).trans rfl, (kC BK155.out 0).trans rfl, (kC BK155.out 1).trans rfl, (kC BK155.out 2).trans rfl, (kC BK155.out 3).trans rfl⟩ (fun hHeld => ?_)
      generalize w99.drew = w100 at HO163 HO166 HO171 HO174 HO180 HO183 HO189 HO192 BK155 BK156 BK184 BK193 HB hHeld ⊢
      refine take_ (i := 0) (N := some 35) (v := ?_) (a' := ?_) #[T,F,F,F,F] rfl rfl (by kernel_rfl) (fun _ _ _ h => h) (Or.inl ⟨by rfl, ?_⟩) hHeld ?_ ?_; rotate_left; (·rintro w' ⟨s0, s1, s2, s3, s4, s5, s6, s7⟩; go_simp; with_reducible rfl); rotate_left; (·simp only [Act.put, sI, sZ, sS, iW, jW]; rfl)
      refine take_ (i := 1) (N := some 36) (v := ?_) (a' := ?_) #[T,T,F,F,F] rfl rfl (by kernel_rfl) (fun _ _ _ h => h) (Or.inl ⟨by rfl, ?_⟩) hHeld ?_ ?_; rotate_left; (·rintro w' ⟨s0, s1, s2, s3, s4, s5, s6, s7⟩; go_simp; with_reducible rfl); rotate_left; (·simp only [Act.put, sI, sZ, sS, iW, jW]; rfl)
      refine one_ (i := 2) (N := some 37) #[T,T,T,F,F] rfl rfl (by kernel_rfl) (by decide) (fun K hK => ?_)
      refine goes_ Try.func17 (by kernel_rfl) rfl #[.agg #[.int .i64 a0_0, .int .i64 a0_1, .slice A0_2 l0_2.length c0_2, .slice A0_3 l0_3.length c0_3]] (by rfl) rfl rfl lQ ?_
      with_reducible refine (laws_toGrammar.calls k a0_0 a0_1 _ _ l0_2 _ _ l0_3 t195 t196 t197 t200 _ ?side1 ?side2 ?side3 ?side4 A60.out).mono ?_
      (case side1 => repeat (first | exact (cB HR0_2.out HB.out) | (with_reducible refine cA ?_ _) | (with_reducible refine cN ?_ _) | (with_reducible refine cD ?_)))
      (case side2 => exact HC0_2.out)
      (case side3 => repeat (first | exact (cB HR0_3.out HB.out) | (with_reducible refine cA ?_ _) | (with_reducible refine cN ?_ _) | (with_reducible refine cD ?_)))
      (case side4 => exact HC0_3.out)
      rintro e w101 ⟨v198, v201, rfl, ho0, ho1, hb⟩
      refine ⟨_, rfl, ?_⟩
      have z_ := bX hb (by repeat (first | (with_reducible first | exact HB.out | apply bA | apply bN | apply bD | refine bS ?_ GE155.out | refine bS ?_ GE156.out | refine bS ?_ GE184.out | refine bS ?_ GE193.out) | exact HB.out))
      have n0_ := Aside0.mk (rE (rQ HO163) (Kd.R_base ho0) hb)
      have n1_ := Aside0.mk (rE (rQ HO166) (Kd.R_base ho1) hb)
      have n2_ := Aside0.mk (rE (rQ HO171) (Kd.R_base ho0) hb)
      have n3_ := Aside0.mk (rE (rQ HO174) (Kd.R_base ho1) hb)
      have n4_ := Aside0.mk (rE (rQ HO180) (Kd.R_base ho0) hb)
      have n5_ := Aside0.mk (rE (rQ HO183) (Kd.R_base ho1) hb)
      have n6_ := Aside0.mk (rE (rQ HO189) (Kd.R_base ho0) hb)
      have n7_ := Aside0.mk (rE (rQ HO192) (Kd.R_base ho1) hb)
      have n8_ := Aside0.mk (rL (rW (rW (rW (rW ho0 (rT (rQ HO163))) (rT (rQ HO171))) (rT (rQ HO180))) (rT (rQ HO189))) (bZ z_))
      have n9_ := Aside0.mk (rL (rW (rW (rW (rW ho1 (rT (rQ HO166))) (rT (rQ HO174))) (rT (rQ HO183))) (rT (rQ HO192))) (bZ z_))
      have n10_ := Aside0.mk (kB (kQ BK155) hb)
      have n11_ := Aside0.mk (kB (kQ BK156) hb)
      have n12_ := Aside0.mk (kB (kQ BK184) hb)
      have n13_ := Aside0.mk (kB (kQ BK193) hb)
      have n14_ := Aside0.mk (bP z_ hb)
      clear HO163
      clear HO166
      clear HO171
      clear HO174
      clear HO180
      clear HO183
      clear HO189
      clear HO192
      clear BK155
      clear BK156
      clear BK184
      clear BK193
      clear HB
      have HO163 := n0_
      have HO166 := n1_
      have HO171 := n2_
      have HO174 := n3_
      have HO180 := n4_
      have HO183 := n5_
      have HO189 := n6_
      have HO192 := n7_
      have HO199 := n8_
      have HO202 := n9_
      have BK155 := n10_
      have BK156 := n11_
      have BK184 := n12_
      have BK193 := n13_
      have HB := n14_
      clear z_ n0_ n1_ n2_ n3_ n4_ n5_ n6_ n7_ n8_ n9_ n10_ n11_ n12_ n13_ n14_
      (try clear hb)
      (try clear hb2)
      (try clear hk)
      (try clear hi)
      (try clear ho0)
      (try clear ho1)
      obtain ⟨Ao102, co102, eo102⟩ := Kd.R_slice HO199.out
      (first | subst eo102 | (injection eo102 with f1_ f2_ f3_; have f4_ := f1_.symm; have f5_ := f3_.symm; clear f1_ f2_ f3_; subst f4_; subst f5_))
      obtain ⟨Ao103, co103, eo103⟩ := Kd.R_slice HO202.out
      (first | subst eo103 | (injection eo103 with f1_ f2_ f3_; have f4_ := f1_.symm; have f5_ := f3_.symm; clear f1_ f2_ f3_; subst f4_; subst f5_))
      refine hK.out _ _ ⟨(kC BK184.out 0).trans rfl, (kC BK184.out 1).trans rfl, (kC BK184.out 2).trans rfl, (kC BK184.out 3).trans rfl, (kC BK155.out 0).trans rfl, (kC BK155.out 1).trans rfl, (kC BK155.out 2).trans rfl, (kC BK155.out 3).trans rfl⟩ (fun hHeld => ?_)
      clear hK K
      refine norm_ (a' := ?_) ?_ ?_
      rotate_left
      ·show Act.put _ (some 37) _ = _
       simp only [Act.put, sI, sZ, sS, iW, jW]
       rfl
      refine one_ (i := 3) (N := some 38) #[T,T,T,T,F] rfl rfl (by kernel_rfl) (by decide) (fun K hK => ?_)
      refine goes_ Try.func19 (by kernel_rfl) rfl #[.agg #[.int .i64 t176, .int .i64 t177, .slice Ao87 t178.length co87, .slice Ao88 t181.length co88], .agg #[.int .i64 t195, .int .i64 t196, .slice Ao102 t197.length co102, .slice Ao103 t200.length co103]] (by rfl) rfl rfl lQ ?_
      with_reducible refine (laws_eqGrammar.calls k t176 t177 _ _ t178 _ _ t181 t195 t196 _ _ t197 _ _ t200 true _ ?side1 ?side2 ?side3 ?side4 ?side5 ?side6 ?side7 ?side8 A61.out).mono ?_
      (case side1 => repeat (first | exact (Kd.R_reads' HO180.out).2.2 | (with_reducible refine cA ?_ _) | (with_reducible refine cN ?_ _) | (with_reducible refine cD ?_)))
      (case side2 => exact (Kd.R_reads' HO180.out).2.1)
      (case side3 => repeat (first | exact (Kd.R_reads' HO183.out).2.2 | (with_reducible refine cA ?_ _) | (with_reducible refine cN ?_ _) | (with_reducible refine cD ?_)))
      (case side4 => exact (Kd.R_reads' HO183.out).2.1)
      (case side5 => repeat (first | exact (Kd.R_reads' HO199.out).2.2 | (with_reducible refine cA ?_ _) | (with_reducible refine cN ?_ _) | (with_reducible refine cD ?_)))
      (case side6 => exact (Kd.R_reads' HO199.out).2.1)
      (case side7 => repeat (first | exact (Kd.R_reads' HO202.out).2.2 | (with_reducible refine cA ?_ _) | (with_reducible refine cN ?_ _) | (with_reducible refine cD ?_)))
      (case side8 => exact (Kd.R_reads' HO202.out).2.1)
      rintro e w104 ⟨rfl, hb⟩
      refine ⟨_, rfl, ?_⟩
      have n0_ := Aside0.mk (rB (rQ HO163) hb)
      have n1_ := Aside0.mk (rB (rQ HO166) hb)
      have n2_ := Aside0.mk (rB (rQ HO171) hb)
      have n3_ := Aside0.mk (rB (rQ HO174) hb)
      have n4_ := Aside0.mk (rB (rQ HO180) hb)
      have n5_ := Aside0.mk (rB (rQ HO183) hb)
      have n6_ := Aside0.mk (rB (rQ HO189) hb)
      have n7_ := Aside0.mk (rB (rQ HO192) hb)
      have n8_ := Aside0.mk (rB (rQ HO199) hb)
      have n9_ := Aside0.mk (rB (rQ HO202) hb)
      have n10_ := Aside0.mk (kB (kQ BK155) hb)
      have n11_ := Aside0.mk (kB (kQ BK156) hb)
      have n12_ := Aside0.mk (kB (kQ BK184) hb)
      have n13_ := Aside0.mk (kB (kQ BK193) hb)
      have n14_ := Aside0.mk (bP (by repeat (first | (with_reducible first | exact HB.out | apply bA | apply bN | apply bD | refine bS ?_ GE155.out | refine bS ?_ GE156.out | refine bS ?_ GE184.out | refine bS ?_ GE193.out) | exact HB.out)) hb)
      clear HO163
      clear HO166
      clear HO171
      clear HO174
      clear HO180
      clear HO183
      clear HO189
      clear HO192
      clear HO199
      clear HO202
      clear BK155
      clear BK156
      clear BK184
      clear BK193
      clear HB
      have HO163 := n0_
      have HO166 := n1_
      have HO171 := n2_
      have HO174 := n3_
      have HO180 := n4_
      have HO183 := n5_
      have HO189 := n6_
      have HO192 := n7_
      have HO199 := n8_
      have HO202 := n9_
      have BK155 := n10_
      have BK156 := n11_
      have BK184 := n12_
      have BK193 := n13_
      have HB := n14_
      clear n0_ n1_ n2_ n3_ n4_ n5_ n6_ n7_ n8_ n9_ n10_ n11_ n12_ n13_ n14_
      (try clear hb)
      (try clear hb2)
      (try clear hk)
      (try clear hi)
      refine hK.out _ _ ⟨(kC BK184.out 0).trans rfl, (kC BK184.out 1).trans rfl, (kC BK184.out 2).trans rfl, (kC BK184.out 3).trans rfl, (kC BK155.out 0).trans rfl, (kC BK155.out 1).trans rfl, (kC BK155.out 2).trans rfl, (kC BK155.out 3).trans rfl⟩ (fun hHeld => ?_)
      clear hK K
      refine norm_ (a' := ?_) ?_ ?_
      rotate_left
      ·show Act.put _ (some 38) _ = _
       simp only [Act.put, sI, sZ, sS, iW, jW]
       rfl
      refine pure_ (i := 4) (N := some 39) (v := ?_) (a' := ?_) #[T,T,T,T,T] rfl rfl (by kernel_rfl) (fun _ _ _ h => h) (Or.inl ⟨by rfl, ?_⟩) ?_ ?_; rotate_left; (·intro w'; go_simp; with_reducible rfl); rotate_left; (·simp only [Act.put, sI, sZ, sS, iW, jW]; rfl)
      refine done_ (by kernel_rfl) ?_
      try go_wp2
      have n0_ := Aside0.mk (rD HO163.out)
      have n1_ := Aside0.mk (rD HO166.out)
      have n2_ := Aside0.mk (rD HO171.out)
      have n3_ := Aside0.mk (rD HO174.out)
      have n4_ := Aside0.mk (rD HO180.out)
      have n5_ := Aside0.mk (rD HO183.out)
      have n6_ := Aside0.mk (rD HO189.out)
      have n7_ := Aside0.mk (rD HO192.out)
      have n8_ := Aside0.mk (rD HO199.out)
      have n9_ := Aside0.mk (rD HO202.out)
      have n10_ := Aside0.mk (kD BK155.out)
      have n11_ := Aside0.mk (kD BK156.out)
      have n12_ := Aside0.mk (kD BK184.out)
      have n13_ := Aside0.mk (kD BK193.out)
      have n14_ := Aside0.mk (bD HB.out)
      clear HO163
      clear HO166
      clear HO171
      clear HO174
      clear HO180
      clear HO183
      clear HO189
      clear HO192
      clear HO199
      clear HO202
      clear BK155
      clear BK156
      clear BK184
      clear BK193
      clear HB
      have HO163 := n0_
      have HO166 := n1_
      have HO171 := n2_
      have HO174 := n3_
      have HO180 := n4_
      have HO183 := n5_
      have HO189 := n6_
      have HO192 := n7_
      have HO199 := n8_
      have HO202 := n9_
      have BK155 := n10_
      have BK156 := n11_
      have BK184 := n12_
      have BK193 := n13_
      have HB := n14_
      clear n0_ n1_ n2_ n3_ n4_ n5_ n6_ n7_ n8_ n9_ n10_ n11_ n12_ n13_ n14_
      refine start_ (n := 5) (S := fun w' => w'.cell? ⟨gb193, 0, none⟩ = some (.int .i64 t185) ∧ w'.cell? ⟨gb193, 1, none⟩ = some (.int .i64 t186) ∧ w'.cell? ⟨gb193, 2, none⟩ = some (.slice Ao96 t187.length co96) ∧ w'.cell? ⟨gb193, 3, none⟩ = some (.slice Ao97 t190.length co97) ∧ w'.cell? ⟨gb156, 0, none⟩ = some (.int .i64 a1_0) ∧ w'.cell? ⟨gb156, 1, none⟩ = some (.int .i64 a1_1) ∧ w'.cell? ⟨gb156, 2, none⟩ = some (.slice A1_2 l1_2.length c1_2) ∧ w'.cell? ⟨gb156, 3, none⟩ = some (.slice A1_3 l1_3.length c1_3)) (ds := []) #[F,F,F,F,F] (by kernel_rfl) rfl rfl ⟨(kC BK193.out 0).trans rfl, (kC BK193.out 1).trans rfl, (kC BK193.out 2).trans rfl, (kC BK193.out 3).trans rfl, (kC BK156.out 0).trans rfl, (kC BK156.out 1).trans rfl, (kC BK156.out 2).trans rfl, (kC BK156.out 3).trans rfl⟩ (fun hHeld => ?_)
      generalize w104.drew = w105 at HO163 HO166 HO171 HO174 HO180 HO183 HO189 HO192 HO199 HO202 BK155 BK156 BK184 BK193 HB hHeld ⊢
      refine take_ (i := 0) (N := some 40) (v := ?_) (a' := ?_) #[T,F,F,F,F] rfl rfl (by kernel_rfl) (fun _ _ _ h => h) (Or.inl ⟨by rfl, ?_⟩) hHeld ?_ ?_; rotate_left; (·rintro w' ⟨s0, s1, s2, s3, s4, s5, s6, s7⟩; go_simp; with_reducible rfl); rotate_left; (·simp only [Act.put, sI, sZ, sS, iW, jW]; rfl)
      refine take_ (i := 1) (N := some 41) (v := ?_) (a' := ?_) #[T,T,F,F,F] rfl rfl (by kernel_rfl) (fun _ _ _ h => h) (Or.inl ⟨by rfl, ?_⟩) hHeld ?_ ?_; rotate_left; (·rintro w' ⟨s0, s1, s2, s3, s4, s5, s6, s7⟩; go_simp; with_reducible rfl); rotate_left; (·simp only [Act.put, sI, sZ, sS, iW, jW]; rfl)
      refine one_ (i := 2) (N := some 42) #[T,T,T,F,F] rfl rfl (by kernel_rfl) (by decide) (fun K hK => ?_)
      refine goes_ Try.func17 (by kernel_rfl) rfl #[.agg #[.int .i64 a1_0, .int .i64 a1_1, .slice A1_2 l1_2.length c1_2, .slice A1_3 l1_3.length c1_3]] (by rfl) rfl rfl lQ ?_
      with_reducible refine (laws_toGrammar.calls k a1_0 a1_1 _ _ l1_2 _ _ l1_3 t204 t205 t206 t209 _ ?side1 ?side2 ?side3 ?side4 A63.out).mono ?_
      (case side1 => repeat (first | exact (cB HR1_2.out HB.out) | (with_reducible refine cA ?_ _) | (with_reducible refine cN ?_ _) | (with_reducible refine cD ?_)))
      (case side2 => exact HC1_2.out)
      (case side3 => repeat (first | exact (cB HR1_3.out HB.out) | (with_reducible refine cA ?_ _) | (with_reducible refine cN ?_ _) | (with_reducible refine cD ?_)))
      (case side4 => exact HC1_3.out)
      rintro e w106 ⟨v207, v210, rfl, ho0, ho1, hb⟩
      refine ⟨_, rfl, ?_⟩
      have z_ := bX hb (by repeat (first | (with_reducible first | exact HB.out | apply bA | apply bN | apply bD | refine bS ?_ GE155.out | refine bS ?_ GE156.out | refine bS ?_ GE184.out | refine bS ?_ GE193.out) | exact HB.out))
      have n0_ := Aside0.mk (rE (rQ HO163) (Kd.R_base ho0) hb)
      have n1_ := Aside0.mk (rE (rQ HO166) (Kd.R_base ho1) hb)
      have n2_ := Aside0.mk (rE (rQ HO171) (Kd.R_base ho0) hb)
      have n3_ := Aside0.mk (rE (rQ HO174) (Kd.R_base ho1) hb)
      have n4_ := Aside0.mk (rE (rQ HO180) (Kd.R_base ho0) hb)
      have n5_ := Aside0.mk (rE (rQ HO183) (Kd.R_base ho1) hb)
      have n6_ := Aside0.mk (rE (rQ HO189) (Kd.R_base ho0) hb)
      have n7_ := Aside0.mk (rE (rQ HO192) (Kd.R_base ho1) hb)
      have n8_ := Aside0.mk (rE (rQ HO199) (Kd.R_base ho0) hb)
      have n9_ := Aside0.mk (rE (rQ HO202) (Kd.R_base ho1) hb)
      have n10_ := Aside0.mk (rL (rW (rW (rW (rW (rW ho0 (rT (rQ HO163))) (rT (rQ HO171))) (rT (rQ HO180))) (rT (rQ HO189))) (rT (rQ HO199))) (bZ z_))
      have n11_ := Aside0.mk (rL (rW (rW (rW (rW (rW ho1 (rT (rQ HO166))) (rT (rQ HO174))) (rT (rQ HO183))) (rT (rQ HO192))) (rT (rQ HO202))) (bZ z_))
      have n12_ := Aside0.mk (kB (kQ BK155) hb)
      have n13_ := Aside0.mk (kB (kQ BK156) hb)
      have n14_ := Aside0.mk (kB (kQ BK184) hb)
      have n15_ := Aside0.mk (kB (kQ BK193) hb)
      have n16_ := Aside0.mk (bP z_ hb)
      clear HO163
      clear HO166
      clear HO171
      clear HO174
      clear HO180
      clear HO183
      clear HO189
      clear HO192
      clear HO199
      clear HO202
      clear BK155
      clear BK156
      clear BK184
      clear BK193
      clear HB
      have HO163 := n0_
      have HO166 := n1_
      have HO171 := n2_
      have HO174 := n3_
      have HO180 := n4_
      have HO183 := n5_
      have HO189 := n6_
      have HO192 := n7_
      have HO199 := n8_
      have HO202 := n9_
      have HO208 := n10_
      have HO211 := n11_
      have BK155 := n12_
      have BK156 := n13_
      have BK184 := n14_
      have BK193 := n15_
      have HB := n16_
      clear z_ n0_ n1_ n2_ n3_ n4_ n5_ n6_ n7_ n8_ n9_ n10_ n11_ n12_ n13_ n14_ n15_ n16_
      (try clear hb)
      (try clear hb2)
      (try clear hk)
      (try clear hi)
      (try clear ho0)
      (try clear ho1)
      obtain ⟨Ao107, co107, eo107⟩ := Kd.R_slice HO208.out
      (first | subst eo107 | (injection eo107 with f1_ f2_ f3_; have f4_ := f1_.symm; have f5_ := f3_.symm; clear f1_ f2_ f3_; subst f4_; subst f5_))
      obtain ⟨Ao108, co108, eo108⟩ := Kd.R_slice HO211.out
      (first | subst eo108 | (injection eo108 with f1_ f2_ f3_; have f4_ := f1_.symm; have f5_ := f3_.symm; clear f1_ f2_ f3_; subst f4_; subst f5_))
      refine hK.out _ _ ⟨(kC BK193.out 0).trans rfl, (kC BK193.out 1).trans rfl, (kC BK193.out 2).trans rfl, (kC BK193.out 3).trans rfl, (kC BK156.out 0).trans rfl, (kC BK156.out 1).trans rfl, (kC BK156.out 2).trans rfl, (kC BK156.out 3).trans rfl⟩ (fun hHeld => ?_)
      clear hK K
      refine norm_ (a' := ?_) ?_ ?_
      rotate_left
      ·show Act.put _ (some 42) _ = _
       simp only [Act.put, sI, sZ, sS, iW, jW]
       rfl
      refine one_ (i := 3) (N := some 43) #[T,T,T,T,F] rfl rfl (by kernel_rfl) (by decide) (fun K hK => ?_)
      refine goes_ Try.func19 (by kernel_rfl) rfl #[.agg #[.int .i64 t185, .int .i64 t186, .slice Ao96 t187.length co96, .slice Ao97 t190.length co97], .agg #[.int .i64 t204, .int .i64 t205, .slice Ao107 t206.length co107, .slice Ao108 t209.length co108]] (by rfl) rfl rfl lQ ?_
      with_reducible refine (laws_eqGrammar.calls k t185 t186 _ _ t187 _ _ t190 t204 t205 _ _ t206 _ _ t209 true _ ?side1 ?side2 ?side3 ?side4 ?side5 ?side6 ?side7 ?side8 A64.out).mono ?_
      (case side1 => repeat (first | exact (Kd.R_reads' HO189.out).2.2 | (with_reducible refine cA ?_ _) | (with_reducible refine cN ?_ _) | (with_reducible refine cD ?_)))
      (case side2 => exact (Kd.R_reads' HO189.out).2.1)
      (case side3 => repeat (first | exact (Kd.R_reads' HO192.out).2.2 | (with_reducible refine cA ?_ _) | (with_reducible refine cN ?_ _) | (with_reducible refine cD ?_)))
      (case side4 => exact (Kd.R_reads' HO192.out).2.1)
      (case side5 => repeat (first | exact (Kd.R_reads' HO208.out).2.2 | (with_reducible refine cA ?_ _) | (with_reducible refine cN ?_ _) | (with_reducible refine cD ?_)))
      (case side6 => exact (Kd.R_reads' HO208.out).2.1)
      (case side7 => repeat (first | exact (Kd.R_reads' HO211.out).2.2 | (with_reducible refine cA ?_ _) | (with_reducible refine cN ?_ _) | (with_reducible refine cD ?_)))
      (case side8 => exact (Kd.R_reads' HO211.out).2.1)
      rintro e w109 ⟨rfl, hb⟩
      refine ⟨_, rfl, ?_⟩
      have n0_ := Aside0.mk (rB (rQ HO163) hb)
      have n1_ := Aside0.mk (rB (rQ HO166) hb)
      have n2_ := Aside0.mk (rB (rQ HO171) hb)
      have n3_ := Aside0.mk (rB (rQ HO174) hb)
      have n4_ := Aside0.mk (rB (rQ HO180) hb)
      have n5_ := Aside0.mk (rB (rQ HO183) hb)
      have n6_ := Aside0.mk (rB (rQ HO189) hb)
      have n7_ := Aside0.mk (rB (rQ HO192) hb)
      have n8_ := Aside0.mk (rB (rQ HO199) hb)
      have n9_ := Aside0.mk (rB (rQ HO202) hb)
      have n10_ := Aside0.mk (rB (rQ HO208) hb)
      have n11_ := Aside0.mk (rB (rQ HO211) hb)
      have n12_ := Aside0.mk (kB (kQ BK155) hb)
      have n13_ := Aside0.mk (kB (kQ BK156) hb)
      have n14_ := Aside0.mk (kB (kQ BK184) hb)
      have n15_ := Aside0.mk (kB (kQ BK193) hb)
      have n16_ := Aside0.mk (bP (by repeat (first | (with_reducible first | exact HB.out | apply bA | apply bN | apply bD | refine bS ?_ GE155.out | refine bS ?_ GE156.out | refine bS ?_ GE184.out | refine bS ?_ GE193.out) | exact HB.out)) hb)
      clear HO163
      clear HO166
      clear HO171
      clear HO174
      clear HO180
      clear HO183
      clear HO189
      clear HO192
      clear HO199
      clear HO202
      clear HO208
      clear HO211
      clear BK155
      clear BK156
      clear BK184
      clear BK193
      clear HB
      have HO163 := n0_
      have HO166 := n1_
      have HO171 := n2_
      have HO174 := n3_
      have HO180 := n4_
      have HO183 := n5_
      have HO189 := n6_
      have HO192 := n7_
      have HO199 := n8_
      have HO202 := n9_
      have HO208 := n10_
      have HO211 := n11_
      have BK155 := n12_
      have BK156 := n13_
      have BK184 := n14_
      have BK193 := n15_
      have HB := n16_
      clear n0_ n1_ n2_ n3_ n4_ n5_ n6_ n7_ n8_ n9_ n10_ n11_ n12_ n13_ n14_ n15_ n16_
      (try clear hb)
      (try clear hb2)
      (try clear hk)
      (try clear hi)
      refine hK.out _ _ ⟨(kC BK193.out 0).trans rfl, (kC BK193.out 1).trans rfl, (kC BK193.out 2).trans rfl, (kC BK193.out 3).trans rfl, (kC BK156.out 0).trans rfl, (kC BK156.out 1).trans rfl, (kC BK156.out 2).trans rfl, (kC BK156.out 3).trans rfl⟩ (fun hHeld => ?_)
      clear hK K
      refine norm_ (a' := ?_) ?_ ?_
      rotate_left
      ·show Act.put _ (some 43) _ = _
       simp only [Act.put, sI, sZ, sS, iW, jW]
       rfl
      refine pure_ (i := 4) (N := some 44) (v := ?_) (a' := ?_) #[T,T,T,T,T] rfl rfl (by kernel_rfl) (fun _ _ _ h => h) (Or.inl ⟨by rfl, ?_⟩) ?_ ?_; rotate_left; (·intro w'; go_simp; with_reducible rfl); rotate_left; (·simp only [Act.put, sI, sZ, sS, iW, jW]; rfl)
      refine done_ (by kernel_rfl) ?_
      try go_wp2
      go_ret
      exact ⟨by first | rfl | (simp [errW_none, errW_some] <;> rfl) | (simp [*, errW_none, errW_some] <;> rfl), by repeat (first | (with_reducible first | exact HB.out | apply bA | apply bN | apply bD | refine bS ?_ GE155.out | refine bS ?_ GE156.out | refine bS ?_ GE184.out | refine bS ?_ GE193.out) | exact HB.out)⟩
     ·replace c65 := Bool.eq_false_iff.mpr c65
      subst c65
      have H1 : (some false) = some r := by rw [if_neg (show ¬ (false = true) by decide)] at H; exact H
      clear H
      have H := H1
      clear H1
      obtain rfl := Option.some.inj H
      go_enter Try.func3, Try.ntmps3
      try go_wp2_with (first | ((with_reducible refine gate_dst (N := 2) rfl ?_); refine bE ?hg (N := 2) ?hd (cs := #[.int .i64 a0_0, .int .i64 a0_1, .slice A0_2 l0_2.length c0_2, .slice A0_3 l0_3.length c0_3]) (t := 25) ?hr ?_; (case hd => rfl); (case hg => rfl); (case hr => first | (go_simp; done) | (go_simp; rfl)); intro gb155 hg w110 hbox hb; have z_ := bX hb (by repeat (first | (with_reducible first | exact HB.out | apply bA | apply bN | apply bD) | exact HB.out)); have n0_ := Aside0.mk (bP z_ hb); have n1_ := Aside0.mk (hbox); have n2_ := Aside0.mk ((by rw [hg]; exact (bZ z_) : w.heap.size ≤ gb155)); have n3_ := Aside0.mk ((by rw [hg]; exact (bZ z_) : w.heap.size ≤ gb155)); clear HB; have HB := n0_; have BK155 := n1_; have GW155 := n2_; have GE155 := n3_; clear z_ n0_ n1_ n2_ n3_; clear hb hbox hg) | ((with_reducible refine gate_dst (N := 3) rfl ?_); refine bE ?hg (N := 3) ?hd (cs := #[.int .i64 a1_0, .int .i64 a1_1, .slice A1_2 l1_2.length c1_2, .slice A1_3 l1_3.length c1_3]) (t := 25) ?hr ?_; (case hd => rfl); (case hg => rfl); (case hr => first | (go_simp; done) | (go_simp; rfl)); intro gb156 hg w111 hbox hb; have z_ := bX hb (by repeat (first | (with_reducible first | exact HB.out | apply bA | apply bN | apply bD | refine bS ?_ GE155.out) | exact HB.out)); have n0_ := Aside0.mk (kB (kQ BK155) hb); have n1_ := Aside0.mk (bP z_ hb); have n2_ := Aside0.mk (hbox); have n3_ := Aside0.mk ((by rw [hg]; exact (bZ z_) : w.heap.size ≤ gb156)); have n4_ := Aside0.mk ((by rw [hg]; exact (bZ z_) : w.heap.size ≤ gb156)); have n5_ := Aside0.mk ((by rw [hg]; exact Nat.ne_of_lt (kL (kQ BK155)) : gb155 ≠ gb156)); have n6_ := Aside0.mk ((by rw [hg]; exact Nat.ne_of_gt (kL (kQ BK155)) : gb156 ≠ gb155)); clear BK155; clear HB; have BK155 := n0_; have HB := n1_; have BK156 := n2_; have GW156 := n3_; have GE156 := n4_; have NB155_156 := n5_; have NB156_155 := n6_; clear z_ n0_ n1_ n2_ n3_ n4_ n5_ n6_; clear hb hbox hg; have hnb112 := NB155_156.out; have hnc112 := NB156_155.out; have hcz113_0 : w111.cell? ⟨gb155, 0, none⟩ = some (.int .i64 a0_0) := (kC BK155.out 0).trans rfl; have hcz113_1 : w111.cell? ⟨gb155, 1, none⟩ = some (.int .i64 a0_1) := (kC BK155.out 1).trans rfl; have hcz113_2 : w111.cell? ⟨gb155, 2, none⟩ = some (.slice A0_2 l0_2.length c0_2) := (kC BK155.out 2).trans rfl; have hcz113_3 : w111.cell? ⟨gb155, 3, none⟩ = some (.slice A0_3 l0_3.length c0_3) := (kC BK155.out 3).trans rfl; have hfz113_0 := blk_frozen BK155.out 0; have hfz113_1 := blk_frozen BK155.out 1; have hfz113_2 := blk_frozen BK155.out 2; have hfz113_3 := blk_frozen BK155.out 3) | ((with_reducible refine gC (f := 15) rfl ?_); refine goesL_ (some 12) rfl rfl Try.func15 (by kernel_rfl) rfl #[.agg #[.int .i64 a0_0, .int .i64 a0_1, .slice A0_2 l0_2.length c0_2, .slice A0_3 l0_3.length c0_3], .int .i64 1048576] rfl lQ ?_; (with_reducible refine (laws_szGrammar.calls a0_0 a0_1 _ _ l0_2 _ _ l0_3 1048576 t157 _ ?side1 ?side2 ?side3 ?side4 A3.out).mono ?_); (case side1 => repeat (first | exact (cB HR0_2.out HB.out) | (with_reducible refine cA ?_ _) | (with_reducible refine cN ?_ _) | (with_reducible refine cD ?_))); (case side2 => exact HC0_2.out); (case side3 => repeat (first | exact (cB HR0_3.out HB.out) | (with_reducible refine cA ?_ _) | (with_reducible refine cN ?_ _) | (with_reducible refine cD ?_))); (case side4 => exact HC0_3.out); rintro e w114 ⟨rfl, hb⟩; refine ⟨_, rfl, ?_⟩; have n0_ := Aside0.mk (kB (kQ BK155) hb); have n1_ := Aside0.mk (kB (kQ BK156) hb); have n2_ := Aside0.mk (bP (by repeat (first | (with_reducible first | exact HB.out | apply bA | apply bN | apply bD | refine bS ?_ GE155.out | refine bS ?_ GE156.out) | exact HB.out)) hb); clear BK155; clear BK156; clear HB; have BK155 := n0_; have BK156 := n1_; have HB := n2_; clear n0_ n1_ n2_; (try clear hb); (try clear hb2); (try clear hk); (try clear hi); have hcz115_0 : w114.cell? ⟨gb156, 0, none⟩ = some (.int .i64 a1_0) := (kC BK156.out 0).trans rfl; have hcz115_1 : w114.cell? ⟨gb156, 1, none⟩ = some (.int .i64 a1_1) := (kC BK156.out 1).trans rfl; have hcz115_2 : w114.cell? ⟨gb156, 2, none⟩ = some (.slice A1_2 l1_2.length c1_2) := (kC BK156.out 2).trans rfl; have hcz115_3 : w114.cell? ⟨gb156, 3, none⟩ = some (.slice A1_3 l1_3.length c1_3) := (kC BK156.out 3).trans rfl; have hfz115_0 := blk_frozen BK156.out 0; have hfz115_1 := blk_frozen BK156.out 1; have hfz115_2 := blk_frozen BK156.out 2; have hfz115_3 := blk_frozen BK156.out 3) | ((with_reducible refine gC (f := 15) rfl ?_); refine goesL_ (some 17) rfl rfl Try.func15 (by kernel_rfl) rfl #[.agg #[.int .i64 a1_0, .int .i64 a1_1, .slice A1_2 l1_2.length c1_2, .slice A1_3 l1_3.length c1_3], .int .i64 t157] rfl lQ ?_; (with_reducible refine (laws_szGrammar.calls a1_0 a1_1 _ _ l1_2 _ _ l1_3 t157 t158 _ ?side1 ?side2 ?side3 ?side4 A10.out).mono ?_); (case side1 => repeat (first | exact (cB HR1_2.out HB.out) | (with_reducible refine cA ?_ _) | (with_reducible refine cN ?_ _) | (with_reducible refine cD ?_))); (case side2 => exact HC1_2.out); (case side3 => repeat (first | exact (cB HR1_3.out HB.out) | (with_reducible refine cA ?_ _) | (with_reducible refine cN ?_ _) | (with_reducible refine cD ?_))); (case side4 => exact HC1_3.out); rintro e w116 ⟨rfl, hb⟩; refine ⟨_, rfl, ?_⟩; have n0_ := Aside0.mk (kB (kQ BK155) hb); have n1_ := Aside0.mk (kB (kQ BK156) hb); have n2_ := Aside0.mk (bP (by repeat (first | (with_reducible first | exact HB.out | apply bA | apply bN | apply bD | refine bS ?_ GE155.out | refine bS ?_ GE156.out) | exact HB.out)) hb); clear BK155; clear BK156; clear HB; have BK155 := n0_; have BK156 := n1_; have HB := n2_; clear n0_ n1_ n2_; (try clear hb); (try clear hb2); (try clear hk); (try clear hi)))
      have n0_ := Aside0.mk (kD BK155.out)
      have n1_ := Aside0.mk (kD BK156.out)
      have n2_ := Aside0.mk (bD HB.out)
      clear BK155
      clear BK156
      clear HB
      have BK155 := n0_
      have BK156 := n1_
      have HB := n2_
      clear n0_ n1_ n2_
      refine start_ (n := 6) (S := fun w' => w'.cell? ⟨gb155, 0, none⟩ = some (.int .i64 a0_0) ∧ w'.cell? ⟨gb155, 1, none⟩ = some (.int .i64 a0_1) ∧ w'.cell? ⟨gb155, 2, none⟩ = some (.slice A0_2 l0_2.length c0_2) ∧ w'.cell? ⟨gb155, 3, none⟩ = some (.slice A0_3 l0_3.length c0_3) ∧ w'.cell? ⟨gb156, 0, none⟩ = some (.int .i64 a1_0) ∧ w'.cell? ⟨gb156, 1, none⟩ = some (.int .i64 a1_1) ∧ w'.cell? ⟨gb156, 2, none⟩ = some (.slice A1_2 l1_2.length c1_2) ∧ w'.cell? ⟨gb156, 3, none⟩ = some (.slice A1_3 l1_3.length c1_3)) (ds := []) #[F,F,F,F,F,F] (by kernel_rfl) rfl rfl ⟨(kC BK155.out 0).trans rfl, (kC BK155.out 1).trans rfl, (kC BK155.out 2).trans rfl, (kC BK155.out 3).trans rfl, (kC BK156.out 0).trans rfl, (kC BK156.out 1).trans rfl, (kC BK156.out 2).trans rfl, (kC BK156.out 3).trans rfl⟩ (fun hHeld => ?_)
      generalize w116.drew = w117 at BK155 BK156 HB hHeld ⊢
      refine take_ (i := 0) (N := some 20) (v := ?_) (a' := ?_) #[T,F,F,F,F,F] rfl rfl (by kernel_rfl) (fun _ _ _ h => h) (Or.inl ⟨by rfl, ?_⟩) hHeld ?_ ?_; rotate_left; (·rintro w' ⟨s0, s1, s2, s3, s4, s5, s6, s7⟩; go_simp; with_reducible rfl); rotate_left; (·simp only [Act.put, sI, sZ, sS, iW, jW]; rfl)
      refine take_ (i := 2) (N := some 22) (v := ?_) (a' := ?_) #[T,F,T,F,F,F] rfl rfl (by kernel_rfl) (fun _ _ _ h => h) (Or.inl ⟨by rfl, ?_⟩) hHeld ?_ ?_; rotate_left; (·rintro w' ⟨s0, s1, s2, s3, s4, s5, s6, s7⟩; go_simp; with_reducible rfl); rotate_left; (·simp only [Act.put, sI, sZ, sS, iW, jW]; rfl)
      refine one_ (i := 1) (N := some 21) #[T,T,T,F,F,F] rfl rfl (by kernel_rfl) (by decide) (fun K hK => ?_)
      refine goes_ Try.func17 (by kernel_rfl) rfl #[.agg #[.int .i64 a0_0, .int .i64 a0_1, .slice A0_2 l0_2.length c0_2, .slice A0_3 l0_3.length c0_3]] (by rfl) rfl rfl lQ ?_
      with_reducible refine (laws_toGrammar.calls k a0_0 a0_1 _ _ l0_2 _ _ l0_3 t159 t160 t161 t164 _ ?side1 ?side2 ?side3 ?side4 A19.out).mono ?_
      (case side1 => repeat (first | exact (cB HR0_2.out HB.out) | (with_reducible refine cA ?_ _) | (with_reducible refine cN ?_ _) | (with_reducible refine cD ?_)))
      (case side2 => exact HC0_2.out)
      (case side3 => repeat (first | exact (cB HR0_3.out HB.out) | (with_reducible refine cA ?_ _) | (with_reducible refine cN ?_ _) | (with_reducible refine cD ?_)))
      (case side4 => exact HC0_3.out)
      rintro e w118 ⟨v162, v165, rfl, ho0, ho1, hb⟩
      refine ⟨_, rfl, ?_⟩
      have z_ := bX hb (by repeat (first | (with_reducible first | exact HB.out | apply bA | apply bN | apply bD | refine bS ?_ GE155.out | refine bS ?_ GE156.out) | exact HB.out))
      have n0_ := Aside0.mk (rL ho0 (bZ z_))
      have n1_ := Aside0.mk (rL ho1 (bZ z_))
      have n2_ := Aside0.mk (kB (kQ BK155) hb)
      have n3_ := Aside0.mk (kB (kQ BK156) hb)
      have n4_ := Aside0.mk (bP z_ hb)
      clear BK155
      clear BK156
      clear HB
      have HO163 := n0_
      have HO166 := n1_
      have BK155 := n2_
      have BK156 := n3_
      have HB := n4_
      clear z_ n0_ n1_ n2_ n3_ n4_
      (try clear hb)
      (try clear hb2)
      (try clear hk)
      (try clear hi)
      (try clear ho0)
      (try clear ho1)
      refine hK.out _ _ ⟨(kC BK155.out 0).trans rfl, (kC BK155.out 1).trans rfl, (kC BK155.out 2).trans rfl, (kC BK155.out 3).trans rfl, (kC BK156.out 0).trans rfl, (kC BK156.out 1).trans rfl, (kC BK156.out 2).trans rfl, (kC BK156.out 3).trans rfl⟩ (fun hHeld => ?_)
      clear hK K
      refine norm_ (a' := ?_) ?_ ?_
      rotate_left
      ·show Act.put _ (some 21) _ = _
       simp only [Act.put, sI, sZ, sS, iW, jW]
       rfl
      refine one_ (i := 3) (N := some 23) #[T,T,T,T,F,F] rfl rfl (by kernel_rfl) (by decide) (fun K hK => ?_)
      refine goes_ Try.func17 (by kernel_rfl) rfl #[.agg #[.int .i64 a1_0, .int .i64 a1_1, .slice A1_2 l1_2.length c1_2, .slice A1_3 l1_3.length c1_3]] (by rfl) rfl rfl lQ ?_
      with_reducible refine (laws_toGrammar.calls k a1_0 a1_1 _ _ l1_2 _ _ l1_3 t167 t168 t169 t172 _ ?side1 ?side2 ?side3 ?side4 A20.out).mono ?_
      (case side1 => repeat (first | exact (cB HR1_2.out HB.out) | (with_reducible refine cA ?_ _) | (with_reducible refine cN ?_ _) | (with_reducible refine cD ?_)))
      (case side2 => exact HC1_2.out)
      (case side3 => repeat (first | exact (cB HR1_3.out HB.out) | (with_reducible refine cA ?_ _) | (with_reducible refine cN ?_ _) | (with_reducible refine cD ?_)))
      (case side4 => exact HC1_3.out)
      rintro e w119 ⟨v170, v173, rfl, ho0, ho1, hb⟩
      refine ⟨_, rfl, ?_⟩
      have z_ := bX hb (by repeat (first | (with_reducible first | exact HB.out | apply bA | apply bN | apply bD | refine bS ?_ GE155.out | refine bS ?_ GE156.out) | exact HB.out))
      have n0_ := Aside0.mk (rE (rQ HO163) (Kd.R_base ho0) hb)
      have n1_ := Aside0.mk (rE (rQ HO166) (Kd.R_base ho1) hb)
      have n2_ := Aside0.mk (rL (rW ho0 (rT (rQ HO163))) (bZ z_))
      have n3_ := Aside0.mk (rL (rW ho1 (rT (rQ HO166))) (bZ z_))
      have n4_ := Aside0.mk (kB (kQ BK155) hb)
      have n5_ := Aside0.mk (kB (kQ BK156) hb)
      have n6_ := Aside0.mk (bP z_ hb)
      clear HO163
      clear HO166
      clear BK155
      clear BK156
      clear HB
      have HO163 := n0_
      have HO166 := n1_
      have HO171 := n2_
      have HO174 := n3_
      have BK155 := n4_
      have BK156 := n5_
      have HB := n6_
      clear z_ n0_ n1_ n2_ n3_ n4_ n5_ n6_
      (try clear hb)
      (try clear hb2)
      (try clear hk)
      (try clear hi)
      (try clear ho0)
      (try clear ho1)
      obtain ⟨Ao120, co120, eo120⟩ := Kd.R_slice HO163.out
      (first | subst eo120 | (injection eo120 with f1_ f2_ f3_; have f4_ := f1_.symm; have f5_ := f3_.symm; clear f1_ f2_ f3_; subst f4_; subst f5_))
      obtain ⟨Ao121, co121, eo121⟩ := Kd.R_slice HO166.out
      (first | subst eo121 | (injection eo121 with f1_ f2_ f3_; have f4_ := f1_.symm; have f5_ := f3_.symm; clear f1_ f2_ f3_; subst f4_; subst f5_))
      obtain ⟨Ao122, co122, eo122⟩ := Kd.R_slice HO171.out
      (first | subst eo122 | (injection eo122 with f1_ f2_ f3_; have f4_ := f1_.symm; have f5_ := f3_.symm; clear f1_ f2_ f3_; subst f4_; subst f5_))
      obtain ⟨Ao123, co123, eo123⟩ := Kd.R_slice HO174.out
      (first | subst eo123 | (injection eo123 with f1_ f2_ f3_; have f4_ := f1_.symm; have f5_ := f3_.symm; clear f1_ f2_ f3_; subst f4_; subst f5_))
      refine hK.out _ _ ⟨(kC BK155.out 0).trans rfl, (kC BK155.out 1).trans rfl, (kC BK155.out 2).trans rfl, (kC BK155.out 3).trans rfl, (kC BK156.out 0).trans rfl, (kC BK156.out 1).trans rfl, (kC BK156.out 2).trans rfl, (kC BK156.out 3).trans rfl⟩ (fun hHeld => ?_)
      clear hK K
      refine norm_ (a' := ?_) ?_ ?_
      rotate_left
      ·show Act.put _ (some 23) _ = _
       simp only [Act.put, sI, sZ, sS, iW, jW]
       rfl
      refine one_ (i := 4) (N := some 24) #[T,T,T,T,T,F] rfl rfl (by kernel_rfl) (by decide) (fun K hK => ?_)
      refine goes_ Try.func16 (by kernel_rfl) rfl #[.agg #[.int .i64 t159, .int .i64 t160, .slice Ao120 t161.length co120, .slice Ao121 t164.length co121], .agg #[.int .i64 t167, .int .i64 t168, .slice Ao122 t169.length co122, .slice Ao123 t172.length co123]] (by rfl) rfl rfl lQ ?_
      with_reducible refine (spec_SameGrammar.calls k t159 t160 _ _ t161 _ _ t164 t167 t168 _ _ t169 _ _ t172 t175 _ ?side1 ?side2 ?side3 ?side4 ?side5 ?side6 ?side7 ?side8 A21.out).mono ?_
      (case side1 => repeat (first | exact (Kd.R_reads' HO163.out).2.2 | (with_reducible refine cA ?_ _) | (with_reducible refine cN ?_ _) | (with_reducible refine cD ?_)))
      (case side2 => exact (Kd.R_reads' HO163.out).2.1)
      (case side3 => repeat (first | exact (Kd.R_reads' HO166.out).2.2 | (with_reducible refine cA ?_ _) | (with_reducible refine cN ?_ _) | (with_reducible refine cD ?_)))
      (case side4 => exact (Kd.R_reads' HO166.out).2.1)
      (case side5 => repeat (first | exact (Kd.R_reads' HO171.out).2.2 | (with_reducible refine cA ?_ _) | (with_reducible refine cN ?_ _) | (with_reducible refine cD ?_)))
      (case side6 => exact (Kd.R_reads' HO171.out).2.1)
      (case side7 => repeat (first | exact (Kd.R_reads' HO174.out).2.2 | (with_reducible refine cA ?_ _) | (with_reducible refine cN ?_ _) | (with_reducible refine cD ?_)))
      (case side8 => exact (Kd.R_reads' HO174.out).2.1)
      rintro e w124 ⟨rfl, hb⟩
      refine ⟨_, rfl, ?_⟩
      have n0_ := Aside0.mk (rB (rQ HO163) hb)
      have n1_ := Aside0.mk (rB (rQ HO166) hb)
      have n2_ := Aside0.mk (rB (rQ HO171) hb)
      have n3_ := Aside0.mk (rB (rQ HO174) hb)
      have n4_ := Aside0.mk (kB (kQ BK155) hb)
      have n5_ := Aside0.mk (kB (kQ BK156) hb)
      have n6_ := Aside0.mk (bP (by repeat (first | (with_reducible first | exact HB.out | apply bA | apply bN | apply bD | refine bS ?_ GE155.out | refine bS ?_ GE156.out) | exact HB.out)) hb)
      clear HO163
      clear HO166
      clear HO171
      clear HO174
      clear BK155
      clear BK156
      clear HB
      have HO163 := n0_
      have HO166 := n1_
      have HO171 := n2_
      have HO174 := n3_
      have BK155 := n4_
      have BK156 := n5_
      have HB := n6_
      clear n0_ n1_ n2_ n3_ n4_ n5_ n6_
      (try clear hb)
      (try clear hb2)
      (try clear hk)
      (try clear hi)
      refine hK.out _ _ ⟨(kC BK155.out 0).trans rfl, (kC BK155.out 1).trans rfl, (kC BK155.out 2).trans rfl, (kC BK155.out 3).trans rfl, (kC BK156.out 0).trans rfl, (kC BK156.out 1).trans rfl, (kC BK156.out 2).trans rfl, (kC BK156.out 3).trans rfl⟩ (fun hHeld => ?_)
      clear hK K
      refine norm_ (a' := ?_) ?_ ?_
      rotate_left
      ·show Act.put _ (some 24) _ = _
       simp only [Act.put, sI, sZ, sS, iW, jW]
       rfl
      refine pure_ (i := 5) (N := some 6) (v := ?_) (a' := ?_) #[T,T,T,T,T,T] rfl rfl (by kernel_rfl) (fun _ _ _ h => h) (Or.inl ⟨by rfl, ?_⟩) ?_ ?_; rotate_left; (·intro w'; go_simp; with_reducible rfl); rotate_left; (·simp only [Act.put, sI, sZ, sS, iW, jW]; rfl)
      refine done_ (by kernel_rfl) ?_
      have hcz125_0 : w124.cell? ⟨gb155, 0, none⟩ = some (.int .i64 a0_0) := (kC BK155.out 0).trans rfl
      have hcz125_1 : w124.cell? ⟨gb155, 1, none⟩ = some (.int .i64 a0_1) := (kC BK155.out 1).trans rfl
      have hcz125_2 : w124.cell? ⟨gb155, 2, none⟩ = some (.slice A0_2 l0_2.length c0_2) := (kC BK155.out 2).trans rfl
      have hcz125_3 : w124.cell? ⟨gb155, 3, none⟩ = some (.slice A0_3 l0_3.length c0_3) := (kC BK155.out 3).trans rfl
      have hfz125_0 := blk_frozen BK155.out 0
      have hfz125_1 := blk_frozen BK155.out 1
      have hfz125_2 := blk_frozen BK155.out 2
      have hfz125_3 := blk_frozen BK155.out 3
      try go_wp2_with (first | ((with_reducible refine gC (f := 17) rfl ?_); refine goesL_ (some 26) rfl rfl Try.func17 (by kernel_rfl) rfl #[.agg #[.int .i64 a0_0, .int .i64 a0_1, .slice A0_2 l0_2.length c0_2, .slice A0_3 l0_3.length c0_3]] rfl lQ ?_; (with_reducible refine (laws_toGrammar.calls k a0_0 a0_1 _ _ l0_2 _ _ l0_3 t176 t177 t178 t181 _ ?side1 ?side2 ?side3 ?side4 A22.out).mono ?_); (case side1 => repeat (first | exact (cB HR0_2.out HB.out) | (with_reducible refine cA ?_ _) | (with_reducible refine cN ?_ _) | (with_reducible refine cD ?_))); (case side2 => exact HC0_2.out); (case side3 => repeat (first | exact (cB HR0_3.out HB.out) | (with_reducible refine cA ?_ _) | (with_reducible refine cN ?_ _) | (with_reducible refine cD ?_))); (case side4 => exact HC0_3.out); rintro e w126 ⟨v179, v182, rfl, ho0, ho1, hb⟩; refine ⟨_, rfl, ?_⟩; have z_ := bX hb (by repeat (first | (with_reducible first | exact HB.out | apply bA | apply bN | apply bD | refine bS ?_ GE155.out | refine bS ?_ GE156.out) | exact HB.out)); have n0_ := Aside0.mk (rE (rQ HO163) (Kd.R_base ho0) hb); have n1_ := Aside0.mk (rE (rQ HO166) (Kd.R_base ho1) hb); have n2_ := Aside0.mk (rE (rQ HO171) (Kd.R_base ho0) hb); have n3_ := Aside0.mk (rE (rQ HO174) (Kd.R_base ho1) hb); have n4_ := Aside0.mk (rL (rW (rW ho0 (rT (rQ HO163))) (rT (rQ HO171))) (bZ z_)); have n5_ := Aside0.mk (rL (rW (rW ho1 (rT (rQ HO166))) (rT (rQ HO174))) (bZ z_)); have n6_ := Aside0.mk (kB (kQ BK155) hb); have n7_ := Aside0.mk (kB (kQ BK156) hb); have n8_ := Aside0.mk (bP z_ hb); clear HO163; clear HO166; clear HO171; clear HO174; clear BK155; clear BK156; clear HB; have HO163 := n0_; have HO166 := n1_; have HO171 := n2_; have HO174 := n3_; have HO180 := n4_; have HO183 := n5_; have BK155 := n6_; have BK156 := n7_; have HB := n8_; clear z_ n0_ n1_ n2_ n3_ n4_ n5_ n6_ n7_ n8_; (try clear hb); (try clear hb2); (try clear hk); (try clear hi); (try clear ho0); (try clear ho1)) | ((with_reducible refine gate_dst (N := 7) rfl ?_); refine bE ?hg (N := 7) ?hd (cs := #[.int .i64 0, .int .i64 0, .slice none 0 0, .slice none 0 0]) (t := 30) ?hr ?_; (case hd => rfl); (case hg => rfl); (case hr => first | (go_simp; done) | (go_simp; rfl)); intro gb184 hg w127 hbox hb; have z_ := bX hb (by repeat (first | (with_reducible first | exact HB.out | apply bA | apply bN | apply bD | refine bS ?_ GE155.out | refine bS ?_ GE156.out) | exact HB.out)); have n0_ := Aside0.mk (rB (rQ HO163) hb); have n1_ := Aside0.mk (rB (rQ HO166) hb); have n2_ := Aside0.mk (rB (rQ HO171) hb); have n3_ := Aside0.mk (rB (rQ HO174) hb); have n4_ := Aside0.mk (rB (rQ HO180) hb); have n5_ := Aside0.mk (rB (rQ HO183) hb); have n6_ := Aside0.mk (kB (kQ BK155) hb); have n7_ := Aside0.mk (kB (kQ BK156) hb); have n8_ := Aside0.mk (bP z_ hb); have n9_ := Aside0.mk (hbox); have n10_ := Aside0.mk ((by rw [hg]; exact (bZ z_) : w.heap.size ≤ gb184)); have n11_ := Aside0.mk ((by rw [hg]; exact (bZ z_) : w.heap.size ≤ gb184)); have n12_ := Aside0.mk ((by rw [hg]; exact Nat.ne_of_lt (kL (kQ BK155)) : gb155 ≠ gb184)); have n13_ := Aside0.mk ((by rw [hg]; exact Nat.ne_of_gt (kL (kQ BK155)) : gb184 ≠ gb155)); have n14_ := Aside0.mk ((by rw [hg]; exact Nat.ne_of_lt (kL (kQ BK156)) : gb156 ≠ gb184)); have n15_ := Aside0.mk ((by rw [hg]; exact Nat.ne_of_gt (kL (kQ BK156)) : gb184 ≠ gb156)); clear HO163; clear HO166; clear HO171; clear HO174; clear HO180; clear HO183; clear BK155; clear BK156; clear HB; have HO163 := n0_; have HO166 := n1_; have HO171 := n2_; have HO174 := n3_; have HO180 := n4_; have HO183 := n5_; have BK155 := n6_; have BK156 := n7_; have HB := n8_; have BK184 := n9_; have GW184 := n10_; have GE184 := n11_; have NB155_184 := n12_; have NB184_155 := n13_; have NB156_184 := n14_; have NB184_156 := n15_; clear z_ n0_ n1_ n2_ n3_ n4_ n5_ n6_ n7_ n8_ n9_ n10_ n11_ n12_ n13_ n14_ n15_; clear hb hbox hg; have hnb128 := NB184_155.out; have hnc128 := NB155_184.out; have hnb129 := NB184_156.out; have hnc129 := NB156_184.out; have hcz130_0 : w127.cell? ⟨gb184, 0, none⟩ = some (.int .i64 0) := (kC BK184.out 0).trans rfl; have hcz130_1 : w127.cell? ⟨gb184, 1, none⟩ = some (.int .i64 0) := (kC BK184.out 1).trans rfl; have hcz130_2 : w127.cell? ⟨gb184, 2, none⟩ = some (.slice none 0 0) := (kC BK184.out 2).trans rfl; have hcz130_3 : w127.cell? ⟨gb184, 3, none⟩ = some (.slice none 0 0) := (kC BK184.out 3).trans rfl; have hfz130_0 := blk_frozen BK184.out 0; have hfz130_1 := blk_frozen BK184.out 1; have hfz130_2 := blk_frozen BK184.out 2; have hfz130_3 := blk_frozen BK184.out 3; obtain ⟨Ao131, co131, eo131⟩ := Kd.R_slice HO180.out; subst eo131; obtain ⟨Ao132, co132, eo132⟩ := Kd.R_slice HO183.out; subst eo132; have hcz133_0 : w127.cell? ⟨gb156, 0, none⟩ = some (.int .i64 a1_0) := (kC BK156.out 0).trans rfl; have hcz133_1 : w127.cell? ⟨gb156, 1, none⟩ = some (.int .i64 a1_1) := (kC BK156.out 1).trans rfl; have hcz133_2 : w127.cell? ⟨gb156, 2, none⟩ = some (.slice A1_2 l1_2.length c1_2) := (kC BK156.out 2).trans rfl; have hcz133_3 : w127.cell? ⟨gb156, 3, none⟩ = some (.slice A1_3 l1_3.length c1_3) := (kC BK156.out 3).trans rfl; have hfz133_0 := blk_frozen BK156.out 0; have hfz133_1 := blk_frozen BK156.out 1; have hfz133_2 := blk_frozen BK156.out 2; have hfz133_3 := blk_frozen BK156.out 3) | ((with_reducible refine gC (f := 17) rfl ?_); refine goesL_ (some 28) rfl rfl Try.func17 (by kernel_rfl) rfl #[.agg #[.int .i64 a1_0, .int .i64 a1_1, .slice A1_2 l1_2.length c1_2, .slice A1_3 l1_3.length c1_3]] rfl lQ ?_; (with_reducible refine (laws_toGrammar.calls k a1_0 a1_1 _ _ l1_2 _ _ l1_3 t185 t186 t187 t190 _ ?side1 ?side2 ?side3 ?side4 A23.out).mono ?_); (case side1 => exact cB HR1_2.out (by repeat (first | (with_reducible first | exact HB.out | apply bA | apply bN | apply bD | refine bS ?_ GE155.out | refine bS ?_ GE156.out | refine bS ?_ GE184.out) | exact HB.out))); (case side2 => exact HC1_2.out); (case side3 => exact cB HR1_3.out (by repeat (first | (with_reducible first | exact HB.out | apply bA | apply bN | apply bD | refine bS ?_ GE155.out | refine bS ?_ GE156.out | refine bS ?_ GE184.out) | exact HB.out))); (case side4 => exact HC1_3.out); rintro e w134 ⟨v188, v191, rfl, ho0, ho1, hb⟩; refine ⟨_, rfl, ?_⟩; have z_ := bX hb (by repeat (first | (with_reducible first | exact HB.out | apply bA | apply bN | apply bD | refine bS ?_ GE155.out | refine bS ?_ GE156.out | refine bS ?_ GE184.out) | exact HB.out)); have n0_ := Aside0.mk (rE (by (with_reducible repeat (first | apply rA | apply rN | apply rD)); exact (rM (Kd.R_far (p := ⟨gb184, 3, none⟩) (Kd.R_far (p := ⟨gb184, 2, none⟩) (Kd.R_far (p := ⟨gb184, 1, none⟩) (Kd.R_far (p := ⟨gb184, 0, none⟩) (Kd.R_types HO163.out BK184.out (by decide)) (fun _ hk => hk.2) (.int .i64 t176)) (fun _ hk => hk.2) (.int .i64 t177)) (fun _ hk => hk.2) (.slice Ao131 t178.length co131)) (fun _ hk => hk.2) (.slice Ao132 t181.length co132)) (fun _ h_ => h_.1))) (Kd.R_base ho0) hb); have n1_ := Aside0.mk (rE (by (with_reducible repeat (first | apply rA | apply rN | apply rD)); exact (rM (Kd.R_far (p := ⟨gb184, 3, none⟩) (Kd.R_far (p := ⟨gb184, 2, none⟩) (Kd.R_far (p := ⟨gb184, 1, none⟩) (Kd.R_far (p := ⟨gb184, 0, none⟩) (Kd.R_types HO166.out BK184.out (by decide)) (fun _ hk => hk.2) (.int .i64 t176)) (fun _ hk => hk.2) (.int .i64 t177)) (fun _ hk => hk.2) (.slice Ao131 t178.length co131)) (fun _ hk => hk.2) (.slice Ao132 t181.length co132)) (fun _ h_ => h_.1))) (Kd.R_base ho1) hb); have n2_ := Aside0.mk (rE (by (with_reducible repeat (first | apply rA | apply rN | apply rD)); exact (rM (Kd.R_far (p := ⟨gb184, 3, none⟩) (Kd.R_far (p := ⟨gb184, 2, none⟩) (Kd.R_far (p := ⟨gb184, 1, none⟩) (Kd.R_far (p := ⟨gb184, 0, none⟩) (Kd.R_types HO171.out BK184.out (by decide)) (fun _ hk => hk.2) (.int .i64 t176)) (fun _ hk => hk.2) (.int .i64 t177)) (fun _ hk => hk.2) (.slice Ao131 t178.length co131)) (fun _ hk => hk.2) (.slice Ao132 t181.length co132)) (fun _ h_ => h_.1))) (Kd.R_base ho0) hb); have n3_ := Aside0.mk (rE (by (with_reducible repeat (first | apply rA | apply rN | apply rD)); exact (rM (Kd.R_far (p := ⟨gb184, 3, none⟩) (Kd.R_far (p := ⟨gb184, 2, none⟩) (Kd.R_far (p := ⟨gb184, 1, none⟩) (Kd.R_far (p := ⟨gb184, 0, none⟩) (Kd.R_types HO174.out BK184.out (by decide)) (fun _ hk => hk.2) (.int .i64 t176)) (fun _ hk => hk.2) (.int .i64 t177)) (fun _ hk => hk.2) (.slice Ao131 t178.length co131)) (fun _ hk => hk.2) (.slice Ao132 t181.length co132)) (fun _ h_ => h_.1))) (Kd.R_base ho1) hb); have n4_ := Aside0.mk (rE (by (with_reducible repeat (first | apply rA | apply rN | apply rD)); exact (rM (Kd.R_far (p := ⟨gb184, 3, none⟩) (Kd.R_far (p := ⟨gb184, 2, none⟩) (Kd.R_far (p := ⟨gb184, 1, none⟩) (Kd.R_far (p := ⟨gb184, 0, none⟩) (Kd.R_types HO180.out BK184.out (by decide)) (fun _ hk => hk.2) (.int .i64 t176)) (fun _ hk => hk.2) (.int .i64 t177)) (fun _ hk => hk.2) (.slice Ao131 t178.length co131)) (fun _ hk => hk.2) (.slice Ao132 t181.length co132)) (fun _ h_ => h_.1))) (Kd.R_base ho0) hb); have n5_ := Aside0.mk (rE (by (with_reducible repeat (first | apply rA | apply rN | apply rD)); exact (rM (Kd.R_far (p := ⟨gb184, 3, none⟩) (Kd.R_far (p := ⟨gb184, 2, none⟩) (Kd.R_far (p := ⟨gb184, 1, none⟩) (Kd.R_far (p := ⟨gb184, 0, none⟩) (Kd.R_types HO183.out BK184.out (by decide)) (fun _ hk => hk.2) (.int .i64 t176)) (fun _ hk => hk.2) (.int .i64 t177)) (fun _ hk => hk.2) (.slice Ao131 t178.length co131)) (fun _ hk => hk.2) (.slice Ao132 t181.length co132)) (fun _ h_ => h_.1))) (Kd.R_base ho1) hb); have n6_ := Aside0.mk (rL (rW (rW (rW ho0 (rT (by (with_reducible repeat (first | apply rA | apply rN | apply rD)); exact (rM (Kd.R_far (p := ⟨gb184, 3, none⟩) (Kd.R_far (p := ⟨gb184, 2, none⟩) (Kd.R_far (p := ⟨gb184, 1, none⟩) (Kd.R_far (p := ⟨gb184, 0, none⟩) (Kd.R_types HO163.out BK184.out (by decide)) (fun _ hk => hk.2) (.int .i64 t176)) (fun _ hk => hk.2) (.int .i64 t177)) (fun _ hk => hk.2) (.slice Ao131 t178.length co131)) (fun _ hk => hk.2) (.slice Ao132 t181.length co132)) (fun _ h_ => h_.1))))) (rT (by (with_reducible repeat (first | apply rA | apply rN | apply rD)); exact (rM (Kd.R_far (p := ⟨gb184, 3, none⟩) (Kd.R_far (p := ⟨gb184, 2, none⟩) (Kd.R_far (p := ⟨gb184, 1, none⟩) (Kd.R_far (p := ⟨gb184, 0, none⟩) (Kd.R_types HO171.out BK184.out (by decide)) (fun _ hk => hk.2) (.int .i64 t176)) (fun _ hk => hk.2) (.int .i64 t177)) (fun _ hk => hk.2) (.slice Ao131 t178.length co131)) (fun _ hk => hk.2) (.slice Ao132 t181.length co132)) (fun _ h_ => h_.1))))) (rT (by (with_reducible repeat (first | apply rA | apply rN | apply rD)); exact (rM (Kd.R_far (p := ⟨gb184, 3, none⟩) (Kd.R_far (p := ⟨gb184, 2, none⟩) (Kd.R_far (p := ⟨gb184, 1, none⟩) (Kd.R_far (p := ⟨gb184, 0, none⟩) (Kd.R_types HO180.out BK184.out (by decide)) (fun _ hk => hk.2) (.int .i64 t176)) (fun _ hk => hk.2) (.int .i64 t177)) (fun _ hk => hk.2) (.slice Ao131 t178.length co131)) (fun _ hk => hk.2) (.slice Ao132 t181.length co132)) (fun _ h_ => h_.1))))) (bZ z_)); have n7_ := Aside0.mk (rL (rW (rW (rW ho1 (rT (by (with_reducible repeat (first | apply rA | apply rN | apply rD)); exact (rM (Kd.R_far (p := ⟨gb184, 3, none⟩) (Kd.R_far (p := ⟨gb184, 2, none⟩) (Kd.R_far (p := ⟨gb184, 1, none⟩) (Kd.R_far (p := ⟨gb184, 0, none⟩) (Kd.R_types HO166.out BK184.out (by decide)) (fun _ hk => hk.2) (.int .i64 t176)) (fun _ hk => hk.2) (.int .i64 t177)) (fun _ hk => hk.2) (.slice Ao131 t178.length co131)) (fun _ hk => hk.2) (.slice Ao132 t181.length co132)) (fun _ h_ => h_.1))))) (rT (by (with_reducible repeat (first | apply rA | apply rN | apply rD)); exact (rM (Kd.R_far (p := ⟨gb184, 3, none⟩) (Kd.R_far (p := ⟨gb184, 2, none⟩) (Kd.R_far (p := ⟨gb184, 1, none⟩) (Kd.R_far (p := ⟨gb184, 0, none⟩) (Kd.R_types HO174.out BK184.out (by decide)) (fun _ hk => hk.2) (.int .i64 t176)) (fun _ hk => hk.2) (.int .i64 t177)) (fun _ hk => hk.2) (.slice Ao131 t178.length co131)) (fun _ hk => hk.2) (.slice Ao132 t181.length co132)) (fun _ h_ => h_.1))))) (rT (by (with_reducible repeat (first | apply rA | apply rN | apply rD)); exact (rM (Kd.R_far (p := ⟨gb184, 3, none⟩) (Kd.R_far (p := ⟨gb184, 2, none⟩) (Kd.R_far (p := ⟨gb184, 1, none⟩) (Kd.R_far (p := ⟨gb184, 0, none⟩) (Kd.R_types HO183.out BK184.out (by decide)) (fun _ hk => hk.2) (.int .i64 t176)) (fun _ hk => hk.2) (.int .i64 t177)) (fun _ hk => hk.2) (.slice Ao131 t178.length co131)) (fun _ hk => hk.2) (.slice Ao132 t181.length co132)) (fun _ h_ => h_.1))))) (bZ z_)); have n8_ := Aside0.mk (kB (g := gb155) (o := .cells #[.int .i64 a0_0, .int .i64 a0_1, .slice A0_2 l0_2.length c0_2, .slice A0_3 l0_3.length c0_3] 25 (0, 0)) (by (with_reducible repeat (first | refine kN ?_ _ | refine kD ?_ | refine kA ?_ _)); refine kF ?_ NB155_184.out _; (with_reducible repeat (first | refine kN ?_ _ | refine kD ?_ | refine kA ?_ _)); refine kF ?_ NB155_184.out _; (with_reducible repeat (first | refine kN ?_ _ | refine kD ?_ | refine kA ?_ _)); refine kF ?_ NB155_184.out _; (with_reducible repeat (first | refine kN ?_ _ | refine kD ?_ | refine kA ?_ _)); refine kF ?_ NB155_184.out _; (with_reducible repeat (first | refine kN ?_ _ | refine kD ?_ | refine kA ?_ _)); exact BK155.out) hb); have n9_ := Aside0.mk (kB (g := gb156) (o := .cells #[.int .i64 a1_0, .int .i64 a1_1, .slice A1_2 l1_2.length c1_2, .slice A1_3 l1_3.length c1_3] 25 (0, 0)) (by (with_reducible repeat (first | refine kN ?_ _ | refine kD ?_ | refine kA ?_ _)); refine kF ?_ NB156_184.out _; (with_reducible repeat (first | refine kN ?_ _ | refine kD ?_ | refine kA ?_ _)); refine kF ?_ NB156_184.out _; (with_reducible repeat (first | refine kN ?_ _ | refine kD ?_ | refine kA ?_ _)); refine kF ?_ NB156_184.out _; (with_reducible repeat (first | refine kN ?_ _ | refine kD ?_ | refine kA ?_ _)); refine kF ?_ NB156_184.out _; (with_reducible repeat (first | refine kN ?_ _ | refine kD ?_ | refine kA ?_ _)); exact BK156.out) hb); have n10_ := Aside0.mk (kB (g := gb184) (o := .cells #[.int .i64 t176, .int .i64 t177, .slice Ao131 t178.length co131, .slice Ao132 t181.length co132] 30 (0, 0)) (by (with_reducible repeat (first | refine kN ?_ _ | refine kD ?_ | refine kA ?_ _)); refine blk_put (cs := #[.int .i64 t176, .int .i64 t177, .slice Ao131 t178.length co131, .slice none 0 0]) ?_ 3 _ rfl; (with_reducible repeat (first | refine kN ?_ _ | refine kD ?_ | refine kA ?_ _)); refine blk_put (cs := #[.int .i64 t176, .int .i64 t177, .slice none 0 0, .slice none 0 0]) ?_ 2 _ rfl; (with_reducible repeat (first | refine kN ?_ _ | refine kD ?_ | refine kA ?_ _)); refine blk_put (cs := #[.int .i64 t176, .int .i64 0, .slice none 0 0, .slice none 0 0]) ?_ 1 _ rfl; (with_reducible repeat (first | refine kN ?_ _ | refine kD ?_ | refine kA ?_ _)); refine blk_put (cs := #[.int .i64 0, .int .i64 0, .slice none 0 0, .slice none 0 0]) ?_ 0 _ rfl; (with_reducible repeat (first | refine kN ?_ _ | refine kD ?_ | refine kA ?_ _)); exact BK184.out) hb); have n11_ := Aside0.mk (bP z_ hb); clear HO163; clear HO166; clear HO171; clear HO174; clear HO180; clear HO183; clear BK155; clear BK156; clear BK184; clear HB; have HO163 := n0_; have HO166 := n1_; have HO171 := n2_; have HO174 := n3_; have HO180 := n4_; have HO183 := n5_; have HO189 := n6_; have HO192 := n7_; have BK155 := n8_; have BK156 := n9_; have BK184 := n10_; have HB := n11_; clear z_ n0_ n1_ n2_ n3_ n4_ n5_ n6_ n7_ n8_ n9_ n10_ n11_; (try clear hb); (try clear hb2); (try clear hk); (try clear hi); (try clear ho0); (try clear ho1)) | ((with_reducible refine gate_dst (N := 8) rfl ?_); refine bE ?hg (N := 8) ?hd (cs := #[.int .i64 0, .int .i64 0, .slice none 0 0, .slice none 0 0]) (t := 30) ?hr ?_; (case hd => rfl); (case hg => rfl); (case hr => first | (go_simp; done) | (go_simp; rfl)); intro gb193 hg w135 hbox hb; have z_ := bX hb (by repeat (first | (with_reducible first | exact HB.out | apply bA | apply bN | apply bD | refine bS ?_ GE155.out | refine bS ?_ GE156.out | refine bS ?_ GE184.out) | exact HB.out)); have n0_ := Aside0.mk (rB (rQ HO163) hb); have n1_ := Aside0.mk (rB (rQ HO166) hb); have n2_ := Aside0.mk (rB (rQ HO171) hb); have n3_ := Aside0.mk (rB (rQ HO174) hb); have n4_ := Aside0.mk (rB (rQ HO180) hb); have n5_ := Aside0.mk (rB (rQ HO183) hb); have n6_ := Aside0.mk (rB (rQ HO189) hb); have n7_ := Aside0.mk (rB (rQ HO192) hb); have n8_ := Aside0.mk (kB (kQ BK155) hb); have n9_ := Aside0.mk (kB (kQ BK156) hb); have n10_ := Aside0.mk (kB (kQ BK184) hb); have n11_ := Aside0.mk (bP z_ hb); have n12_ := Aside0.mk (hbox); have n13_ := Aside0.mk ((by rw [hg]; exact (bZ z_) : w.heap.size ≤ gb193)); have n14_ := Aside0.mk ((by rw [hg]; exact (bZ z_) : w.heap.size ≤ gb193)); have n15_ := Aside0.mk ((by rw [hg]; exact Nat.ne_of_lt (kL (kQ BK155)) : gb155 ≠ gb193)); have n16_ := Aside0.mk ((by rw [hg]; exact Nat.ne_of_gt (kL (kQ BK155)) : gb193 ≠ gb155)); have n17_ := Aside0.mk ((by rw [hg]; exact Nat.ne_of_lt (kL (kQ BK156)) : gb156 ≠ gb193)); have n18_ := Aside0.mk ((by rw [hg]; exact Nat.ne_of_gt (kL (kQ BK156)) : gb193 ≠ gb156)); have n19_ := Aside0.mk ((by rw [hg]; exact Nat.ne_of_lt (kL (kQ BK184)) : gb184 ≠ gb193)); have n20_ := Aside0.mk ((by rw [hg]; exact Nat.ne_of_gt (kL (kQ BK184)) : gb193 ≠ gb184)); clear HO163; clear HO166; clear HO171; clear HO174; clear HO180; clear HO183; clear HO189; clear HO192; clear BK155; clear BK156; clear BK184; clear HB; have HO163 := n0_; have HO166 := n1_; have HO171 := n2_; have HO174 := n3_; have HO180 := n4_; have HO183 := n5_; have HO189 := n6_; have HO192 := n7_; have BK155 := n8_; have BK156 := n9_; have BK184 := n10_; have HB := n11_; have BK193 := n12_; have GW193 := n13_; have GE193 := n14_; have NB155_193 := n15_; have NB193_155 := n16_; have NB156_193 := n17_; have NB193_156 := n18_; have NB184_193 := n19_; have NB193_184 := n20_; clear z_ n0_ n1_ n2_ n3_ n4_ n5_ n6_ n7_ n8_ n9_ n10_ n11_ n12_ n13_ n14_ n15_ n16_ n17_ n18_ n19_ n20_; clear hb hbox hg; have hnb136 := NB193_155.out; have hnc136 := NB155_193.out; have hnb137 := NB193_156.out; have hnc137 := NB156_193.out; have hnb138 := NB193_184.out; have hnc138 := NB184_193.out; have hcz139_0 : w135.cell? ⟨gb193, 0, none⟩ = some (.int .i64 0) := (kC BK193.out 0).trans rfl; have hcz139_1 : w135.cell? ⟨gb193, 1, none⟩ = some (.int .i64 0) := (kC BK193.out 1).trans rfl; have hcz139_2 : w135.cell? ⟨gb193, 2, none⟩ = some (.slice none 0 0) := (kC BK193.out 2).trans rfl; have hcz139_3 : w135.cell? ⟨gb193, 3, none⟩ = some (.slice none 0 0) := (kC BK193.out 3).trans rfl; have hfz139_0 := blk_frozen BK193.out 0; have hfz139_1 := blk_frozen BK193.out 1; have hfz139_2 := blk_frozen BK193.out 2; have hfz139_3 := blk_frozen BK193.out 3; obtain ⟨Ao140, co140, eo140⟩ := Kd.R_slice HO189.out; subst eo140; obtain ⟨Ao141, co141, eo141⟩ := Kd.R_slice HO192.out; subst eo141; have hcz142_0 : w135.cell? ⟨gb184, 0, none⟩ = some (.int .i64 t176) := (kC BK184.out 0).trans rfl; have hcz142_1 : w135.cell? ⟨gb184, 1, none⟩ = some (.int .i64 t177) := (kC BK184.out 1).trans rfl; have hcz142_2 : w135.cell? ⟨gb184, 2, none⟩ = some (.slice Ao131 t178.length co131) := (kC BK184.out 2).trans rfl; have hcz142_3 : w135.cell? ⟨gb184, 3, none⟩ = some (.slice Ao132 t181.length co132) := (kC BK184.out 3).trans rfl; have hfz142_0 := blk_frozen BK184.out 0; have hfz142_1 := blk_frozen BK184.out 1; have hfz142_2 := blk_frozen BK184.out 2; have hfz142_3 := blk_frozen BK184.out 3) | ((with_reducible refine gC (f := 18) rfl ?_); refine goesL_ (some 31) rfl rfl Try.func18 (by kernel_rfl) rfl #[.agg #[.int .i64 t176, .int .i64 t177, .slice Ao131 t178.length co131, .slice Ao132 t181.length co132], .agg #[.int .i64 t185, .int .i64 t186, .slice Ao140 t187.length co140, .slice Ao141 t190.length co141]] rfl lQ ?_; (with_reducible refine (impl_SameGrammar.calls k t176 t177 _ _ t178 _ _ t181 t185 t186 _ _ t187 _ _ t190 t194 _ ?side1 ?side2 ?side3 ?side4 ?side5 ?side6 ?side7 ?side8 A24.out).mono ?_); (case side1 => refine (Kd.R_reads' (e := 2) (base := w.heap.size) (ok := fun k_ => (((True ∧ some k_ ≠ (.slice Ao120 t161.length co120 : Value).ownBlock) ∧ some k_ ≠ (.slice Ao122 t169.length co122 : Value).ownBlock) ∧ some k_ ≠ (.slice Ao140 t187.length co140 : Value).ownBlock)) (n := t178.length) (c := co131) ?_).2.2; exact (by (with_reducible repeat (first | apply rA | apply rN | apply rD)); exact (rM (Kd.R_far (p := ⟨gb193, 3, none⟩) (Kd.R_far (p := ⟨gb193, 2, none⟩) (Kd.R_far (p := ⟨gb193, 1, none⟩) (Kd.R_far (p := ⟨gb193, 0, none⟩) (Kd.R_types HO180.out BK193.out (by decide)) (fun _ hk => hk.2) (.int .i64 t185)) (fun _ hk => hk.2) (.int .i64 t186)) (fun _ hk => hk.2) (.slice Ao140 t187.length co140)) (fun _ hk => hk.2) (.slice Ao141 t190.length co141)) (fun _ h_ => h_.1)))); (case side2 => exact (Kd.R_reads' HO180.out).2.1); (case side3 => refine (Kd.R_reads' (e := 67) (base := w.heap.size) (ok := fun k_ => (((True ∧ some k_ ≠ (.slice Ao121 t164.length co121 : Value).ownBlock) ∧ some k_ ≠ (.slice Ao123 t172.length co123 : Value).ownBlock) ∧ some k_ ≠ (.slice Ao141 t190.length co141 : Value).ownBlock)) (n := t181.length) (c := co132) ?_).2.2; exact (by (with_reducible repeat (first | apply rA | apply rN | apply rD)); exact (rM (Kd.R_far (p := ⟨gb193, 3, none⟩) (Kd.R_far (p := ⟨gb193, 2, none⟩) (Kd.R_far (p := ⟨gb193, 1, none⟩) (Kd.R_far (p := ⟨gb193, 0, none⟩) (Kd.R_types HO183.out BK193.out (by decide)) (fun _ hk => hk.2) (.int .i64 t185)) (fun _ hk => hk.2) (.int .i64 t186)) (fun _ hk => hk.2) (.slice Ao140 t187.length co140)) (fun _ hk => hk.2) (.slice Ao141 t190.length co141)) (fun _ h_ => h_.1)))); (case side4 => exact (Kd.R_reads' HO183.out).2.1); (case side5 => refine (Kd.R_reads' (e := 2) (base := w.heap.size) (ok := fun k_ => (((True ∧ some k_ ≠ (.slice Ao120 t161.length co120 : Value).ownBlock) ∧ some k_ ≠ (.slice Ao122 t169.length co122 : Value).ownBlock) ∧ some k_ ≠ (.slice Ao131 t178.length co131 : Value).ownBlock)) (n := t187.length) (c := co140) ?_).2.2; exact (by (with_reducible repeat (first | apply rA | apply rN | apply rD)); exact (rM (Kd.R_far (p := ⟨gb193, 3, none⟩) (Kd.R_far (p := ⟨gb193, 2, none⟩) (Kd.R_far (p := ⟨gb193, 1, none⟩) (Kd.R_far (p := ⟨gb193, 0, none⟩) (Kd.R_types HO189.out BK193.out (by decide)) (fun _ hk => hk.2) (.int .i64 t185)) (fun _ hk => hk.2) (.int .i64 t186)) (fun _ hk => hk.2) (.slice Ao140 t187.length co140)) (fun _ hk => hk.2) (.slice Ao141 t190.length co141)) (fun _ h_ => h_.1)))); (case side6 => exact (Kd.R_reads' HO189.out).2.1); (case side7 => refine (Kd.R_reads' (e := 67) (base := w.heap.size) (ok := fun k_ => (((True ∧ some k_ ≠ (.slice Ao121 t164.length co121 : Value).ownBlock) ∧ some k_ ≠ (.slice Ao123 t172.length co123 : Value).ownBlock) ∧ some k_ ≠ (.slice Ao132 t181.length co132 : Value).ownBlock)) (n := t190.length) (c := co141) ?_).2.2; exact (by (with_reducible repeat (first | apply rA | apply rN | apply rD)); exact (rM (Kd.R_far (p := ⟨gb193, 3, none⟩) (Kd.R_far (p := ⟨gb193, 2, none⟩) (Kd.R_far (p := ⟨gb193, 1, none⟩) (Kd.R_far (p := ⟨gb193, 0, none⟩) (Kd.R_types HO192.out BK193.out (by decide)) (fun _ hk => hk.2) (.int .i64 t185)) (fun _ hk => hk.2) (.int .i64 t186)) (fun _ hk => hk.2) (.slice Ao140 t187.length co140)) (fun _ hk => hk.2) (.slice Ao141 t190.length co141)) (fun _ h_ => h_.1)))); (case side8 => exact (Kd.R_reads' HO192.out).2.1); rintro e w143 ⟨rfl, hb⟩; refine ⟨_, rfl, ?_⟩; have n0_ := Aside0.mk (rB (by (with_reducible repeat (first | apply rA | apply rN | apply rD)); exact (rM (Kd.R_far (p := ⟨gb193, 3, none⟩) (Kd.R_far (p := ⟨gb193, 2, none⟩) (Kd.R_far (p := ⟨gb193, 1, none⟩) (Kd.R_far (p := ⟨gb193, 0, none⟩) (Kd.R_types HO163.out BK193.out (by decide)) (fun _ hk => hk.2) (.int .i64 t185)) (fun _ hk => hk.2) (.int .i64 t186)) (fun _ hk => hk.2) (.slice Ao140 t187.length co140)) (fun _ hk => hk.2) (.slice Ao141 t190.length co141)) (fun _ h_ => h_.1))) hb); have n1_ := Aside0.mk (rB (by (with_reducible repeat (first | apply rA | apply rN | apply rD)); exact (rM (Kd.R_far (p := ⟨gb193, 3, none⟩) (Kd.R_far (p := ⟨gb193, 2, none⟩) (Kd.R_far (p := ⟨gb193, 1, none⟩) (Kd.R_far (p := ⟨gb193, 0, none⟩) (Kd.R_types HO166.out BK193.out (by decide)) (fun _ hk => hk.2) (.int .i64 t185)) (fun _ hk => hk.2) (.int .i64 t186)) (fun _ hk => hk.2) (.slice Ao140 t187.length co140)) (fun _ hk => hk.2) (.slice Ao141 t190.length co141)) (fun _ h_ => h_.1))) hb); have n2_ := Aside0.mk (rB (by (with_reducible repeat (first | apply rA | apply rN | apply rD)); exact (rM (Kd.R_far (p := ⟨gb193, 3, none⟩) (Kd.R_far (p := ⟨gb193, 2, none⟩) (Kd.R_far (p := ⟨gb193, 1, none⟩) (Kd.R_far (p := ⟨gb193, 0, none⟩) (Kd.R_types HO171.out BK193.out (by decide)) (fun _ hk => hk.2) (.int .i64 t185)) (fun _ hk => hk.2) (.int .i64 t186)) (fun _ hk => hk.2) (.slice Ao140 t187.length co140)) (fun _ hk => hk.2) (.slice Ao141 t190.length co141)) (fun _ h_ => h_.1))) hb); have n3_ := Aside0.mk (rB (by (with_reducible repeat (first | apply rA | apply rN | apply rD)); exact (rM (Kd.R_far (p := ⟨gb193, 3, none⟩) (Kd.R_far (p := ⟨gb193, 2, none⟩) (Kd.R_far (p := ⟨gb193, 1, none⟩) (Kd.R_far (p := ⟨gb193, 0, none⟩) (Kd.R_types HO174.out BK193.out (by decide)) (fun _ hk => hk.2) (.int .i64 t185)) (fun _ hk => hk.2) (.int .i64 t186)) (fun _ hk => hk.2) (.slice Ao140 t187.length co140)) (fun _ hk => hk.2) (.slice Ao141 t190.length co141)) (fun _ h_ => h_.1))) hb); have n4_ := Aside0.mk (rB (by (with_reducible repeat (first | apply rA | apply rN | apply rD)); exact (rM (Kd.R_far (p := ⟨gb193, 3, none⟩) (Kd.R_far (p := ⟨gb193, 2, none⟩) (Kd.R_far (p := ⟨gb193, 1, none⟩) (Kd.R_far (p := ⟨gb193, 0, none⟩) (Kd.R_types HO180.out BK193.out (by decide)) (fun _ hk => hk.2) (.int .i64 t185)) (fun _ hk => hk.2) (.int .i64 t186)) (fun _ hk => hk.2) (.slice Ao140 t187.length co140)) (fun _ hk => hk.2) (.slice Ao141 t190.length co141)) (fun _ h_ => h_.1))) hb); have n5_ := Aside0.mk (rB (by (with_reducible repeat (first | apply rA | apply rN | apply rD)); exact (rM (Kd.R_far (p := ⟨gb193, 3, none⟩) (Kd.R_far (p := ⟨gb193, 2, none⟩) (Kd.R_far (p := ⟨gb193, 1, none⟩) (Kd.R_far (p := ⟨gb193, 0, none⟩) (Kd.R_types HO183.out BK193.out (by decide)) (fun _ hk => hk.2) (.int .i64 t185)) (fun _ hk => hk.2) (.int .i64 t186)) (fun _ hk => hk.2) (.slice Ao140 t187.length co140)) (fun _ hk => hk.2) (.slice Ao141 t190.length co141)) (fun _ h_ => h_.1))) hb); have n6_ := Aside0.mk (rB (by (with_reducible repeat (first | apply rA | apply rN | apply rD)); exact (rM (Kd.R_far (p := ⟨gb193, 3, none⟩) (Kd.R_far (p := ⟨gb193, 2, none⟩) (Kd.R_far (p := ⟨gb193, 1, none⟩) (Kd.R_far (p := ⟨gb193, 0, none⟩) (Kd.R_types HO189.out BK193.out (by decide)) (fun _ hk => hk.2) (.int .i64 t185)) (fun _ hk => hk.2) (.int .i64 t186)) (fun _ hk => hk.2) (.slice Ao140 t187.length co140)) (fun _ hk => hk.2) (.slice Ao141 t190.length co141)) (fun _ h_ => h_.1))) hb); have n7_ := Aside0.mk (rB (by (with_reducible repeat (first | apply rA | apply rN | apply rD)); exact (rM (Kd.R_far (p := ⟨gb193, 3, none⟩) (Kd.R_far (p := ⟨gb193, 2, none⟩) (Kd.R_far (p := ⟨gb193, 1, none⟩) (Kd.R_far (p := ⟨gb193, 0, none⟩) (Kd.R_types HO192.out BK193.out (by decide)) (fun _ hk => hk.2) (.int .i64 t185)) (fun _ hk => hk.2) (.int .i64 t186)) (fun _ hk => hk.2) (.slice Ao140 t187.length co140)) (fun _ hk => hk.2) (.slice Ao141 t190.length co141)) (fun _ h_ => h_.1))) hb); have n8_ := Aside0.mk (kB (g := gb155) (o := .cells #[.int .i64 a0_0, .int .i64 a0_1, .slice A0_2 l0_2.length c0_2, .slice A0_3 l0_3.length c0_3] 25 (0, 0)) (by (with_reducible repeat (first | refine kN ?_ _ | refine kD ?_ | refine kA ?_ _)); refine kF ?_ NB155_193.out _; (with_reducible repeat (first | refine kN ?_ _ | refine kD ?_ | refine kA ?_ _)); refine kF ?_ NB155_193.out _; (with_reducible repeat (first | refine kN ?_ _ | refine kD ?_ | refine kA ?_ _)); refine kF ?_ NB155_193.out _; (with_reducible repeat (first | refine kN ?_ _ | refine kD ?_ | refine kA ?_ _)); refine kF ?_ NB155_193.out _; (with_reducible repeat (first | refine kN ?_ _ | refine kD ?_ | refine kA ?_ _)); exact BK155.out) hb); have n9_ := Aside0.mk (kB (g := gb156) (o := .cells #[.int .i64 a1_0, .int .i64 a1_1, .slice A1_2 l1_2.length c1_2, .slice A1_3 l1_3.length c1_3] 25 (0, 0)) (by (with_reducible repeat (first | refine kN ?_ _ | refine kD ?_ | refine kA ?_ _)); refine kF ?_ NB156_193.out _; (with_reducible repeat (first | refine kN ?_ _ | refine kD ?_ | refine kA ?_ _)); refine kF ?_ NB156_193.out _; (with_reducible repeat (first | refine kN ?_ _ | refine kD ?_ | refine kA ?_ _)); refine kF ?_ NB156_193.out _; (with_reducible repeat (first | refine kN ?_ _ | refine kD ?_ | refine kA ?_ _)); refine kF ?_ NB156_193.out _; (with_reducible repeat (first | refine kN ?_ _ | refine kD ?_ | refine kA ?_ _)); exact BK156.out) hb); have n10_ := Aside0.mk (kB (g := gb184) (o := .cells #[.int .i64 t176, .int .i64 t177, .slice Ao131 t178.length co131, .slice Ao132 t181.length co132] 30 (0, 0)) (by (with_reducible repeat (first | refine kN ?_ _ | refine kD ?_ | refine kA ?_ _)); refine kF ?_ NB184_193.out _; (with_reducible repeat (first | refine kN ?_ _ | refine kD ?_ | refine kA ?_ _)); refine kF ?_ NB184_193.out _; (with_reducible repeat (first | refine kN ?_ _ | refine kD ?_ | refine kA ?_ _)); refine kF ?_ NB184_193.out _; (with_reducible repeat (first | refine kN ?_ _ | refine kD ?_ | refine kA ?_ _)); refine kF ?_ NB184_193.out _; (with_reducible repeat (first | refine kN ?_ _ | refine kD ?_ | refine kA ?_ _)); exact BK184.out) hb); have n11_ := Aside0.mk (kB (g := gb193) (o := .cells #[.int .i64 t185, .int .i64 t186, .slice Ao140 t187.length co140, .slice Ao141 t190.length co141] 30 (0, 0)) (by (with_reducible repeat (first | refine kN ?_ _ | refine kD ?_ | refine kA ?_ _)); refine blk_put (cs := #[.int .i64 t185, .int .i64 t186, .slice Ao140 t187.length co140, .slice none 0 0]) ?_ 3 _ rfl; (with_reducible repeat (first | refine kN ?_ _ | refine kD ?_ | refine kA ?_ _)); refine blk_put (cs := #[.int .i64 t185, .int .i64 t186, .slice none 0 0, .slice none 0 0]) ?_ 2 _ rfl; (with_reducible repeat (first | refine kN ?_ _ | refine kD ?_ | refine kA ?_ _)); refine blk_put (cs := #[.int .i64 t185, .int .i64 0, .slice none 0 0, .slice none 0 0]) ?_ 1 _ rfl; (with_reducible repeat (first | refine kN ?_ _ | refine kD ?_ | refine kA ?_ _)); refine blk_put (cs := #[.int .i64 0, .int .i64 0, .slice none 0 0, .slice none 0 0]) ?_ 0 _ rfl; (with_reducible repeat (first | refine kN ?_ _ | refine kD ?_ | refine kA ?_ _)); exact BK193.out) hb); have n12_ := Aside0.mk (bP (by repeat (first | (with_reducible first | exact HB.out | apply bA | apply bN | apply bD | refine bS ?_ GE155.out | refine bS ?_ GE156.out | refine bS ?_ GE184.out | refine bS ?_ GE193.out) | exact HB.out)) hb); clear HO163; clear HO166; clear HO171; clear HO174; clear HO180; clear HO183; clear HO189; clear HO192; clear BK155; clear BK156; clear BK184; clear BK193; clear HB; have HO163 := n0_; have HO166 := n1_; have HO171 := n2_; have HO174 := n3_; have HO180 := n4_; have HO183 := n5_; have HO189 := n6_; have HO192 := n7_; have BK155 := n8_; have BK156 := n9_; have BK184 := n10_; have BK193 := n11_; have HB := n12_; clear n0_ n1_ n2_ n3_ n4_ n5_ n6_ n7_ n8_ n9_ n10_ n11_ n12_; (try clear hb); (try clear hb2); (try clear hk); (try clear hi)))
      have n0_ := Aside0.mk (rD HO163.out)
      have n1_ := Aside0.mk (rD HO166.out)
      have n2_ := Aside0.mk (rD HO171.out)
      have n3_ := Aside0.mk (rD HO174.out)
      have n4_ := Aside0.mk (rD HO180.out)
      have n5_ := Aside0.mk (rD HO183.out)
      have n6_ := Aside0.mk (rD HO189.out)
      have n7_ := Aside0.mk (rD HO192.out)
      have n8_ := Aside0.mk (kD BK155.out)
      have n9_ := Aside0.mk (kD BK156.out)
      have n10_ := Aside0.mk (kD BK184.out)
      have n11_ := Aside0.mk (kD BK193.out)
      have n12_ := Aside0.mk (bD HB.out)
      clear HO163
      clear HO166
      clear HO171
      clear HO174
      clear HO180
      clear HO183
      clear HO189
      clear HO192
      clear BK155
      clear BK156
      clear BK184
      clear BK193
      clear HB
      have HO163 := n0_
      have HO166 := n1_
      have HO171 := n2_
      have HO174 := n3_
      have HO180 := n4_
      have HO183 := n5_
      have HO189 := n6_
      have HO192 := n7_
      have BK155 := n8_
      have BK156 := n9_
      have BK184 := n10_
      have BK193 := n11_
      have HB := n12_
      clear n0_ n1_ n2_ n3_ n4_ n5_ n6_ n7_ n8_ n9_ n10_ n11_ n12_
      refine start_ (n := 5) (S := fun w' => w'.cell? ⟨gb184, 0, none⟩ = some (.int .i64 t176) ∧ w'.cell? ⟨gb184, 1, none⟩ = some (.int .i64 t177) ∧ w'.cell? ⟨gb184, 2, none⟩ = some (.slice Ao131 t178.length co131) ∧ w'.cell? ⟨gb184, 3, none⟩ = some (.slice Ao132 t181.length co132) ∧ w'.cell? ⟨gb155, 0, none⟩ = some (.int .i64 a0_0) ∧ w'.cell? ⟨gb155, 1, none⟩ = some (.int .i64 a0_1) ∧ w'.cell? ⟨gb155, 2, none⟩ = some (.slice A0_2 l0_2.length c0_2) ∧ w'.cell? ⟨gb155, 3, none⟩ = some (.slice A0_3 l0_3.length c0_3)) (ds := []) #[F,F,F,F,F] (by kernel_rfl) rfl rfl ⟨(kC BK184.out 0).trans rfl, (kC BK184.out 1).trans rfl, (kC BK184.out 2).trans rfl, (kC BK184.out 3).trans rfl, (kC BK155.out 0).trans rfl, (kC BK155.out 1).trans rfl, (kC BK155.out 2).trans rfl, (kC BK155.out 3).trans rfl⟩ (fun hHeld => ?_)
      generalize w143.drew = w144 at HO163 HO166 HO171 HO174 HO180 HO183 HO189 HO192 BK155 BK156 BK184 BK193 HB hHeld ⊢
      refine take_ (i := 0) (N := some 35) (v := ?_) (a' := ?_) #[T,F,F,F,F] rfl rfl (by kernel_rfl) (fun _ _ _ h => h) (Or.inl ⟨by rfl, ?_⟩) hHeld ?_ ?_; rotate_left; (·rintro w' ⟨s0, s1, s2, s3, s4, s5, s6, s7⟩; go_simp; with_reducible rfl); rotate_left; (·simp only [Act.put, sI, sZ, sS, iW, jW]; rfl)
      refine take_ (i := 1) (N := some 36) (v := ?_) (a' := ?_) #[T,T,F,F,F] rfl rfl (by kernel_rfl) (fun _ _ _ h => h) (Or.inl ⟨by rfl, ?_⟩) hHeld ?_ ?_; rotate_left; (·rintro w' ⟨s0, s1, s2, s3, s4, s5, s6, s7⟩; go_simp; with_reducible rfl); rotate_left; (·simp only [Act.put, sI, sZ, sS, iW, jW]; rfl)
      refine one_ (i := 2) (N := some 37) #[T,T,T,F,F] rfl rfl (by kernel_rfl) (by decide) (fun K hK => ?_)
      refine goes_ Try.func17 (by kernel_rfl) rfl #[.agg #[.int .i64 a0_0, .int .i64 a0_1, .slice A0_2 l0_2.length c0_2, .slice A0_3 l0_3.length c0_3]] (by rfl) rfl rfl lQ ?_
      with_reducible refine (laws_toGrammar.calls k a0_0 a0_1 _ _ l0_2 _ _ l0_3 t195 t196 t197 t200 _ ?side1 ?side2 ?side3 ?side4 A60.out).mono ?_
      (case side1 => repeat (first | exact (cB HR0_2.out HB.out) | (with_reducible refine cA ?_ _) | (with_reducible refine cN ?_ _) | (with_reducible refine cD ?_)))
      (case side2 => exact HC0_2.out)
      (case side3 => repeat (first | exact (cB HR0_3.out HB.out) | (with_reducible refine cA ?_ _) | (with_reducible refine cN ?_ _) | (with_reducible refine cD ?_)))
      (case side4 => exact HC0_3.out)
      rintro e w145 ⟨v198, v201, rfl, ho0, ho1, hb⟩
      refine ⟨_, rfl, ?_⟩
      have z_ := bX hb (by repeat (first | (with_reducible first | exact HB.out | apply bA | apply bN | apply bD | refine bS ?_ GE155.out | refine bS ?_ GE156.out | refine bS ?_ GE184.out | refine bS ?_ GE193.out) | exact HB.out))
      have n0_ := Aside0.mk (rE (rQ HO163) (Kd.R_base ho0) hb)
      have n1_ := Aside0.mk (rE (rQ HO166) (Kd.R_base ho1) hb)
      have n2_ := Aside0.mk (rE (rQ HO171) (Kd.R_base ho0) hb)
      have n3_ := Aside0.mk (rE (rQ HO174) (Kd.R_base ho1) hb)
      have n4_ := Aside0.mk (rE (rQ HO180) (Kd.R_base ho0) hb)
      have n5_ := Aside0.mk (rE (rQ HO183) (Kd.R_base ho1) hb)
      have n6_ := Aside0.mk (rE (rQ HO189) (Kd.R_base ho0) hb)
      have n7_ := Aside0.mk (rE (rQ HO192) (Kd.R_base ho1) hb)
      have n8_ := Aside0.mk (rL (rW (rW (rW (rW ho0 (rT (rQ HO163))) (rT (rQ HO171))) (rT (rQ HO180))) (rT (rQ HO189))) (bZ z_))
      have n9_ := Aside0.mk (rL (rW (rW (rW (rW ho1 (rT (rQ HO166))) (rT (rQ HO174))) (rT (rQ HO183))) (rT (rQ HO192))) (bZ z_))
      have n10_ := Aside0.mk (kB (kQ BK155) hb)
      have n11_ := Aside0.mk (kB (kQ BK156) hb)
      have n12_ := Aside0.mk (kB (kQ BK184) hb)
      have n13_ := Aside0.mk (kB (kQ BK193) hb)
      have n14_ := Aside0.mk (bP z_ hb)
      clear HO163
      clear HO166
      clear HO171
      clear HO174
      clear HO180
      clear HO183
      clear HO189
      clear HO192
      clear BK155
      clear BK156
      clear BK184
      clear BK193
      clear HB
      have HO163 := n0_
      have HO166 := n1_
      have HO171 := n2_
      have HO174 := n3_
      have HO180 := n4_
      have HO183 := n5_
      have HO189 := n6_
      have HO192 := n7_
      have HO199 := n8_
      have HO202 := n9_
      have BK155 := n10_
      have BK156 := n11_
      have BK184 := n12_
      have BK193 := n13_
      have HB := n14_
      clear z_ n0_ n1_ n2_ n3_ n4_ n5_ n6_ n7_ n8_ n9_ n10_ n11_ n12_ n13_ n14_
      (try clear hb)
      (try clear hb2)
      (try clear hk)
      (try clear hi)
      (try clear ho0)
      (try clear ho1)
      obtain ⟨Ao146, co146, eo146⟩ := Kd.R_slice HO199.out
      (first | subst eo146 | (injection eo146 with f1_ f2_ f3_; have f4_ := f1_.symm; have f5_ := f3_.symm; clear f1_ f2_ f3_; subst f4_; subst f5_))
      obtain ⟨Ao147, co147, eo147⟩ := Kd.R_slice HO202.out
      (first | subst eo147 | (injection eo147 with f1_ f2_ f3_; have f4_ := f1_.symm; have f5_ := f3_.symm; clear f1_ f2_ f3_; subst f4_; subst f5_))
      refine hK.out _ _ ⟨(kC BK184.out 0).trans rfl, (kC BK184.out 1).trans rfl, (kC BK184.out 2).trans rfl, (kC BK184.out 3).trans rfl, (kC BK155.out 0).trans rfl, (kC BK155.out 1).trans rfl, (kC BK155.out 2).trans rfl, (kC BK155.out 3).trans rfl⟩ (fun hHeld => ?_)
      clear hK K
      refine norm_ (a' := ?_) ?_ ?_
      rotate_left
      ·show Act.put _ (some 37) _ = _
       simp only [Act.put, sI, sZ, sS, iW, jW]
       rfl
      refine one_ (i := 3) (N := some 38) #[T,T,T,T,F] rfl rfl (by kernel_rfl) (by decide) (fun K hK => ?_)
      refine goes_ Try.func19 (by kernel_rfl) rfl #[.agg #[.int .i64 t176, .int .i64 t177, .slice Ao131 t178.length co131, .slice Ao132 t181.length co132], .agg #[.int .i64 t195, .int .i64 t196, .slice Ao146 t197.length co146, .slice Ao147 t200.length co147]] (by rfl) rfl rfl lQ ?_
      with_reducible refine (laws_eqGrammar.calls k t176 t177 _ _ t178 _ _ t181 t195 t196 _ _ t197 _ _ t200 true _ ?side1 ?side2 ?side3 ?side4 ?side5 ?side6 ?side7 ?side8 A61.out).mono ?_
      (case side1 => repeat (first | exact (Kd.R_reads' HO180.out).2.2 | (with_reducible refine cA ?_ _) | (with_reducible refine cN ?_ _) | (with_reducible refine cD ?_)))
      (case side2 => exact (Kd.R_reads' HO180.out).2.1)
      (case side3 => repeat (first | exact (Kd.R_reads' HO183.out).2.2 | (with_reducible refine cA ?_ _) | (with_reducible refine cN ?_ _) | (with_reducible refine cD ?_)))
      (case side4 => exact (Kd.R_reads' HO183.out).2.1)
      (case side5 => repeat (first | exact (Kd.R_reads' HO199.out).2.2 | (with_reducible refine cA ?_ _) | (with_reducible refine cN ?_ _) | (with_reducible refine cD ?_)))
      (case side6 => exact (Kd.R_reads' HO199.out).2.1)
      (case side7 => repeat (first | exact (Kd.R_reads' HO202.out).2.2 | (with_reducible refine cA ?_ _) | (with_reducible refine cN ?_ _) | (with_reducible refine cD ?_)))
      (case side8 => exact (Kd.R_reads' HO202.out).2.1)
      rintro e w148 ⟨rfl, hb⟩
      refine ⟨_, rfl, ?_⟩
      have n0_ := Aside0.mk (rB (rQ HO163) hb)
      have n1_ := Aside0.mk (rB (rQ HO166) hb)
      have n2_ := Aside0.mk (rB (rQ HO171) hb)
      have n3_ := Aside0.mk (rB (rQ HO174) hb)
      have n4_ := Aside0.mk (rB (rQ HO180) hb)
      have n5_ := Aside0.mk (rB (rQ HO183) hb)
      have n6_ := Aside0.mk (rB (rQ HO189) hb)
      have n7_ := Aside0.mk (rB (rQ HO192) hb)
      have n8_ := Aside0.mk (rB (rQ HO199) hb)
      have n9_ := Aside0.mk (rB (rQ HO202) hb)
      have n10_ := Aside0.mk (kB (kQ BK155) hb)
      have n11_ := Aside0.mk (kB (kQ BK156) hb)
      have n12_ := Aside0.mk (kB (kQ BK184) hb)
      have n13_ := Aside0.mk (kB (kQ BK193) hb)
      have n14_ := Aside0.mk (bP (by repeat (first | (with_reducible first | exact HB.out | apply bA | apply bN | apply bD | refine bS ?_ GE155.out | refine bS ?_ GE156.out | refine bS ?_ GE184.out | refine bS ?_ GE193.out) | exact HB.out)) hb)
      clear HO163
      clear HO166
      clear HO171
      clear HO174
      clear HO180
      clear HO183
      clear HO189
      clear HO192
      clear HO199
      clear HO202
      clear BK155
      clear BK156
      clear BK184
      clear BK193
      clear HB
      have HO163 := n0_
      have HO166 := n1_
      have HO171 := n2_
      have HO174 := n3_
      have HO180 := n4_
      have HO183 := n5_
      have HO189 := n6_
      have HO192 := n7_
      have HO199 := n8_
      have HO202 := n9_
      have BK155 := n10_
      have BK156 := n11_
      have BK184 := n12_
      have BK193 := n13_
      have HB := n14_
      clear n0_ n1_ n2_ n3_ n4_ n5_ n6_ n7_ n8_ n9_ n10_ n11_ n12_ n13_ n14_
      (try clear hb)
      (try clear hb2)
      (try clear hk)
      (try clear hi)
      refine hK.out _ _ ⟨(kC BK184.out 0).trans rfl, (kC BK184.out 1).trans rfl, (kC BK184.out 2).trans rfl, (kC BK184.out 3).trans rfl, (kC BK155.out 0).trans rfl, (kC BK155.out 1).trans rfl, (kC BK155.out 2).trans rfl, (kC BK155.out 3).trans rfl⟩ (fun hHeld => ?_)
      clear hK K
      refine norm_ (a' := ?_) ?_ ?_
      rotate_left
      ·show Act.put _ (some 38) _ = _
       simp only [Act.put, sI, sZ, sS, iW, jW]
       rfl
      refine pure_ (i := 4) (N := some 39) (v := ?_) (a' := ?_) #[T,T,T,T,T] rfl rfl (by kernel_rfl) (fun _ _ _ h => h) (Or.inl ⟨by rfl, ?_⟩) ?_ ?_; rotate_left; (·intro w'; go_simp; with_reducible rfl); rotate_left; (·simp only [Act.put, sI, sZ, sS, iW, jW]; rfl)
      refine done_ (by kernel_rfl) ?_
      try go_wp2
      have n0_ := Aside0.mk (rD HO163.out)
      have n1_ := Aside0.mk (rD HO166.out)
      have n2_ := Aside0.mk (rD HO171.out)
      have n3_ := Aside0.mk (rD HO174.out)
      have n4_ := Aside0.mk (rD HO180.out)
      have n5_ := Aside0.mk (rD HO183.out)
      have n6_ := Aside0.mk (rD HO189.out)
      have n7_ := Aside0.mk (rD HO192.out)
      have n8_ := Aside0.mk (rD HO199.out)
      have n9_ := Aside0.mk (rD HO202.out)
      have n10_ := Aside0.mk (kD BK155.out)
      have n11_ := Aside0.mk (kD BK156.out)
      have n12_ := Aside0.mk (kD BK184.out)
      have n13_ := Aside0.mk (kD BK193.out)
      have n14_ := Aside0.mk (bD HB.out)
      clear HO163
      clear HO166
      clear HO171
      clear HO174
      clear HO180
      clear HO183
      clear HO189
      clear HO192
      clear HO199
      clear HO202
      clear BK155
      clear BK156
      clear BK184
      clear BK193
      clear HB
      have HO163 := n0_
      have HO166 := n1_
      have HO171 := n2_
      have HO174 := n3_
      have HO180 := n4_
      have HO183 := n5_
      have HO189 := n6_
      have HO192 := n7_
      have HO199 := n8_
      have HO202 := n9_
      have BK155 := n10_
      have BK156 := n11_
      have BK184 := n12_
      have BK193 := n13_
      have HB := n14_
      clear n0_ n1_ n2_ n3_ n4_ n5_ n6_ n7_ n8_ n9_ n10_ n11_ n12_ n13_ n14_
      refine start_ (n := 5) (S := fun w' => w'.cell? ⟨gb193, 0, none⟩ = some (.int .i64 t185) ∧ w'.cell? ⟨gb193, 1, none⟩ = some (.int .i64 t186) ∧ w'.cell? ⟨gb193, 2, none⟩ = some (.slice Ao140 t187.length co140) ∧ w'.cell? ⟨gb193, 3, none⟩ = some (.slice Ao141 t190.length co141) ∧ w'.cell? ⟨gb156, 0, none⟩ = some (.int .i64 a1_0) ∧ w'.cell? ⟨gb156, 1, none⟩ = some (.int .i64 a1_1) ∧ w'.cell? ⟨gb156, 2, none⟩ = some (.slice A1_2 l1_2.length c1_2) ∧ w'.cell? ⟨gb156, 3, none⟩ = some (.slice A1_3 l1_3.length c1_3)) (ds := []) #[F,F,F,F,F] (by kernel_rfl) rfl rfl ⟨(kC BK193.out 0).trans rfl, (kC BK193.out 1).trans rfl, (kC BK193.out 2).trans rfl, (kC BK193.out 3).trans rfl, (kC BK156.out 0).trans rfl, (kC BK156.out 1).trans rfl, (kC BK156.out 2).trans rfl, (kC BK156.out 3).trans rfl⟩ (fun hHeld => ?_)
      generalize w148.drew = w149 at HO163 HO166 HO171 HO174 HO180 HO183 HO189 HO192 HO199 HO202 BK155 BK156 BK184 BK193 HB hHeld ⊢
      refine take_ (i := 0) (N := some 40) (v := ?_) (a' := ?_) #[T,F,F,F,F] rfl rfl (by kernel_rfl) (fun _ _ _ h => h) (Or.inl ⟨by rfl, ?_⟩) hHeld ?_ ?_; rotate_left; (·rintro w' ⟨s0, s1, s2, s3, s4, s5, s6, s7⟩; go_simp; with_reducible rfl); rotate_left; (·simp only [Act.put, sI, sZ, sS, iW, jW]; rfl)
      refine take_ (i := 1) (N := some 41) (v := ?_) (a' := ?_) #[T,T,F,F,F] rfl rfl (by kernel_rfl) (fun _ _ _ h => h) (Or.inl ⟨by rfl, ?_⟩) hHeld ?_ ?_; rotate_left; (·rintro w' ⟨s0, s1, s2, s3, s4, s5, s6, s7⟩; go_simp; with_reducible rfl); rotate_left; (·simp only [Act.put, sI, sZ, sS, iW, jW]; rfl)
      refine one_ (i := 2) (N := some 42) #[T,T,T,F,F] rfl rfl (by kernel_rfl) (by decide) (fun K hK => ?_)
      refine goes_ Try.func17 (by kernel_rfl) rfl #[.agg #[.int .i64 a1_0, .int .i64 a1_1, .slice A1_2 l1_2.length c1_2, .slice A1_3 l1_3.length c1_3]] (by rfl) rfl rfl lQ ?_
      with_reducible refine (laws_toGrammar.calls k a1_0 a1_1 _ _ l1_2 _ _ l1_3 t204 t205 t206 t209 _ ?side1 ?side2 ?side3 ?side4 A63.out).mono ?_
      (case side1 => repeat (first | exact (cB HR1_2.out HB.out) | (with_reducible refine cA ?_ _) | (with_reducible refine cN ?_ _) | (with_reducible refine cD ?_)))
      (case side2 => exact HC1_2.out)
      (case side3 => repeat (first | exact (cB HR1_3.out HB.out) | (with_reducible refine cA ?_ _) | (with_reducible refine cN ?_ _) | (with_reducible refine cD ?_)))
      (case side4 => exact HC1_3.out)
      rintro e w150 ⟨v207, v210, rfl, ho0, ho1, hb⟩
      refine ⟨_, rfl, ?_⟩
      have z_ := bX hb (by repeat (first | (with_reducible first | exact HB.out | apply bA | apply bN | apply bD | refine bS ?_ GE155.out | refine bS ?_ GE156.out | refine bS ?_ GE184.out | refine bS ?_ GE193.out) | exact HB.out))
      have n0_ := Aside0.mk (rE (rQ HO163) (Kd.R_base ho0) hb)
      have n1_ := Aside0.mk (rE (rQ HO166) (Kd.R_base ho1) hb)
      have n2_ := Aside0.mk (rE (rQ HO171) (Kd.R_base ho0) hb)
      have n3_ := Aside0.mk (rE (rQ HO174) (Kd.R_base ho1) hb)
      have n4_ := Aside0.mk (rE (rQ HO180) (Kd.R_base ho0) hb)
      have n5_ := Aside0.mk (rE (rQ HO183) (Kd.R_base ho1) hb)
      have n6_ := Aside0.mk (rE (rQ HO189) (Kd.R_base ho0) hb)
      have n7_ := Aside0.mk (rE (rQ HO192) (Kd.R_base ho1) hb)
      have n8_ := Aside0.mk (rE (rQ HO199) (Kd.R_base ho0) hb)
      have n9_ := Aside0.mk (rE (rQ HO202) (Kd.R_base ho1) hb)
      have n10_ := Aside0.mk (rL (rW (rW (rW (rW (rW ho0 (rT (rQ HO163))) (rT (rQ HO171))) (rT (rQ HO180))) (rT (rQ HO189))) (rT (rQ HO199))) (bZ z_))
      have n11_ := Aside0.mk (rL (rW (rW (rW (rW (rW ho1 (rT (rQ HO166))) (rT (rQ HO174))) (rT (rQ HO183))) (rT (rQ HO192))) (rT (rQ HO202))) (bZ z_))
      have n12_ := Aside0.mk (kB (kQ BK155) hb)
      have n13_ := Aside0.mk (kB (kQ BK156) hb)
      have n14_ := Aside0.mk (kB (kQ BK184) hb)
      have n15_ := Aside0.mk (kB (kQ BK193) hb)
      have n16_ := Aside0.mk (bP z_ hb)
      clear HO163
      clear HO166
      clear HO171
      clear HO174
      clear HO180
      clear HO183
      clear HO189
      clear HO192
      clear HO199
      clear HO202
      clear BK155
      clear BK156
      clear BK184
      clear BK193
      clear HB
      have HO163 := n0_
      have HO166 := n1_
      have HO171 := n2_
      have HO174 := n3_
      have HO180 := n4_
      have HO183 := n5_
      have HO189 := n6_
      have HO192 := n7_
      have HO199 := n8_
      have HO202 := n9_
      have HO208 := n10_
      have HO211 := n11_
      have BK155 := n12_
      have BK156 := n13_
      have BK184 := n14_
      have BK193 := n15_
      have HB := n16_
      clear z_ n0_ n1_ n2_ n3_ n4_ n5_ n6_ n7_ n8_ n9_ n10_ n11_ n12_ n13_ n14_ n15_ n16_
      (try clear hb)
      (try clear hb2)
      (try clear hk)
      (try clear hi)
      (try clear ho0)
      (try clear ho1)
      obtain ⟨Ao151, co151, eo151⟩ := Kd.R_slice HO208.out
      (first | subst eo151 | (injection eo151 with f1_ f2_ f3_; have f4_ := f1_.symm; have f5_ := f3_.symm; clear f1_ f2_ f3_; subst f4_; subst f5_))
      obtain ⟨Ao152, co152, eo152⟩ := Kd.R_slice HO211.out
      (first | subst eo152 | (injection eo152 with f1_ f2_ f3_; have f4_ := f1_.symm; have f5_ := f3_.symm; clear f1_ f2_ f3_; subst f4_; subst f5_))
      refine hK.out _ _ ⟨(kC BK193.out 0).trans rfl, (kC BK193.out 1).trans rfl, (kC BK193.out 2).trans rfl, (kC BK193.out 3).trans rfl, (kC BK156.out 0).trans rfl, (kC BK156.out 1).trans rfl, (kC BK156.out 2).trans rfl, (kC BK156.out 3).trans rfl⟩ (fun hHeld => ?_)
      clear hK K
      refine norm_ (a' := ?_) ?_ ?_
      rotate_left
      ·show Act.put _ (some 42) _ = _
       simp only [Act.put, sI, sZ, sS, iW, jW]
       rfl
      refine one_ (i := 3) (N := some 43) #[T,T,T,T,F] rfl rfl (by kernel_rfl) (by decide) (fun K hK => ?_)
      refine goes_ Try.func19 (by kernel_rfl) rfl #[.agg #[.int .i64 t185, .int .i64 t186, .slice Ao140 t187.length co140, .slice Ao141 t190.length co141], .agg #[.int .i64 t204, .int .i64 t205, .slice Ao151 t206.length co151, .slice Ao152 t209.length co152]] (by rfl) rfl rfl lQ ?_
      with_reducible refine (laws_eqGrammar.calls k t185 t186 _ _ t187 _ _ t190 t204 t205 _ _ t206 _ _ t209 false _ ?side1 ?side2 ?side3 ?side4 ?side5 ?side6 ?side7 ?side8 A64.out).mono ?_
      (case side1 => repeat (first | exact (Kd.R_reads' HO189.out).2.2 | (with_reducible refine cA ?_ _) | (with_reducible refine cN ?_ _) | (with_reducible refine cD ?_)))
      (case side2 => exact (Kd.R_reads' HO189.out).2.1)
      (case side3 => repeat (first | exact (Kd.R_reads' HO192.out).2.2 | (with_reducible refine cA ?_ _) | (with_reducible refine cN ?_ _) | (with_reducible refine cD ?_)))
      (case side4 => exact (Kd.R_reads' HO192.out).2.1)
      (case side5 => repeat (first | exact (Kd.R_reads' HO208.out).2.2 | (with_reducible refine cA ?_ _) | (with_reducible refine cN ?_ _) | (with_reducible refine cD ?_)))
      (case side6 => exact (Kd.R_reads' HO208.out).2.1)
      (case side7 => repeat (first | exact (Kd.R_reads' HO211.out).2.2 | (with_reducible refine cA ?_ _) | (with_reducible refine cN ?_ _) | (with_reducible refine cD ?_)))
      (case side8 => exact (Kd.R_reads' HO211.out).2.1)
      rintro e w153 ⟨rfl, hb⟩
      refine ⟨_, rfl, ?_⟩
      have n0_ := Aside0.mk (rB (rQ HO163) hb)
      have n1_ := Aside0.mk (rB (rQ HO166) hb)
      have n2_ := Aside0.mk (rB (rQ HO171) hb)
      have n3_ := Aside0.mk (rB (rQ HO174) hb)
      have n4_ := Aside0.mk (rB (rQ HO180) hb)
      have n5_ := Aside0.mk (rB (rQ HO183) hb)
      have n6_ := Aside0.mk (rB (rQ HO189) hb)
      have n7_ := Aside0.mk (rB (rQ HO192) hb)
      have n8_ := Aside0.mk (rB (rQ HO199) hb)
      have n9_ := Aside0.mk (rB (rQ HO202) hb)
      have n10_ := Aside0.mk (rB (rQ HO208) hb)
      have n11_ := Aside0.mk (rB (rQ HO211) hb)
      have n12_ := Aside0.mk (kB (kQ BK155) hb)
      have n13_ := Aside0.mk (kB (kQ BK156) hb)
      have n14_ := Aside0.mk (kB (kQ BK184) hb)
      have n15_ := Aside0.mk (kB (kQ BK193) hb)
      have n16_ := Aside0.mk (bP (by repeat (first | (with_reducible first | exact HB.out | apply bA | apply bN | apply bD | refine bS ?_ GE155.out | refine bS ?_ GE156.out | refine bS ?_ GE184.out | refine bS ?_ GE193.out) | exact HB.out)) hb)
      clear HO163
      clear HO166
      clear HO171
      clear HO174
      clear HO180
      clear HO183
      clear HO189
      clear HO192
      clear HO199
      clear HO202
      clear HO208
      clear HO211
      clear BK155
      clear BK156
      clear BK184
      clear BK193
      clear HB
      have HO163 := n0_
      have HO166 := n1_
      have HO171 := n2_
      have HO174 := n3_
      have HO180 := n4_
      have HO183 := n5_
      have HO189 := n6_
      have HO192 := n7_
      have HO199 := n8_
      have HO202 := n9_
      have HO208 := n10_
      have HO211 := n11_
      have BK155 := n12_
      have BK156 := n13_
      have BK184 := n14_
      have BK193 := n15_
      have HB := n16_
      clear n0_ n1_ n2_ n3_ n4_ n5_ n6_ n7_ n8_ n9_ n10_ n11_ n12_ n13_ n14_ n15_ n16_
      (try clear hb)
      (try clear hb2)
      (try clear hk)
      (try clear hi)
      refine hK.out _ _ ⟨(kC BK193.out 0).trans rfl, (kC BK193.out 1).trans rfl, (kC BK193.out 2).trans rfl, (kC BK193.out 3).trans rfl, (kC BK156.out 0).trans rfl, (kC BK156.out 1).trans rfl, (kC BK156.out 2).trans rfl, (kC BK156.out 3).trans rfl⟩ (fun hHeld => ?_)
      clear hK K
      refine norm_ (a' := ?_) ?_ ?_
      rotate_left
      ·show Act.put _ (some 43) _ = _
       simp only [Act.put, sI, sZ, sS, iW, jW]
       rfl
      refine pure_ (i := 4) (N := some 44) (v := ?_) (a' := ?_) #[T,T,T,T,T] rfl rfl (by kernel_rfl) (fun _ _ _ h => h) (Or.inl ⟨by rfl, ?_⟩) ?_ ?_; rotate_left; (·intro w'; go_simp; with_reducible rfl); rotate_left; (·simp only [Act.put, sI, sZ, sS, iW, jW]; rfl)
      refine done_ (by kernel_rfl) ?_
      try go_wp2
      go_ret
      exact ⟨by first | rfl | (simp [errW_none, errW_some] <;> rfl) | (simp [*, errW_none, errW_some] <;> rfl), by repeat (first | (with_reducible first | exact HB.out | apply bA | apply bN | apply bD | refine bS ?_ GE155.out | refine bS ?_ GE156.out | refine bS ?_ GE184.out | refine bS ?_ GE193.out) | exact HB.out)⟩
    ·replace c62 := Bool.eq_false_iff.mpr c62
     subst c62
     have H1 : (some false) = some r := by rw [if_neg (show ¬ (false = true) by decide)] at H; exact H
     clear H
     have H := H1
     clear H1
     obtain rfl := Option.some.inj H
     go_enter Try.func3, Try.ntmps3
     try go_wp2_with (first | ((with_reducible refine gate_dst (N := 2) rfl ?_); refine bE ?hg (N := 2) ?hd (cs := #[.int .i64 a0_0, .int .i64 a0_1, .slice A0_2 l0_2.length c0_2, .slice A0_3 l0_3.length c0_3]) (t := 25) ?hr ?_; (case hd => rfl); (case hg => rfl); (case hr => first | (go_simp; done) | (go_simp; rfl)); intro gb155 hg w154 hbox hb; have z_ := bX hb (by repeat (first | (with_reducible first | exact HB.out | apply bA | apply bN | apply bD) | exact HB.out)); have n0_ := Aside0.mk (bP z_ hb); have n1_ := Aside0.mk (hbox); have n2_ := Aside0.mk ((by rw [hg]; exact (bZ z_) : w.heap.size ≤ gb155)); have n3_ := Aside0.mk ((by rw [hg]; exact (bZ z_) : w.heap.size ≤ gb155)); clear HB; have HB := n0_; have BK155 := n1_; have GW155 := n2_; have GE155 := n3_; clear z_ n0_ n1_ n2_ n3_; clear hb hbox hg) | ((with_reducible refine gate_dst (N := 3) rfl ?_); refine bE ?hg (N := 3) ?hd (cs := #[.int .i64 a1_0, .int .i64 a1_1, .slice A1_2 l1_2.length c1_2, .slice A1_3 l1_3.length c1_3]) (t := 25) ?hr ?_; (case hd => rfl); (case hg => rfl); (case hr => first | (go_simp; done) | (go_simp; rfl)); intro gb156 hg w155 hbox hb; have z_ := bX hb (by repeat (first | (with_reducible first | exact HB.out | apply bA | apply bN | apply bD | refine bS ?_ GE155.out) | exact HB.out)); have n0_ := Aside0.mk (kB (kQ BK155) hb); have n1_ := Aside0.mk (bP z_ hb); have n2_ := Aside0.mk (hbox); have n3_ := Aside0.mk ((by rw [hg]; exact (bZ z_) : w.heap.size ≤ gb156)); have n4_ := Aside0.mk ((by rw [hg]; exact (bZ z_) : w.heap.size ≤ gb156)); have n5_ := Aside0.mk ((by rw [hg]; exact Nat.ne_of_lt (kL (kQ BK155)) : gb155 ≠ gb156)); have n6_ := Aside0.mk ((by rw [hg]; exact Nat.ne_of_gt (kL (kQ BK155)) : gb156 ≠ gb155)); clear BK155; clear HB; have BK155 := n0_; have HB := n1_; have BK156 := n2_; have GW156 := n3_; have GE156 := n4_; have NB155_156 := n5_; have NB156_155 := n6_; clear z_ n0_ n1_ n2_ n3_ n4_ n5_ n6_; clear hb hbox hg; have hnb156 := NB155_156.out; have hnc156 := NB156_155.out; have hcz157_0 : w155.cell? ⟨gb155, 0, none⟩ = some (.int .i64 a0_0) := (kC BK155.out 0).trans rfl; have hcz157_1 : w155.cell? ⟨gb155, 1, none⟩ = some (.int .i64 a0_1) := (kC BK155.out 1).trans rfl; have hcz157_2 : w155.cell? ⟨gb155, 2, none⟩ = some (.slice A0_2 l0_2.length c0_2) := (kC BK155.out 2).trans rfl; have hcz157_3 : w155.cell? ⟨gb155, 3, none⟩ = some (.slice A0_3 l0_3.length c0_3) := (kC BK155.out 3).trans rfl; have hfz157_0 := blk_frozen BK155.out 0; have hfz157_1 := blk_frozen BK155.out 1; have hfz157_2 := blk_frozen BK155.out 2; have hfz157_3 := blk_frozen BK155.out 3) | ((with_reducible refine gC (f := 15) rfl ?_); refine goesL_ (some 12) rfl rfl Try.func15 (by kernel_rfl) rfl #[.agg #[.int .i64 a0_0, .int .i64 a0_1, .slice A0_2 l0_2.length c0_2, .slice A0_3 l0_3.length c0_3], .int .i64 1048576] rfl lQ ?_; (with_reducible refine (laws_szGrammar.calls a0_0 a0_1 _ _ l0_2 _ _ l0_3 1048576 t157 _ ?side1 ?side2 ?side3 ?side4 A3.out).mono ?_); (case side1 => repeat (first | exact (cB HR0_2.out HB.out) | (with_reducible refine cA ?_ _) | (with_reducible refine cN ?_ _) | (with_reducible refine cD ?_))); (case side2 => exact HC0_2.out); (case side3 => repeat (first | exact (cB HR0_3.out HB.out) | (with_reducible refine cA ?_ _) | (with_reducible refine cN ?_ _) | (with_reducible refine cD ?_))); (case side4 => exact HC0_3.out); rintro e w158 ⟨rfl, hb⟩; refine ⟨_, rfl, ?_⟩; have n0_ := Aside0.mk (kB (kQ BK155) hb); have n1_ := Aside0.mk (kB (kQ BK156) hb); have n2_ := Aside0.mk (bP (by repeat (first | (with_reducible first | exact HB.out | apply bA | apply bN | apply bD | refine bS ?_ GE155.out | refine bS ?_ GE156.out) | exact HB.out)) hb); clear BK155; clear BK156; clear HB; have BK155 := n0_; have BK156 := n1_; have HB := n2_; clear n0_ n1_ n2_; (try clear hb); (try clear hb2); (try clear hk); (try clear hi); have hcz159_0 : w158.cell? ⟨gb156, 0, none⟩ = some (.int .i64 a1_0) := (kC BK156.out 0).trans rfl; have hcz159_1 : w158.cell? ⟨gb156, 1, none⟩ = some (.int .i64 a1_1) := (kC BK156.out 1).trans rfl; have hcz159_2 : w158.cell? ⟨gb156, 2, none⟩ = some (.slice A1_2 l1_2.length c1_2) := (kC BK156.out 2).trans rfl; have hcz159_3 : w158.cell? ⟨gb156, 3, none⟩ = some (.slice A1_3 l1_3.length c1_3) := (kC BK156.out 3).trans rfl; have hfz159_0 := blk_frozen BK156.out 0; have hfz159_1 := blk_frozen BK156.out 1; have hfz159_2 := blk_frozen BK156.out 2; have hfz159_3 := blk_frozen BK156.out 3) | ((with_reducible refine gC (f := 15) rfl ?_); refine goesL_ (some 17) rfl rfl Try.func15 (by kernel_rfl) rfl #[.agg #[.int .i64 a1_0, .int .i64 a1_1, .slice A1_2 l1_2.length c1_2, .slice A1_3 l1_3.length c1_3], .int .i64 t157] rfl lQ ?_; (with_reducible refine (laws_szGrammar.calls a1_0 a1_1 _ _ l1_2 _ _ l1_3 t157 t158 _ ?side1 ?side2 ?side3 ?side4 A10.out).mono ?_); (case side1 => repeat (first | exact (cB HR1_2.out HB.out) | (with_reducible refine cA ?_ _) | (with_reducible refine cN ?_ _) | (with_reducible refine cD ?_))); (case side2 => exact HC1_2.out); (case side3 => repeat (first | exact (cB HR1_3.out HB.out) | (with_reducible refine cA ?_ _) | (with_reducible refine cN ?_ _) | (with_reducible refine cD ?_))); (case side4 => exact HC1_3.out); rintro e w160 ⟨rfl, hb⟩; refine ⟨_, rfl, ?_⟩; have n0_ := Aside0.mk (kB (kQ BK155) hb); have n1_ := Aside0.mk (kB (kQ BK156) hb); have n2_ := Aside0.mk (bP (by repeat (first | (with_reducible first | exact HB.out | apply bA | apply bN | apply bD | refine bS ?_ GE155.out | refine bS ?_ GE156.out) | exact HB.out)) hb); clear BK155; clear BK156; clear HB; have BK155 := n0_; have BK156 := n1_; have HB := n2_; clear n0_ n1_ n2_; (try clear hb); (try clear hb2); (try clear hk); (try clear hi)))
     have n0_ := Aside0.mk (kD BK155.out)
     have n1_ := Aside0.mk (kD BK156.out)
     have n2_ := Aside0.mk (bD HB.out)
     clear BK155
     clear BK156
     clear HB
     have BK155 := n0_
     have BK156 := n1_
     have HB := n2_
     clear n0_ n1_ n2_
     refine start_ (n := 6) (S := fun w' => w'.cell? ⟨gb155, 0, none⟩ = some (.int .i64 a0_0) ∧ w'.cell? ⟨gb155, 1, none⟩ = some (.int .i64 a0_1) ∧ w'.cell? ⟨gb155, 2, none⟩ = some (.slice A0_2 l0_2.length c0_2) ∧ w'.cell? ⟨gb155, 3, none⟩ = some (.slice A0_3 l0_3.length c0_3) ∧ w'.cell? ⟨gb156, 0, none⟩ = some (.int .i64 a1_0) ∧ w'.cell? ⟨gb156, 1, none⟩ = some (.int .i64 a1_1) ∧ w'.cell? ⟨gb156, 2, none⟩ = some (.slice A1_2 l1_2.length c1_2) ∧ w'.cell? ⟨gb156, 3, none⟩ = some (.slice A1_3 l1_3.length c1_3)) (ds := []) #[F,F,F,F,F,F] (by kernel_rfl) rfl rfl ⟨(kC BK155.out 0).trans rfl, (kC BK155.out 1).trans rfl, (kC BK155.out 2).trans rfl, (kC BK155.out 3).trans rfl, (kC BK156.out 0).trans rfl, (kC BK156.out 1).trans rfl, (kC BK156.out 2).trans rfl, (kC BK156.out 3).trans rfl⟩ (fun hHeld => ?_)
     generalize w160.drew = w161 at BK155 BK156 HB hHeld ⊢
     refine take_ (i := 0) (N := some 20) (v := ?_) (a' := ?_) #[T,F,F,F,F,F] rfl rfl (by kernel_rfl) (fun _ _ _ h => h) (Or.inl ⟨by rfl, ?_⟩) hHeld ?_ ?_; rotate_left; (·rintro w' ⟨s0, s1, s2, s3, s4, s5, s6, s7⟩; go_simp; with_reducible rfl); rotate_left; (·simp only [Act.put, sI, sZ, sS, iW, jW]; rfl)
     refine take_ (i := 2) (N := some 22) (v := ?_) (a' := ?_) #[T,F,T,F,F,F] rfl rfl (by kernel_rfl) (fun _ _ _ h => h) (Or.inl ⟨by rfl, ?_⟩) hHeld ?_ ?_; rotate_left; (·rintro w' ⟨s0, s1, s2, s3, s4, s5, s6, s7⟩; go_simp; with_reducible rfl); rotate_left; (·simp only [Act.put, sI, sZ, sS, iW, jW]; rfl)
     refine one_ (i := 1) (N := some 21) #[T,T,T,F,F,F] rfl rfl (by kernel_rfl) (by decide) (fun K hK => ?_)
     refine goes_ Try.func17 (by kernel_rfl) rfl #[.agg #[.int .i64 a0_0, .int .i64 a0_1, .slice A0_2 l0_2.length c0_2, .slice A0_3 l0_3.length c0_3]] (by rfl) rfl rfl lQ ?_
     with_reducible refine (laws_toGrammar.calls k a0_0 a0_1 _ _ l0_2 _ _ l0_3 t159 t160 t161 t164 _ ?side1 ?side2 ?side3 ?side4 A19.out).mono ?_
     (case side1 => repeat (first | exact (cB HR0_2.out HB.out) | (with_reducible refine cA ?_ _) | (with_reducible refine cN ?_ _) | (with_reducible refine cD ?_)))
     (case side2 => exact HC0_2.out)
     (case side3 => repeat (first | exact (cB HR0_3.out HB.out) | (with_reducible refine cA ?_ _) | (with_reducible refine cN ?_ _) | (with_reducible refine cD ?_)))
     (case side4 => exact HC0_3.out)
     rintro e w162 ⟨v162, v165, rfl, ho0, ho1, hb⟩
     refine ⟨_, rfl, ?_⟩
     have z_ := bX hb (by repeat (first | (with_reducible first | exact HB.out | apply bA | apply bN | apply bD | refine bS ?_ GE155.out | refine bS ?_ GE156.out) | exact HB.out))
     have n0_ := Aside0.mk (rL ho0 (bZ z_))
     have n1_ := Aside0.mk (rL ho1 (bZ z_))
     have n2_ := Aside0.mk (kB (kQ BK155) hb)
     have n3_ := Aside0.mk (kB (kQ BK156) hb)
     have n4_ := Aside0.mk (bP z_ hb)
     clear BK155
     clear BK156
     clear HB
     have HO163 := n0_
     have HO166 := n1_
     have BK155 := n2_
     have BK156 := n3_
     have HB := n4_
     clear z_ n0_ n1_ n2_ n3_ n4_
     (try clear hb)
     (try clear hb2)
     (try clear hk)
     (try clear hi)
     (try clear ho0)
     (try clear ho1)
     refine hK.out _ _ ⟨(kC BK155.out 0).trans rfl, (kC BK155.out 1).trans rfl, (kC BK155.out 2).trans rfl, (kC BK155.out 3).trans rfl, (kC BK156.out 0).trans rfl, (kC BK156.out 1).trans rfl, (kC BK156.out 2).trans rfl, (kC BK156.out 3).trans rfl⟩ (fun hHeld => ?_)
     clear hK K
     refine norm_ (a' := ?_) ?_ ?_
     rotate_left
     ·show Act.put _ (some 21) _ = _
      simp only [Act.put, sI, sZ, sS, iW, jW]
      rfl
     refine one_ (i := 3) (N := some 23) #[T,T,T,T,F,F] rfl rfl (by kernel_rfl) (by decide) (fun K hK => ?_)
     refine goes_ Try.func17 (by kernel_rfl) rfl #[.agg #[.int .i64 a1_0, .int .i64 a1_1, .slice A1_2 l1_2.length c1_2, .slice A1_3 l1_3.length c1_3]] (by rfl) rfl rfl lQ ?_
     with_reducible refine (laws_toGrammar.calls k a1_0 a1_1 _ _ l1_2 _ _ l1_3 t167 t168 t169 t172 _ ?side1 ?side2 ?side3 ?side4 A20.out).mono ?_
     (case side1 => repeat (first | exact (cB HR1_2.out HB.out) | (with_reducible refine cA ?_ _) | (with_reducible refine cN ?_ _) | (with_reducible refine cD ?_)))
     (case side2 => exact HC1_2.out)
     (case side3 => repeat (first | exact (cB HR1_3.out HB.out) | (with_reducible refine cA ?_ _) | (with_reducible refine cN ?_ _) | (with_reducible refine cD ?_)))
     (case side4 => exact HC1_3.out)
     rintro e w163 ⟨v170, v173, rfl, ho0, ho1, hb⟩
     refine ⟨_, rfl, ?_⟩
     have z_ := bX hb (by repeat (first | (with_reducible first | exact HB.out | apply bA | apply bN | apply bD | refine bS ?_ GE155.out | refine bS ?_ GE156.out) | exact HB.out))
     have n0_ := Aside0.mk (rE (rQ HO163) (Kd.R_base ho0) hb)
     have n1_ := Aside0.mk (rE (rQ HO166) (Kd.R_base ho1) hb)
     have n2_ := Aside0.mk (rL (rW ho0 (rT (rQ HO163))) (bZ z_))
     have n3_ := Aside0.mk (rL (rW ho1 (rT (rQ HO166))) (bZ z_))
     have n4_ := Aside0.mk (kB (kQ BK155) hb)
     have n5_ := Aside0.mk (kB (kQ BK156) hb)
     have n6_ := Aside0.mk (bP z_ hb)
     clear HO163
     clear HO166
     clear BK155
     clear BK156
     clear HB
     have HO163 := n0_
     have HO166 := n1_
     have HO171 := n2_
     have HO174 := n3_
     have BK155 := n4_
     have BK156 := n5_
     have HB := n6_
     clear z_ n0_ n1_ n2_ n3_ n4_ n5_ n6_
     (try clear hb)
     (try clear hb2)
     (try clear hk)
     (try clear hi)
     (try clear ho0)
     (try clear ho1)
     obtain ⟨Ao164, co164, eo164⟩ := Kd.R_slice HO163.out
     (first | subst eo164 | (injection eo164 with f1_ f2_ f3_; have f4_ := f1_.symm; have f5_ := f3_.symm; clear f1_ f2_ f3_; subst f4_; subst f5_))
     obtain ⟨Ao165, co165, eo165⟩ := Kd.R_slice HO166.out
     (first | subst eo165 | (injection eo165 with f1_ f2_ f3_; have f4_ := f1_.symm; have f5_ := f3_.symm; clear f1_ f2_ f3_; subst f4_; subst f5_))
     obtain ⟨Ao166, co166, eo166⟩ := Kd.R_slice HO171.out
     (first | subst eo166 | (injection eo166 with f1_ f2_ f3_; have f4_ := f1_.symm; have f5_ := f3_.symm; clear f1_ f2_ f3_; subst f4_; subst f5_))
     obtain ⟨Ao167, co167, eo167⟩ := Kd.R_slice HO174.out
     (first | subst eo167 | (injection eo167 with f1_ f2_ f3_; have f4_ := f1_.symm; have f5_ := f3_.symm; clear f1_ f2_ f3_; subst f4_; subst f5_))
     refine hK.out _ _ ⟨(kC BK155.out 0).trans rfl, (kC BK155.out 1).trans rfl, (kC BK155.out 2).trans rfl, (kC BK155.out 3).trans rfl, (kC BK156.out 0).trans rfl, (kC BK156.out 1).trans rfl, (kC BK156.out 2).trans rfl, (kC BK156.out 3).trans rfl⟩ (fun hHeld => ?_)
     clear hK K
     refine norm_ (a' := ?_) ?_ ?_
     rotate_left
     ·show Act.put _ (some 23) _ = _
      simp only [Act.put, sI, sZ, sS, iW, jW]
      rfl
     refine one_ (i := 4) (N := some 24) #[T,T,T,T,T,F] rfl rfl (by kernel_rfl) (by decide) (fun K hK => ?_)
     refine goes_ Try.func16 (by kernel_rfl) rfl #[.agg #[.int .i64 t159, .int .i64 t160, .slice Ao164 t161.length co164, .slice Ao165 t164.length co165], .agg #[.int .i64 t167, .int .i64 t168, .slice Ao166 t169.length co166, .slice Ao167 t172.length co167]] (by rfl) rfl rfl lQ ?_
     with_reducible refine (spec_SameGrammar.calls k t159 t160 _ _ t161 _ _ t164 t167 t168 _ _ t169 _ _ t172 t175 _ ?side1 ?side2 ?side3 ?side4 ?side5 ?side6 ?side7 ?side8 A21.out).mono ?_
     (case side1 => repeat (first | exact (Kd.R_reads' HO163.out).2.2 | (with_reducible refine cA ?_ _) | (with_reducible refine cN ?_ _) | (with_reducible refine cD ?_)))
     (case side2 => exact (Kd.R_reads' HO163.out).2.1)
     (case side3 => repeat (first | exact (Kd.R_reads' HO166.out).2.2 | (with_reducible refine cA ?_ _) | (with_reducible refine cN ?_ _) | (with_reducible refine cD ?_)))
     (case side4 => exact (Kd.R_reads' HO166.out).2.1)
     (case side5 => repeat (first | exact (Kd.R_reads' HO171.out).2.2 | (with_reducible refine cA ?_ _) | (with_reducible refine cN ?_ _) | (with_reducible refine cD ?_)))
     (case side6 => exact (Kd.R_reads' HO171.out).2.1)
     (case side7 => repeat (first | exact (Kd.R_reads' HO174.out).2.2 | (with_reducible refine cA ?_ _) | (with_reducible refine cN ?_ _) | (with_reducible refine cD ?_)))
     (case side8 => exact (Kd.R_reads' HO174.out).2.1)
     rintro e w168 ⟨rfl, hb⟩
     refine ⟨_, rfl, ?_⟩
     have n0_ := Aside0.mk (rB (rQ HO163) hb)
     have n1_ := Aside0.mk (rB (rQ HO166) hb)
     have n2_ := Aside0.mk (rB (rQ HO171) hb)
     have n3_ := Aside0.mk (rB (rQ HO174) hb)
     have n4_ := Aside0.mk (kB (kQ BK155) hb)
     have n5_ := Aside0.mk (kB (kQ BK156) hb)
     have n6_ := Aside0.mk (bP (by repeat (first | (with_reducible first | exact HB.out | apply bA | apply bN | apply bD | refine bS ?_ GE155.out | refine bS ?_ GE156.out) | exact HB.out)) hb)
     clear HO163
     clear HO166
     clear HO171
     clear HO174
     clear BK155
     clear BK156
     clear HB
     have HO163 := n0_
     have HO166 := n1_
     have HO171 := n2_
     have HO174 := n3_
     have BK155 := n4_
     have BK156 := n5_
     have HB := n6_
     clear n0_ n1_ n2_ n3_ n4_ n5_ n6_
     (try clear hb)
     (try clear hb2)
     (try clear hk)
     (try clear hi)
     refine hK.out _ _ ⟨(kC BK155.out 0).trans rfl, (kC BK155.out 1).trans rfl, (kC BK155.out 2).trans rfl, (kC BK155.out 3).trans rfl, (kC BK156.out 0).trans rfl, (kC BK156.out 1).trans rfl, (kC BK156.out 2).trans rfl, (kC BK156.out 3).trans rfl⟩ (fun hHeld => ?_)
     clear hK K
     refine norm_ (a' := ?_) ?_ ?_
     rotate_left
     ·show Act.put _ (some 24) _ = _
      simp only [Act.put, sI, sZ, sS, iW, jW]
      rfl
     refine pure_ (i := 5) (N := some 6) (v := ?_) (a' := ?_) #[T,T,T,T,T,T] rfl rfl (by kernel_rfl) (fun _ _ _ h => h) (Or.inl ⟨by rfl, ?_⟩) ?_ ?_; rotate_left; (·intro w'; go_simp; with_reducible rfl); rotate_left; (·simp only [Act.put, sI, sZ, sS, iW, jW]; rfl)
     refine done_ (by kernel_rfl) ?_
     have hcz169_0 : w168.cell? ⟨gb155, 0, none⟩ = some (.int .i64 a0_0) := (kC BK155.out 0).trans rfl
     have hcz169_1 : w168.cell? ⟨gb155, 1, none⟩ = some (.int .i64 a0_1) := (kC BK155.out 1).trans rfl
     have hcz169_2 : w168.cell? ⟨gb155, 2, none⟩ = some (.slice A0_2 l0_2.length c0_2) := (kC BK155.out 2).trans rfl
     have hcz169_3 : w168.cell? ⟨gb155, 3, none⟩ = some (.slice A0_3 l0_3.length c0_3) := (kC BK155.out 3).trans rfl
     have hfz169_0 := blk_frozen BK155.out 0
     have hfz169_1 := blk_frozen BK155.out 1
     have hfz169_2 := blk_frozen BK155.out 2
     have hfz169_3 := blk_frozen BK155.out 3
     try go_wp2_with (first | ((with_reducible refine gC (f := 17) rfl ?_); refine goesL_ (some 26) rfl rfl Try.func17 (by kernel_rfl) rfl #[.agg #[.int .i64 a0_0, .int .i64 a0_1, .slice A0_2 l0_2.length c0_2, .slice A0_3 l0_3.length c0_3]] rfl lQ ?_; (with_reducible refine (laws_toGrammar.calls k a0_0 a0_1 _ _ l0_2 _ _ l0_3 t176 t177 t178 t181 _ ?side1 ?side2 ?side3 ?side4 A22.out).mono ?_); (case side1 => repeat (first | exact (cB HR0_2.out HB.out) | (with_reducible refine cA ?_ _) | (with_reducible refine cN ?_ _) | (with_reducible refine cD ?_))); (case side2 => exact HC0_2.out); (case side3 => repeat (first | exact (cB HR0_3.out HB.out) | (with_reducible refine cA ?_ _) | (with_reducible refine cN ?_ _) | (with_reducible refine cD ?_))); (case side4 => exact HC0_3.out); rintro e w170 ⟨v179, v182, rfl, ho0, ho1, hb⟩; refine ⟨_, rfl, ?_⟩; have z_ := bX hb (by repeat (first | (with_reducible first | exact HB.out | apply bA | apply bN | apply bD | refine bS ?_ GE155.out | refine bS ?_ GE156.out) | exact HB.out)); have n0_ := Aside0.mk (rE (rQ HO163) (Kd.R_base ho0) hb); have n1_ := Aside0.mk (rE (rQ HO166) (Kd.R_base ho1) hb); have n2_ := Aside0.mk (rE (rQ HO171) (Kd.R_base ho0) hb); have n3_ := Aside0.mk (rE (rQ HO174) (Kd.R_base ho1) hb); have n4_ := Aside0.mk (rL (rW (rW ho0 (rT (rQ HO163))) (rT (rQ HO171))) (bZ z_)); have n5_ := Aside0.mk (rL (rW (rW ho1 (rT (rQ HO166))) (rT (rQ HO174))) (bZ z_)); have n6_ := Aside0.mk (kB (kQ BK155) hb); have n7_ := Aside0.mk (kB (kQ BK156) hb); have n8_ := Aside0.mk (bP z_ hb); clear HO163; clear HO166; clear HO171; clear HO174; clear BK155; clear BK156; clear HB; have HO163 := n0_; have HO166 := n1_; have HO171 := n2_; have HO174 := n3_; have HO180 := n4_; have HO183 := n5_; have BK155 := n6_; have BK156 := n7_; have HB := n8_; clear z_ n0_ n1_ n2_ n3_ n4_ n5_ n6_ n7_ n8_; (try clear hb); (try clear hb2); (try clear hk); (try clear hi); (try clear ho0); (try clear ho1)) | ((with_reducible refine gate_dst (N := 7) rfl ?_); refine bE ?hg (N := 7) ?hd (cs := #[.int .i64 0, .int .i64 0, .slice none 0 0, .slice none 0 0]) (t := 30) ?hr ?_; (case hd => rfl); (case hg => rfl); (case hr => first | (go_simp; done) | (go_simp; rfl)); intro gb184 hg w171 hbox hb; have z_ := bX hb (by repeat (first | (with_reducible first | exact HB.out | apply bA | apply bN | apply bD | refine bS ?_ GE155.out | refine bS ?_ GE156.out) | exact HB.out)); have n0_ := Aside0.mk (rB (rQ HO163) hb); have n1_ := Aside0.mk (rB (rQ HO166) hb); have n2_ := Aside0.mk (rB (rQ HO171) hb); have n3_ := Aside0.mk (rB (rQ HO174) hb); have n4_ := Aside0.mk (rB (rQ HO180) hb); have n5_ := Aside0.mk (rB (rQ HO183) hb); have n6_ := Aside0.mk (kB (kQ BK155) hb); have n7_ := Aside0.mk (kB (kQ BK156) hb); have n8_ := Aside0.mk (bP z_ hb); have n9_ := Aside0.mk (hbox); have n10_ := Aside0.mk ((by rw [hg]; exact (bZ z_) : w.heap.size ≤ gb184)); have n11_ := Aside0.mk ((by rw [hg]; exact (bZ z_) : w.heap.size ≤ gb184)); have n12_ := Aside0.mk ((by rw [hg]; exact Nat.ne_of_lt (kL (kQ BK155)) : gb155 ≠ gb184)); have n13_ := Aside0.mk ((by rw [hg]; exact Nat.ne_of_gt (kL (kQ BK155)) : gb184 ≠ gb155)); have n14_ := Aside0.mk ((by rw [hg]; exact Nat.ne_of_lt (kL (kQ BK156)) : gb156 ≠ gb184)); have n15_ := Aside0.mk ((by rw [hg]; exact Nat.ne_of_gt (kL (kQ BK156)) : gb184 ≠ gb156)); clear HO163; clear HO166; clear HO171; clear HO174; clear HO180; clear HO183; clear BK155; clear BK156; clear HB; have HO163 := n0_; have HO166 := n1_; have HO171 := n2_; have HO174 := n3_; have HO180 := n4_; have HO183 := n5_; have BK155 := n6_; have BK156 := n7_; have HB := n8_; have BK184 := n9_; have GW184 := n10_; have GE184 := n11_; have NB155_184 := n12_; have NB184_155 := n13_; have NB156_184 := n14_; have NB184_156 := n15_; clear z_ n0_ n1_ n2_ n3_ n4_ n5_ n6_ n7_ n8_ n9_ n10_ n11_ n12_ n13_ n14_ n15_; clear hb hbox hg; have hnb172 := NB184_155.out; have hnc172 := NB155_184.out; have hnb173 := NB184_156.out; have hnc173 := NB156_184.out; have hcz174_0 : w171.cell? ⟨gb184, 0, none⟩ = some (.int .i64 0) := (kC BK184.out 0).trans rfl; have hcz174_1 : w171.cell? ⟨gb184, 1, none⟩ = some (.int .i64 0) := (kC BK184.out 1).trans rfl; have hcz174_2 : w171.cell? ⟨gb184, 2, none⟩ = some (.slice none 0 0) := (kC BK184.out 2).trans rfl; have hcz174_3 : w171.cell? ⟨gb184, 3, none⟩ = some (.slice none 0 0) := (kC BK184.out 3).trans rfl; have hfz174_0 := blk_frozen BK184.out 0; have hfz174_1 := blk_frozen BK184.out 1; have hfz174_2 := blk_frozen BK184.out 2; have hfz174_3 := blk_frozen BK184.out 3; obtain ⟨Ao175, co175, eo175⟩ := Kd.R_slice HO180.out; subst eo175; obtain ⟨Ao176, co176, eo176⟩ := Kd.R_slice HO183.out; subst eo176; have hcz177_0 : w171.cell? ⟨gb156, 0, none⟩ = some (.int .i64 a1_0) := (kC BK156.out 0).trans rfl; have hcz177_1 : w171.cell? ⟨gb156, 1, none⟩ = some (.int .i64 a1_1) := (kC BK156.out 1).trans rfl; have hcz177_2 : w171.cell? ⟨gb156, 2, none⟩ = some (.slice A1_2 l1_2.length c1_2) := (kC BK156.out 2).trans rfl; have hcz177_3 : w171.cell? ⟨gb156, 3, none⟩ = some (.slice A1_3 l1_3.length c1_3) := (kC BK156.out 3).trans rfl; have hfz177_0 := blk_frozen BK156.out 0; have hfz177_1 := blk_frozen BK156.out 1; have hfz177_2 := blk_frozen BK156.out 2; have hfz177_3 := blk_frozen BK156.out 3) | ((with_reducible refine gC (f := 17) rfl ?_); refine goesL_ (some 28) rfl rfl Try.func17 (by kernel_rfl) rfl #[.agg #[.int .i64 a1_0, .int .i64 a1_1, .slice A1_2 l1_2.length c1_2, .slice A1_3 l1_3.length c1_3]] rfl lQ ?_; (with_reducible refine (laws_toGrammar.calls k a1_0 a1_1 _ _ l1_2 _ _ l1_3 t185 t186 t187 t190 _ ?side1 ?side2 ?side3 ?side4 A23.out).mono ?_); (case side1 => exact cB HR1_2.out (by repeat (first | (with_reducible first | exact HB.out | apply bA | apply bN | apply bD | refine bS ?_ GE155.out | refine bS ?_ GE156.out | refine bS ?_ GE184.out) | exact HB.out))); (case side2 => exact HC1_2.out); (case side3 => exact cB HR1_3.out (by repeat (first | (with_reducible first | exact HB.out | apply bA | apply bN | apply bD | refine bS ?_ GE155.out | refine bS ?_ GE156.out | refine bS ?_ GE184.out) | exact HB.out))); (case side4 => exact HC1_3.out); rintro e w178 ⟨v188, v191, rfl, ho0, ho1, hb⟩; refine ⟨_, rfl, ?_⟩; have z_ := bX hb (by repeat (first | (with_reducible first | exact HB.out | apply bA | apply bN | apply bD | refine bS ?_ GE155.out | refine bS ?_ GE156.out | refine bS ?_ GE184.out) | exact HB.out)); have n0_ := Aside0.mk (rE (by (with_reducible repeat (first | apply rA | apply rN | apply rD)); exact (rM (Kd.R_far (p := ⟨gb184, 3, none⟩) (Kd.R_far (p := ⟨gb184, 2, none⟩) (Kd.R_far (p := ⟨gb184, 1, none⟩) (Kd.R_far (p := ⟨gb184, 0, none⟩) (Kd.R_types HO163.out BK184.out (by decide)) (fun _ hk => hk.2) (.int .i64 t176)) (fun _ hk => hk.2) (.int .i64 t177)) (fun _ hk => hk.2) (.slice Ao175 t178.length co175)) (fun _ hk => hk.2) (.slice Ao176 t181.length co176)) (fun _ h_ => h_.1))) (Kd.R_base ho0) hb); have n1_ := Aside0.mk (rE (by (with_reducible repeat (first | apply rA | apply rN | apply rD)); exact (rM (Kd.R_far (p := ⟨gb184, 3, none⟩) (Kd.R_far (p := ⟨gb184, 2, none⟩) (Kd.R_far (p := ⟨gb184, 1, none⟩) (Kd.R_far (p := ⟨gb184, 0, none⟩) (Kd.R_types HO166.out BK184.out (by decide)) (fun _ hk => hk.2) (.int .i64 t176)) (fun _ hk => hk.2) (.int .i64 t177)) (fun _ hk => hk.2) (.slice Ao175 t178.length co175)) (fun _ hk => hk.2) (.slice Ao176 t181.length co176)) (fun _ h_ => h_.1))) (Kd.R_base ho1) hb); have n2_ := Aside0.mk (rE (by (with_reducible repeat (first | apply rA | apply rN | apply rD)); exact (rM (Kd.R_far (p := ⟨gb184, 3, none⟩) (Kd.R_far (p := ⟨gb184, 2, none⟩) (Kd.R_far (p := ⟨gb184, 1, none⟩) (Kd.R_far (p := ⟨gb184, 0, none⟩) (Kd.R_types HO171.out BK184.out (by decide)) (fun _ hk => hk.2) (.int .i64 t176)) (fun _ hk => hk.2) (.int .i64 t177)) (fun _ hk => hk.2) (.slice Ao175 t178.length co175)) (fun _ hk => hk.2) (.slice Ao176 t181.length co176)) (fun _ h_ => h_.1))) (Kd.R_base ho0) hb); have n3_ := Aside0.mk (rE (by (with_reducible repeat (first | apply rA | apply rN | apply rD)); exact (rM (Kd.R_far (p := ⟨gb184, 3, none⟩) (Kd.R_far (p := ⟨gb184, 2, none⟩) (Kd.R_far (p := ⟨gb184, 1, none⟩) (Kd.R_far (p := ⟨gb184, 0, none⟩) (Kd.R_types HO174.out BK184.out (by decide)) (fun _ hk => hk.2) (.int .i64 t176)) (fun _ hk => hk.2) (.int .i64 t177)) (fun _ hk => hk.2) (.slice Ao175 t178.length co175)) (fun _ hk => hk.2) (.slice Ao176 t181.length co176)) (fun _ h_ => h_.1))) (Kd.R_base ho1) hb); have n4_ := Aside0.mk (rE (by (with_reducible repeat (first | apply rA | apply rN | apply rD)); exact (rM (Kd.R_far (p := ⟨gb184, 3, none⟩) (Kd.R_far (p := ⟨gb184, 2, none⟩) (Kd.R_far (p := ⟨gb184, 1, none⟩) (Kd.R_far (p := ⟨gb184, 0, none⟩) (Kd.R_types HO180.out BK184.out (by decide)) (fun _ hk => hk.2) (.int .i64 t176)) (fun _ hk => hk.2) (.int .i64 t177)) (fun _ hk => hk.2) (.slice Ao175 t178.length co175)) (fun _ hk => hk.2) (.slice Ao176 t181.length co176)) (fun _ h_ => h_.1))) (Kd.R_base ho0) hb); have n5_ := Aside0.mk (rE (by (with_reducible repeat (first | apply rA | apply rN | apply rD)); exact (rM (Kd.R_far (p := ⟨gb184, 3, none⟩) (Kd.R_far (p := ⟨gb184, 2, none⟩) (Kd.R_far (p := ⟨gb184, 1, none⟩) (Kd.R_far (p := ⟨gb184, 0, none⟩) (Kd.R_types HO183.out BK184.out (by decide)) (fun _ hk => hk.2) (.int .i64 t176)) (fun _ hk => hk.2) (.int .i64 t177)) (fun _ hk => hk.2) (.slice Ao175 t178.length co175)) (fun _ hk => hk.2) (.slice Ao176 t181.length co176)) (fun _ h_ => h_.1))) (Kd.R_base ho1) hb); have n6_ := Aside0.mk (rL (rW (rW (rW ho0 (rT (by (with_reducible repeat (first | apply rA | apply rN | apply rD)); exact (rM (Kd.R_far (p := ⟨gb184, 3, none⟩) (Kd.R_far (p := ⟨gb184, 2, none⟩) (Kd.R_far (p := ⟨gb184, 1, none⟩) (Kd.R_far (p := ⟨gb184, 0, none⟩) (Kd.R_types HO163.out BK184.out (by decide)) (fun _ hk => hk.2) (.int .i64 t176)) (fun _ hk => hk.2) (.int .i64 t177)) (fun _ hk => hk.2) (.slice Ao175 t178.length co175)) (fun _ hk => hk.2) (.slice Ao176 t181.length co176)) (fun _ h_ => h_.1))))) (rT (by (with_reducible repeat (first | apply rA | apply rN | apply rD)); exact (rM (Kd.R_far (p := ⟨gb184, 3, none⟩) (Kd.R_far (p := ⟨gb184, 2, none⟩) (Kd.R_far (p := ⟨gb184, 1, none⟩) (Kd.R_far (p := ⟨gb184, 0, none⟩) (Kd.R_types HO171.out BK184.out (by decide)) (fun _ hk => hk.2) (.int .i64 t176)) (fun _ hk => hk.2) (.int .i64 t177)) (fun _ hk => hk.2) (.slice Ao175 t178.length co175)) (fun _ hk => hk.2) (.slice Ao176 t181.length co176)) (fun _ h_ => h_.1))))) (rT (by (with_reducible repeat (first | apply rA | apply rN | apply rD)); exact (rM (Kd.R_far (p := ⟨gb184, 3, none⟩) (Kd.R_far (p := ⟨gb184, 2, none⟩) (Kd.R_far (p := ⟨gb184, 1, none⟩) (Kd.R_far (p := ⟨gb184, 0, none⟩) (Kd.R_types HO180.out BK184.out (by decide)) (fun _ hk => hk.2) (.int .i64 t176)) (fun _ hk => hk.2) (.int .i64 t177)) (fun _ hk => hk.2) (.slice Ao175 t178.length co175)) (fun _ hk => hk.2) (.slice Ao176 t181.length co176)) (fun _ h_ => h_.1))))) (bZ z_)); have n7_ := Aside0.mk (rL (rW (rW (rW ho1 (rT (by (with_reducible repeat (first | apply rA | apply rN | apply rD)); exact (rM (Kd.R_far (p := ⟨gb184, 3, none⟩) (Kd.R_far (p := ⟨gb184, 2, none⟩) (Kd.R_far (p := ⟨gb184, 1, none⟩) (Kd.R_far (p := ⟨gb184, 0, none⟩) (Kd.R_types HO166.out BK184.out (by decide)) (fun _ hk => hk.2) (.int .i64 t176)) (fun _ hk => hk.2) (.int .i64 t177)) (fun _ hk => hk.2) (.slice Ao175 t178.length co175)) (fun _ hk => hk.2) (.slice Ao176 t181.length co176)) (fun _ h_ => h_.1))))) (rT (by (with_reducible repeat (first | apply rA | apply rN | apply rD)); exact (rM (Kd.R_far (p := ⟨gb184, 3, none⟩) (Kd.R_far (p := ⟨gb184, 2, none⟩) (Kd.R_far (p := ⟨gb184, 1, none⟩) (Kd.R_far (p := ⟨gb184, 0, none⟩) (Kd.R_types HO174.out BK184.out (by decide)) (fun _ hk => hk.2) (.int .i64 t176)) (fun _ hk => hk.2) (.int .i64 t177)) (fun _ hk => hk.2) (.slice Ao175 t178.length co175)) (fun _ hk => hk.2) (.slice Ao176 t181.length co176)) (fun _ h_ => h_.1))))) (rT (by (with_reducible repeat (first | apply rA | apply rN | apply rD)); exact (rM (Kd.R_far (p := ⟨gb184, 3, none⟩) (Kd.R_far (p := ⟨gb184, 2, none⟩) (Kd.R_far (p := ⟨gb184, 1, none⟩) (Kd.R_far (p := ⟨gb184, 0, none⟩) (Kd.R_types HO183.out BK184.out (by decide)) (fun _ hk => hk.2) (.int .i64 t176)) (fun _ hk => hk.2) (.int .i64 t177)) (fun _ hk => hk.2) (.slice Ao175 t178.length co175)) (fun _ hk => hk.2) (.slice Ao176 t181.length co176)) (fun _ h_ => h_.1))))) (bZ z_)); have n8_ := Aside0.mk (kB (g := gb155) (o := .cells #[.int .i64 a0_0, .int .i64 a0_1, .slice A0_2 l0_2.length c0_2, .slice A0_3 l0_3.length c0_3] 25 (0, 0)) (by (with_reducible repeat (first | refine kN ?_ _ | refine kD ?_ | refine kA ?_ _)); refine kF ?_ NB155_184.out _; (with_reducible repeat (first | refine kN ?_ _ | refine kD ?_ | refine kA ?_ _)); refine kF ?_ NB155_184.out _; (with_reducible repeat (first | refine kN ?_ _ | refine kD ?_ | refine kA ?_ _)); refine kF ?_ NB155_184.out _; (with_reducible repeat (first | refine kN ?_ _ | refine kD ?_ | refine kA ?_ _)); refine kF ?_ NB155_184.out _; (with_reducible repeat (first | refine kN ?_ _ | refine kD ?_ | refine kA ?_ _)); exact BK155.out) hb); have n9_ := Aside0.mk (kB (g := gb156) (o := .cells #[.int .i64 a1_0, .int .i64 a1_1, .slice A1_2 l1_2.length c1_2, .slice A1_3 l1_3.length c1_3] 25 (0, 0)) (by (with_reducible repeat (first | refine kN ?_ _ | refine kD ?_ | refine kA ?_ _)); refine kF ?_ NB156_184.out _; (with_reducible repeat (first | refine kN ?_ _ | refine kD ?_ | refine kA ?_ _)); refine kF ?_ NB156_184.out _; (with_reducible repeat (first | refine kN ?_ _ | refine kD ?_ | refine kA ?_ _)); refine kF ?_ NB156_184.out _; (with_reducible repeat (first | refine kN ?_ _ | refine kD ?_ | refine kA ?_ _)); refine kF ?_ NB156_184.out _; (with_reducible repeat (first | refine kN ?_ _ | refine kD ?_ | refine kA ?_ _)); exact BK156.out) hb); have n10_ := Aside0.mk (kB (g := gb184) (o := .cells #[.int .i64 t176, .int .i64 t177, .slice Ao175 t178.length co175, .slice Ao176 t181.length co176] 30 (0, 0)) (by (with_reducible repeat (first | refine kN ?_ _ | refine kD ?_ | refine kA ?_ _)); refine blk_put (cs := #[.int .i64 t176, .int .i64 t177, .slice Ao175 t178.length co175, .slice none 0 0]) ?_ 3 _ rfl; (with_reducible repeat (first | refine kN ?_ _ | refine kD ?_ | refine kA ?_ _)); refine blk_put (cs := #[.int .i64 t176, .int .i64 t177, .slice none 0 0, .slice none 0 0]) ?_ 2 _ rfl; (with_reducible repeat (first | refine kN ?_ _ | refine kD ?_ | refine kA ?_ _)); refine blk_put (cs := #[.int .i64 t176, .int .i64 0, .slice none 0 0, .slice none 0 0]) ?_ 1 _ rfl; (with_reducible repeat (first | refine kN ?_ _ | refine kD ?_ | refine kA ?_ _)); refine blk_put (cs := #[.int .i64 0, .int .i64 0, .slice none 0 0, .slice none 0 0]) ?_ 0 _ rfl; (with_reducible repeat (first | refine kN ?_ _ | refine kD ?_ | refine kA ?_ _)); exact BK184.out) hb); have n11_ := Aside0.mk (bP z_ hb); clear HO163; clear HO166; clear HO171; clear HO174; clear HO180; clear HO183; clear BK155; clear BK156; clear BK184; clear HB; have HO163 := n0_; have HO166 := n1_; have HO171 := n2_; have HO174 := n3_; have HO180 := n4_; have HO183 := n5_; have HO189 := n6_; have HO192 := n7_; have BK155 := n8_; have BK156 := n9_; have BK184 := n10_; have HB := n11_; clear z_ n0_ n1_ n2_ n3_ n4_ n5_ n6_ n7_ n8_ n9_ n10_ n11_; (try clear hb); (try clear hb2); (try clear hk); (try clear hi); (try clear ho0); (try clear ho1)) | ((with_reducible refine gate_dst (N := 8) rfl ?_); refine bE ?hg (N := 8) ?hd (cs := #[.int .i64 0, .int .i64 0, .slice none 0 0, .slice none 0 0]) (t := 30) ?hr ?_; (case hd => rfl); (case hg => rfl); (case hr => first | (go_simp; done) | (go_simp; rfl)); intro gb193 hg w179 hbox hb; have z_ := bX hb (by repeat (first | (with_reducible first | exact HB.out | apply bA | apply bN | apply bD | refine bS ?_ GE155.out | refine bS ?_ GE156.out | refine bS ?_ GE184.out) | exact HB.out)); have n0_ := Aside0.mk (rB (rQ HO163) hb); have n1_ := Aside0.mk (rB (rQ HO166) hb); have n2_ := Aside0.mk (rB (rQ HO171) hb); have n3_ := Aside0.mk (rB (rQ HO174) hb); have n4_ := Aside0.mk (rB (rQ HO180) hb); have n5_ := Aside0.mk (rB (rQ HO183) hb); have n6_ := Aside0.mk (rB (rQ HO189) hb); have n7_ := Aside0.mk (rB (rQ HO192) hb); have n8_ := Aside0.mk (kB (kQ BK155) hb); have n9_ := Aside0.mk (kB (kQ BK156) hb); have n10_ := Aside0.mk (kB (kQ BK184) hb); have n11_ := Aside0.mk (bP z_ hb); have n12_ := Aside0.mk (hbox); have n13_ := Aside0.mk ((by rw [hg]; exact (bZ z_) : w.heap.size ≤ gb193)); have n14_ := Aside0.mk ((by rw [hg]; exact (bZ z_) : w.heap.size ≤ gb193)); have n15_ := Aside0.mk ((by rw [hg]; exact Nat.ne_of_lt (kL (kQ BK155)) : gb155 ≠ gb193)); have n16_ := Aside0.mk ((by rw [hg]; exact Nat.ne_of_gt (kL (kQ BK155)) : gb193 ≠ gb155)); have n17_ := Aside0.mk ((by rw [hg]; exact Nat.ne_of_lt (kL (kQ BK156)) : gb156 ≠ gb193)); have n18_ := Aside0.mk ((by rw [hg]; exact Nat.ne_of_gt (kL (kQ BK156)) : gb193 ≠ gb156)); have n19_ := Aside0.mk ((by rw [hg]; exact Nat.ne_of_lt (kL (kQ BK184)) : gb184 ≠ gb193)); have n20_ := Aside0.mk ((by rw [hg]; exact Nat.ne_of_gt (kL (kQ BK184)) : gb193 ≠ gb184)); clear HO163; clear HO166; clear HO171; clear HO174; clear HO180; clear HO183; clear HO189; clear HO192; clear BK155; clear BK156; clear BK184; clear HB; have HO163 := n0_; have HO166 := n1_; have HO171 := n2_; have HO174 := n3_; have HO180 := n4_; have HO183 := n5_; have HO189 := n6_; have HO192 := n7_; have BK155 := n8_; have BK156 := n9_; have BK184 := n10_; have HB := n11_; have BK193 := n12_; have GW193 := n13_; have GE193 := n14_; have NB155_193 := n15_; have NB193_155 := n16_; have NB156_193 := n17_; have NB193_156 := n18_; have NB184_193 := n19_; have NB193_184 := n20_; clear z_ n0_ n1_ n2_ n3_ n4_ n5_ n6_ n7_ n8_ n9_ n10_ n11_ n12_ n13_ n14_ n15_ n16_ n17_ n18_ n19_ n20_; clear hb hbox hg; have hnb180 := NB193_155.out; have hnc180 := NB155_193.out; have hnb181 := NB193_156.out; have hnc181 := NB156_193.out; have hnb182 := NB193_184.out; have hnc182 := NB184_193.out; have hcz183_0 : w179.cell? ⟨gb193, 0, none⟩ = some (.int .i64 0) := (kC BK193.out 0).trans rfl; have hcz183_1 : w179.cell? ⟨gb193, 1, none⟩ = some (.int .i64 0) := (kC BK193.out 1).trans rfl; have hcz183_2 : w179.cell? ⟨gb193, 2, none⟩ = some (.slice none 0 0) := (kC BK193.out 2).trans rfl; have hcz183_3 : w179.cell? ⟨gb193, 3, none⟩ = some (.slice none 0 0) := (kC BK193.out 3).trans rfl; have hfz183_0 := blk_frozen BK193.out 0; have hfz183_1 := blk_frozen BK193.out 1; have hfz183_2 := blk_frozen BK193.out 2; have hfz183_3 := blk_frozen BK193.out 3; obtain ⟨Ao184, co184, eo184⟩ := Kd.R_slice HO189.out; subst eo184; obtain ⟨Ao185, co185, eo185⟩ := Kd.R_slice HO192.out; subst eo185; have hcz186_0 : w179.cell? ⟨gb184, 0, none⟩ = some (.int .i64 t176) := (kC BK184.out 0).trans rfl; have hcz186_1 : w179.cell? ⟨gb184, 1, none⟩ = some (.int .i64 t177) := (kC BK184.out 1).trans rfl; have hcz186_2 : w179.cell? ⟨gb184, 2, none⟩ = some (.slice Ao175 t178.length co175) := (kC BK184.out 2).trans rfl; have hcz186_3 : w179.cell? ⟨gb184, 3, none⟩ = some (.slice Ao176 t181.length co176) := (kC BK184.out 3).trans rfl; have hfz186_0 := blk_frozen BK184.out 0; have hfz186_1 := blk_frozen BK184.out 1; have hfz186_2 := blk_frozen BK184.out 2; have hfz186_3 := blk_frozen BK184.out 3) | ((with_reducible refine gC (f := 18) rfl ?_); refine goesL_ (some 31) rfl rfl Try.func18 (by kernel_rfl) rfl #[.agg #[.int .i64 t176, .int .i64 t177, .slice Ao175 t178.length co175, .slice Ao176 t181.length co176], .agg #[.int .i64 t185, .int .i64 t186, .slice Ao184 t187.length co184, .slice Ao185 t190.length co185]] rfl lQ ?_; (with_reducible refine (impl_SameGrammar.calls k t176 t177 _ _ t178 _ _ t181 t185 t186 _ _ t187 _ _ t190 t194 _ ?side1 ?side2 ?side3 ?side4 ?side5 ?side6 ?side7 ?side8 A24.out).mono ?_); (case side1 => refine (Kd.R_reads' (e := 2) (base := w.heap.size) (ok := fun k_ => (((True ∧ some k_ ≠ (.slice Ao164 t161.length co164 : Value).ownBlock) ∧ some k_ ≠ (.slice Ao166 t169.length co166 : Value).ownBlock) ∧ some k_ ≠ (.slice Ao184 t187.length co184 : Value).ownBlock)) (n := t178.length) (c := co175) ?_).2.2; exact (by (with_reducible repeat (first | apply rA | apply rN | apply rD)); exact (rM (Kd.R_far (p := ⟨gb193, 3, none⟩) (Kd.R_far (p := ⟨gb193, 2, none⟩) (Kd.R_far (p := ⟨gb193, 1, none⟩) (Kd.R_far (p := ⟨gb193, 0, none⟩) (Kd.R_types HO180.out BK193.out (by decide)) (fun _ hk => hk.2) (.int .i64 t185)) (fun _ hk => hk.2) (.int .i64 t186)) (fun _ hk => hk.2) (.slice Ao184 t187.length co184)) (fun _ hk => hk.2) (.slice Ao185 t190.length co185)) (fun _ h_ => h_.1)))); (case side2 => exact (Kd.R_reads' HO180.out).2.1); (case side3 => refine (Kd.R_reads' (e := 67) (base := w.heap.size) (ok := fun k_ => (((True ∧ some k_ ≠ (.slice Ao165 t164.length co165 : Value).ownBlock) ∧ some k_ ≠ (.slice Ao167 t172.length co167 : Value).ownBlock) ∧ some k_ ≠ (.slice Ao185 t190.length co185 : Value).ownBlock)) (n := t181.length) (c := co176) ?_).2.2; exact (by (with_reducible repeat (first | apply rA | apply rN | apply rD)); exact (rM (Kd.R_far (p := ⟨gb193, 3, none⟩) (Kd.R_far (p := ⟨gb193, 2, none⟩) (Kd.R_far (p := ⟨gb193, 1, none⟩) (Kd.R_far (p := ⟨gb193, 0, none⟩) (Kd.R_types HO183.out BK193.out (by decide)) (fun _ hk => hk.2) (.int .i64 t185)) (fun _ hk => hk.2) (.int .i64 t186)) (fun _ hk => hk.2) (.slice Ao184 t187.length co184)) (fun _ hk => hk.2) (.slice Ao185 t190.length co185)) (fun _ h_ => h_.1)))); (case side4 => exact (Kd.R_reads' HO183.out).2.1); (case side5 => refine (Kd.R_reads' (e := 2) (base := w.heap.size) (ok := fun k_ => (((True ∧ some k_ ≠ (.slice Ao164 t161.length co164 : Value).ownBlock) ∧ some k_ ≠ (.slice Ao166 t169.length co166 : Value).ownBlock) ∧ some k_ ≠ (.slice Ao175 t178.length co175 : Value).ownBlock)) (n := t187.length) (c := co184) ?_).2.2; exact (by (with_reducible repeat (first | apply rA | apply rN | apply rD)); exact (rM (Kd.R_far (p := ⟨gb193, 3, none⟩) (Kd.R_far (p := ⟨gb193, 2, none⟩) (Kd.R_far (p := ⟨gb193, 1, none⟩) (Kd.R_far (p := ⟨gb193, 0, none⟩) (Kd.R_types HO189.out BK193.out (by decide)) (fun _ hk => hk.2) (.int .i64 t185)) (fun _ hk => hk.2) (.int .i64 t186)) (fun _ hk => hk.2) (.slice Ao184 t187.length co184)) (fun _ hk => hk.2) (.slice Ao185 t190.length co185)) (fun _ h_ => h_.1)))); (case side6 => exact (Kd.R_reads' HO189.out).2.1); (case side7 => refine (Kd.R_reads' (e := 67) (base := w.heap.size) (ok := fun k_ => (((True ∧ some k_ ≠ (.slice Ao165 t164.length co165 : Value).ownBlock) ∧ some k_ ≠ (.slice Ao167 t172.length co167 : Value).ownBlock) ∧ some k_ ≠ (.slice Ao176 t181.length co176 : Value).ownBlock)) (n := t190.length) (c := co185) ?_).2.2; exact (by (with_reducible repeat (first | apply rA | apply rN | apply rD)); exact (rM (Kd.R_far (p := ⟨gb193, 3, none⟩) (Kd.R_far (p := ⟨gb193, 2, none⟩) (Kd.R_far (p := ⟨gb193, 1, none⟩) (Kd.R_far (p := ⟨gb193, 0, none⟩) (Kd.R_types HO192.out BK193.out (by decide)) (fun _ hk => hk.2) (.int .i64 t185)) (fun _ hk => hk.2) (.int .i64 t186)) (fun _ hk => hk.2) (.slice Ao184 t187.length co184)) (fun _ hk => hk.2) (.slice Ao185 t190.length co185)) (fun _ h_ => h_.1)))); (case side8 => exact (Kd.R_reads' HO192.out).2.1); rintro e w187 ⟨rfl, hb⟩; refine ⟨_, rfl, ?_⟩; have n0_ := Aside0.mk (rB (by (with_reducible repeat (first | apply rA | apply rN | apply rD)); exact (rM (Kd.R_far (p := ⟨gb193, 3, none⟩) (Kd.R_far (p := ⟨gb193, 2, none⟩) (Kd.R_far (p := ⟨gb193, 1, none⟩) (Kd.R_far (p := ⟨gb193, 0, none⟩) (Kd.R_types HO163.out BK193.out (by decide)) (fun _ hk => hk.2) (.int .i64 t185)) (fun _ hk => hk.2) (.int .i64 t186)) (fun _ hk => hk.2) (.slice Ao184 t187.length co184)) (fun _ hk => hk.2) (.slice Ao185 t190.length co185)) (fun _ h_ => h_.1))) hb); have n1_ := Aside0.mk (rB (by (with_reducible repeat (first | apply rA | apply rN | apply rD)); exact (rM (Kd.R_far (p := ⟨gb193, 3, none⟩) (Kd.R_far (p := ⟨gb193, 2, none⟩) (Kd.R_far (p := ⟨gb193, 1, none⟩) (Kd.R_far (p := ⟨gb193, 0, none⟩) (Kd.R_types HO166.out BK193.out (by decide)) (fun _ hk => hk.2) (.int .i64 t185)) (fun _ hk => hk.2) (.int .i64 t186)) (fun _ hk => hk.2) (.slice Ao184 t187.length co184)) (fun _ hk => hk.2) (.slice Ao185 t190.length co185)) (fun _ h_ => h_.1))) hb); have n2_ := Aside0.mk (rB (by (with_reducible repeat (first | apply rA | apply rN | apply rD)); exact (rM (Kd.R_far (p := ⟨gb193, 3, none⟩) (Kd.R_far (p := ⟨gb193, 2, none⟩) (Kd.R_far (p := ⟨gb193, 1, none⟩) (Kd.R_far (p := ⟨gb193, 0, none⟩) (Kd.R_types HO171.out BK193.out (by decide)) (fun _ hk => hk.2) (.int .i64 t185)) (fun _ hk => hk.2) (.int .i64 t186)) (fun _ hk => hk.2) (.slice Ao184 t187.length co184)) (fun _ hk => hk.2) (.slice Ao185 t190.length co185)) (fun _ h_ => h_.1))) hb); have n3_ := Aside0.mk (rB (by (with_reducible repeat (first | apply rA | apply rN | apply rD)); exact (rM (Kd.R_far (p := ⟨gb193, 3, none⟩) (Kd.R_far (p := ⟨gb193, 2, none⟩) (Kd.R_far (p := ⟨gb193, 1, none⟩) (Kd.R_far (p := ⟨gb193, 0, none⟩) (Kd.R_types HO174.out BK193.out (by decide)) (fun _ hk => hk.2) (.int .i64 t185)) (fun _ hk => hk.2) (.int .i64 t186)) (fun _ hk => hk.2) (.slice Ao184 t187.length co184)) (fun _ hk => hk.2) (.slice Ao185 t190.length co185)) (fun _ h_ => h_.1))) hb); have n4_ := Aside0.mk (rB (by (with_reducible repeat (first | apply rA | apply rN | apply rD)); exact (rM (Kd.R_far (p := ⟨gb193, 3, none⟩) (Kd.R_far (p := ⟨gb193, 2, none⟩) (Kd.R_far (p := ⟨gb193, 1, none⟩) (Kd.R_far (p := ⟨gb193, 0, none⟩) (Kd.R_types HO180.out BK193.out (by decide)) (fun _ hk => hk.2) (.int .i64 t185)) (fun _ hk => hk.2) (.int .i64 t186)) (fun _ hk => hk.2) (.slice Ao184 t187.length co184)) (fun _ hk => hk.2) (.slice Ao185 t190.length co185)) (fun _ h_ => h_.1))) hb); have n5_ := Aside0.mk (rB (by (with_reducible repeat (first | apply rA | apply rN | apply rD)); exact (rM (Kd.R_far (p := ⟨gb193, 3, none⟩) (Kd.R_far (p := ⟨gb193, 2, none⟩) (Kd.R_far (p := ⟨gb193, 1, none⟩) (Kd.R_far (p := ⟨gb193, 0, none⟩) (Kd.R_types HO183.out BK193.out (by decide)) (fun _ hk => hk.2) (.int .i64 t185)) (fun _ hk => hk.2) (.int .i64 t186)) (fun _ hk => hk.2) (.slice Ao184 t187.length co184)) (fun _ hk => hk.2) (.slice Ao185 t190.length co185)) (fun _ h_ => h_.1))) hb); have n6_ := Aside0.mk (rB (by (with_reducible repeat (first | apply rA | apply rN | apply rD)); exact (rM (Kd.R_far (p := ⟨gb193, 3, none⟩) (Kd.R_far (p := ⟨gb193, 2, none⟩) (Kd.R_far (p := ⟨gb193, 1, none⟩) (Kd.R_far (p := ⟨gb193, 0, none⟩) (Kd.R_types HO189.out BK193.out (by decide)) (fun _ hk => hk.2) (.int .i64 t185)) (fun _ hk => hk.2) (.int .i64 t186)) (fun _ hk => hk.2) (.slice Ao184 t187.length co184)) (fun _ hk => hk.2) (.slice Ao185 t190.length co185)) (fun _ h_ => h_.1))) hb); have n7_ := Aside0.mk (rB (by (with_reducible repeat (first | apply rA | apply rN | apply rD)); exact (rM (Kd.R_far (p := ⟨gb193, 3, none⟩) (Kd.R_far (p := ⟨gb193, 2, none⟩) (Kd.R_far (p := ⟨gb193, 1, none⟩) (Kd.R_far (p := ⟨gb193, 0, none⟩) (Kd.R_types HO192.out BK193.out (by decide)) (fun _ hk => hk.2) (.int .i64 t185)) (fun _ hk => hk.2) (.int .i64 t186)) (fun _ hk => hk.2) (.slice Ao184 t187.length co184)) (fun _ hk => hk.2) (.slice Ao185 t190.length co185)) (fun _ h_ => h_.1))) hb); have n8_ := Aside0.mk (kB (g := gb155) (o := .cells #[.int .i64 a0_0, .int .i64 a0_1, .slice A0_2 l0_2.length c0_2, .slice A0_3 l0_3.length c0_3] 25 (0, 0)) (by (with_reducible repeat (first | refine kN ?_ _ | refine kD ?_ | refine kA ?_ _)); refine kF ?_ NB155_193.out _; (with_reducible repeat (first | refine kN ?_ _ | refine kD ?_ | refine kA ?_ _)); refine kF ?_ NB155_193.out _; (with_reducible repeat (first | refine kN ?_ _ | refine kD ?_ | refine kA ?_ _)); refine kF ?_ NB155_193.out _; (with_reducible repeat (first | refine kN ?_ _ | refine kD ?_ | refine kA ?_ _)); refine kF ?_ NB155_193.out _; (with_reducible repeat (first | refine kN ?_ _ | refine kD ?_ | refine kA ?_ _)); exact BK155.out) hb); have n9_ := Aside0.mk (kB (g := gb156) (o := .cells #[.int .i64 a1_0, .int .i64 a1_1, .slice A1_2 l1_2.length c1_2, .slice A1_3 l1_3.length c1_3] 25 (0, 0)) (by (with_reducible repeat (first | refine kN ?_ _ | refine kD ?_ | refine kA ?_ _)); refine kF ?_ NB156_193.out _; (with_reducible repeat (first | refine kN ?_ _ | refine kD ?_ | refine kA ?_ _)); refine kF ?_ NB156_193.out _; (with_reducible repeat (first | refine kN ?_ _ | refine kD ?_ | refine kA ?_ _)); refine kF ?_ NB156_193.out _; (with_reducible repeat (first | refine kN ?_ _ | refine kD ?_ | refine kA ?_ _)); refine kF ?_ NB156_193.out _; (with_reducible repeat (first | refine kN ?_ _ | refine kD ?_ | refine kA ?_ _)); exact BK156.out) hb); have n10_ := Aside0.mk (kB (g := gb184) (o := .cells #[.int .i64 t176, .int .i64 t177, .slice Ao175 t178.length co175, .slice Ao176 t181.length co176] 30 (0, 0)) (by (with_reducible repeat (first | refine kN ?_ _ | refine kD ?_ | refine kA ?_ _)); refine kF ?_ NB184_193.out _; (with_reducible repeat (first | refine kN ?_ _ | refine kD ?_ | refine kA ?_ _)); refine kF ?_ NB184_193.out _; (with_reducible repeat (first | refine kN ?_ _ | refine kD ?_ | refine kA ?_ _)); refine kF ?_ NB184_193.out _; (with_reducible repeat (first | refine kN ?_ _ | refine kD ?_ | refine kA ?_ _)); refine kF ?_ NB184_193.out _; (with_reducible repeat (first | refine kN ?_ _ | refine kD ?_ | refine kA ?_ _)); exact BK184.out) hb); have n11_ := Aside0.mk (kB (g := gb193) (o := .cells #[.int .i64 t185, .int .i64 t186, .slice Ao184 t187.length co184, .slice Ao185 t190.length co185] 30 (0, 0)) (by (with_reducible repeat (first | refine kN ?_ _ | refine kD ?_ | refine kA ?_ _)); refine blk_put (cs := #[.int .i64 t185, .int .i64 t186, .slice Ao184 t187.length co184, .slice none 0 0]) ?_ 3 _ rfl; (with_reducible repeat (first | refine kN ?_ _ | refine kD ?_ | refine kA ?_ _)); refine blk_put (cs := #[.int .i64 t185, .int .i64 t186, .slice none 0 0, .slice none 0 0]) ?_ 2 _ rfl; (with_reducible repeat (first | refine kN ?_ _ | refine kD ?_ | refine kA ?_ _)); refine blk_put (cs := #[.int .i64 t185, .int .i64 0, .slice none 0 0, .slice none 0 0]) ?_ 1 _ rfl; (with_reducible repeat (first | refine kN ?_ _ | refine kD ?_ | refine kA ?_ _)); refine blk_put (cs := #[.int .i64 0, .int .i64 0, .slice none 0 0, .slice none 0 0]) ?_ 0 _ rfl; (with_reducible repeat (first | refine kN ?_ _ | refine kD ?_ | refine kA ?_ _)); exact BK193.out) hb); have n12_ := Aside0.mk (bP (by repeat (first | (with_reducible first | exact HB.out | apply bA | apply bN | apply bD | refine bS ?_ GE155.out | refine bS ?_ GE156.out | refine bS ?_ GE184.out | refine bS ?_ GE193.out) | exact HB.out)) hb); clear HO163; clear HO166; clear HO171; clear HO174; clear HO180; clear HO183; clear HO189; clear HO192; clear BK155; clear BK156; clear BK184; clear BK193; clear HB; have HO163 := n0_; have HO166 := n1_; have HO171 := n2_; have HO174 := n3_; have HO180 := n4_; have HO183 := n5_; have HO189 := n6_; have HO192 := n7_; have BK155 := n8_; have BK156 := n9_; have BK184 := n10_; have BK193 := n11_; have HB := n12_; clear n0_ n1_ n2_ n3_ n4_ n5_ n6_ n7_ n8_ n9_ n10_ n11_ n12_; (try clear hb); (try clear hb2); (try clear hk); (try clear hi)))
     have n0_ := Aside0.mk (rD HO163.out)
     have n1_ := Aside0.mk (rD HO166.out)
     have n2_ := Aside0.mk (rD HO171.out)
     have n3_ := Aside0.mk (rD HO174.out)
     have n4_ := Aside0.mk (rD HO180.out)
     have n5_ := Aside0.mk (rD HO183.out)
     have n6_ := Aside0.mk (rD HO189.out)
     have n7_ := Aside0.mk (rD HO192.out)
     have n8_ := Aside0.mk (kD BK155.out)
     have n9_ := Aside0.mk (kD BK156.out)
     have n10_ := Aside0.mk (kD BK184.out)
     have n11_ := Aside0.mk (kD BK193.out)
     have n12_ := Aside0.mk (bD HB.out)
     clear HO163
     clear HO166
     clear HO171
     clear HO174
     clear HO180
     clear HO183
     clear HO189
     clear HO192
     clear BK155
     clear BK156
     clear BK184
     clear BK193
     clear HB
     have HO163 := n0_
     have HO166 := n1_
     have HO171 := n2_
     have HO174 := n3_
     have HO180 := n4_
     have HO183 := n5_
     have HO189 := n6_
     have HO192 := n7_
     have BK155 := n8_
     have BK156 := n9_
     have BK184 := n10_
     have BK193 := n11_
     have HB := n12_
     clear n0_ n1_ n2_ n3_ n4_ n5_ n6_ n7_ n8_ n9_ n10_ n11_ n12_
     refine start_ (n := 5) (S := fun w' => w'.cell? ⟨gb184, 0, none⟩ = some (.int .i64 t176) ∧ w'.cell? ⟨gb184, 1, none⟩ = some (.int .i64 t177) ∧ w'.cell? ⟨gb184, 2, none⟩ = some (.slice Ao175 t178.length co175) ∧ w'.cell? ⟨gb184, 3, none⟩ = some (.slice Ao176 t181.length co176) ∧ w'.cell? ⟨gb155, 0, none⟩ = some (.int .i64 a0_0) ∧ w'.cell? ⟨gb155, 1, none⟩ = some (.int .i64 a0_1) ∧ w'.cell? ⟨gb155, 2, none⟩ = some (.slice A0_2 l0_2.length c0_2) ∧ w'.cell? ⟨gb155, 3, none⟩ = some (.slice A0_3 l0_3.length c0_3)) (ds := []) #[F,F,F,F,F] (by kernel_rfl) rfl rfl ⟨(kC BK184.out 0).trans rfl, (kC BK184.out 1).trans rfl, (kC BK184.out 2).trans rfl, (kC BK184.out 3).trans rfl, (kC BK155.out 0).trans rfl, (kC BK155.out 1).trans rfl, (kC BK155.out 2).trans rfl, (kC BK155.out 3).trans rfl⟩ (fun hHeld => ?_)
     generalize w187.drew = w188 at HO163 HO166 HO171 HO174 HO180 HO183 HO189 HO192 BK155 BK156 BK184 BK193 HB hHeld ⊢
     refine take_ (i := 0) (N := some 35) (v := ?_) (a' := ?_) #[T,F,F,F,F] rfl rfl (by kernel_rfl) (fun _ _ _ h => h) (Or.inl ⟨by rfl, ?_⟩) hHeld ?_ ?_; rotate_left; (·rintro w' ⟨s0, s1, s2, s3, s4, s5, s6, s7⟩; go_simp; with_reducible rfl); rotate_left; (·simp only [Act.put, sI, sZ, sS, iW, jW]; rfl)
     refine take_ (i := 1) (N := some 36) (v := ?_) (a' := ?_) #[T,T,F,F,F] rfl rfl (by kernel_rfl) (fun _ _ _ h => h) (Or.inl ⟨by rfl, ?_⟩) hHeld ?_ ?_; rotate_left; (·rintro w' ⟨s0, s1, s2, s3, s4, s5, s6, s7⟩; go_simp; with_reducible rfl); rotate_left; (·simp only [Act.put, sI, sZ, sS, iW, jW]; rfl)
     refine one_ (i := 2) (N := some 37) #[T,T,T,F,F] rfl rfl (by kernel_rfl) (by decide) (fun K hK => ?_)
     refine goes_ Try.func17 (by kernel_rfl) rfl #[.agg #[.int .i64 a0_0, .int .i64 a0_1, .slice A0_2 l0_2.length c0_2, .slice A0_3 l0_3.length c0_3]] (by rfl) rfl rfl lQ ?_
     with_reducible refine (laws_toGrammar.calls k a0_0 a0_1 _ _ l0_2 _ _ l0_3 t195 t196 t197 t200 _ ?side1 ?side2 ?side3 ?side4 A60.out).mono ?_
     (case side1 => repeat (first | exact (cB HR0_2.out HB.out) | (with_reducible refine cA ?_ _) | (with_reducible refine cN ?_ _) | (with_reducible refine cD ?_)))
     (case side2 => exact HC0_2.out)
     (case side3 => repeat (first | exact (cB HR0_3.out HB.out) | (with_reducible refine cA ?_ _) | (with_reducible refine cN ?_ _) | (with_reducible refine cD ?_)))
     (case side4 => exact HC0_3.out)
     rintro e w189 ⟨v198, v201, rfl, ho0, ho1, hb⟩
     refine ⟨_, rfl, ?_⟩
     have z_ := bX hb (by repeat (first | (with_reducible first | exact HB.out | apply bA | apply bN | apply bD | refine bS ?_ GE155.out | refine bS ?_ GE156.out | refine bS ?_ GE184.out | refine bS ?_ GE193.out) | exact HB.out))
     have n0_ := Aside0.mk (rE (rQ HO163) (Kd.R_base ho0) hb)
     have n1_ := Aside0.mk (rE (rQ HO166) (Kd.R_base ho1) hb)
     have n2_ := Aside0.mk (rE (rQ HO171) (Kd.R_base ho0) hb)
     have n3_ := Aside0.mk (rE (rQ HO174) (Kd.R_base ho1) hb)
     have n4_ := Aside0.mk (rE (rQ HO180) (Kd.R_base ho0) hb)
     have n5_ := Aside0.mk (rE (rQ HO183) (Kd.R_base ho1) hb)
     have n6_ := Aside0.mk (rE (rQ HO189) (Kd.R_base ho0) hb)
     have n7_ := Aside0.mk (rE (rQ HO192) (Kd.R_base ho1) hb)
     have n8_ := Aside0.mk (rL (rW (rW (rW (rW ho0 (rT (rQ HO163))) (rT (rQ HO171))) (rT (rQ HO180))) (rT (rQ HO189))) (bZ z_))
     have n9_ := Aside0.mk (rL (rW (rW (rW (rW ho1 (rT (rQ HO166))) (rT (rQ HO174))) (rT (rQ HO183))) (rT (rQ HO192))) (bZ z_))
     have n10_ := Aside0.mk (kB (kQ BK155) hb)
     have n11_ := Aside0.mk (kB (kQ BK156) hb)
     have n12_ := Aside0.mk (kB (kQ BK184) hb)
     have n13_ := Aside0.mk (kB (kQ BK193) hb)
     have n14_ := Aside0.mk (bP z_ hb)
     clear HO163
     clear HO166
     clear HO171
     clear HO174
     clear HO180
     clear HO183
     clear HO189
     clear HO192
     clear BK155
     clear BK156
     clear BK184
     clear BK193
     clear HB
     have HO163 := n0_
     have HO166 := n1_
     have HO171 := n2_
     have HO174 := n3_
     have HO180 := n4_
     have HO183 := n5_
     have HO189 := n6_
     have HO192 := n7_
     have HO199 := n8_
     have HO202 := n9_
     have BK155 := n10_
     have BK156 := n11_
     have BK184 := n12_
     have BK193 := n13_
     have HB := n14_
     clear z_ n0_ n1_ n2_ n3_ n4_ n5_ n6_ n7_ n8_ n9_ n10_ n11_ n12_ n13_ n14_
     (try clear hb)
     (try clear hb2)
     (try clear hk)
     (try clear hi)
     (try clear ho0)
     (try clear ho1)
     obtain ⟨Ao190, co190, eo190⟩ := Kd.R_slice HO199.out
     (first | subst eo190 | (injection eo190 with f1_ f2_ f3_; have f4_ := f1_.symm; have f5_ := f3_.symm; clear f1_ f2_ f3_; subst f4_; subst f5_))
     obtain ⟨Ao191, co191, eo191⟩ := Kd.R_slice HO202.out
     (first | subst eo191 | (injection eo191 with f1_ f2_ f3_; have f4_ := f1_.symm; have f5_ := f3_.symm; clear f1_ f2_ f3_; subst f4_; subst f5_))
     refine hK.out _ _ ⟨(kC BK184.out 0).trans rfl, (kC BK184.out 1).trans rfl, (kC BK184.out 2).trans rfl, (kC BK184.out 3).trans rfl, (kC BK155.out 0).trans rfl, (kC BK155.out 1).trans rfl, (kC BK155.out 2).trans rfl, (kC BK155.out 3).trans rfl⟩ (fun hHeld => ?_)
     clear hK K
     refine norm_ (a' := ?_) ?_ ?_
     rotate_left
     ·show Act.put _ (some 37) _ = _
      simp only [Act.put, sI, sZ, sS, iW, jW]
      rfl
     refine one_ (i := 3) (N := some 38) #[T,T,T,T,F] rfl rfl (by kernel_rfl) (by decide) (fun K hK => ?_)
     refine goes_ Try.func19 (by kernel_rfl) rfl #[.agg #[.int .i64 t176, .int .i64 t177, .slice Ao175 t178.length co175, .slice Ao176 t181.length co176], .agg #[.int .i64 t195, .int .i64 t196, .slice Ao190 t197.length co190, .slice Ao191 t200.length co191]] (by rfl) rfl rfl lQ ?_
     with_reducible refine (laws_eqGrammar.calls k t176 t177 _ _ t178 _ _ t181 t195 t196 _ _ t197 _ _ t200 false _ ?side1 ?side2 ?side3 ?side4 ?side5 ?side6 ?side7 ?side8 A61.out).mono ?_
     (case side1 => repeat (first | exact (Kd.R_reads' HO180.out).2.2 | (with_reducible refine cA ?_ _) | (with_reducible refine cN ?_ _) | (with_reducible refine cD ?_)))
     (case side2 => exact (Kd.R_reads' HO180.out).2.1)
     (case side3 => repeat (first | exact (Kd.R_reads' HO183.out).2.2 | (with_reducible refine cA ?_ _) | (with_reducible refine cN ?_ _) | (with_reducible refine cD ?_)))
     (case side4 => exact (Kd.R_reads' HO183.out).2.1)
     (case side5 => repeat (first | exact (Kd.R_reads' HO199.out).2.2 | (with_reducible refine cA ?_ _) | (with_reducible refine cN ?_ _) | (with_reducible refine cD ?_)))
     (case side6 => exact (Kd.R_reads' HO199.out).2.1)
     (case side7 => repeat (first | exact (Kd.R_reads' HO202.out).2.2 | (with_reducible refine cA ?_ _) | (with_reducible refine cN ?_ _) | (with_reducible refine cD ?_)))
     (case side8 => exact (Kd.R_reads' HO202.out).2.1)
     rintro e w192 ⟨rfl, hb⟩
     refine ⟨_, rfl, ?_⟩
     have n0_ := Aside0.mk (rB (rQ HO163) hb)
     have n1_ := Aside0.mk (rB (rQ HO166) hb)
     have n2_ := Aside0.mk (rB (rQ HO171) hb)
     have n3_ := Aside0.mk (rB (rQ HO174) hb)
     have n4_ := Aside0.mk (rB (rQ HO180) hb)
     have n5_ := Aside0.mk (rB (rQ HO183) hb)
     have n6_ := Aside0.mk (rB (rQ HO189) hb)
     have n7_ := Aside0.mk (rB (rQ HO192) hb)
     have n8_ := Aside0.mk (rB (rQ HO199) hb)
     have n9_ := Aside0.mk (rB (rQ HO202) hb)
     have n10_ := Aside0.mk (kB (kQ BK155) hb)
     have n11_ := Aside0.mk (kB (kQ BK156) hb)
     have n12_ := Aside0.mk (kB (kQ BK184) hb)
     have n13_ := Aside0.mk (kB (kQ BK193) hb)
     have n14_ := Aside0.mk (bP (by repeat (first | (with_reducible first | exact HB.out | apply bA | apply bN | apply bD | refine bS ?_ GE155.out | refine bS ?_ GE156.out | refine bS ?_ GE184.out | refine bS ?_ GE193.out) | exact HB.out)) hb)
     clear HO163
     clear HO166
     clear HO171
     clear HO174
     clear HO180
     clear HO183
     clear HO189
     clear HO192
     clear HO199
     clear HO202
     clear BK155
     clear BK156
     clear BK184
     clear BK193
     clear HB
     have HO163 := n0_
     have HO166 := n1_
     have HO171 := n2_
     have HO174 := n3_
     have HO180 := n4_
     have HO183 := n5_
     have HO189 := n6_
     have HO192 := n7_
     have HO199 := n8_
     have HO202 := n9_
     have BK155 := n10_
     have BK156 := n11_
     have BK184 := n12_
     have BK193 := n13_
     have HB := n14_
     clear n0_ n1_ n2_ n3_ n4_ n5_ n6_ n7_ n8_ n9_ n10_ n11_ n12_ n13_ n14_
     (try clear hb)
     (try clear hb2)
     (try clear hk)
     (try clear hi)
     refine hK.out _ _ ⟨(kC BK184.out 0).trans rfl, (kC BK184.out 1).trans rfl, (kC BK184.out 2).trans rfl, (kC BK184.out 3).trans rfl, (kC BK155.out 0).trans rfl, (kC BK155.out 1).trans rfl, (kC BK155.out 2).trans rfl, (kC BK155.out 3).trans rfl⟩ (fun hHeld => ?_)
     clear hK K
     refine norm_ (a' := ?_) ?_ ?_
     rotate_left
     ·show Act.put _ (some 38) _ = _
      simp only [Act.put, sI, sZ, sS, iW, jW]
      rfl
     refine pure_ (i := 4) (N := some 39) (v := ?_) (a' := ?_) #[T,T,T,T,T] rfl rfl (by kernel_rfl) (fun _ _ _ h => h) (Or.inl ⟨by rfl, ?_⟩) ?_ ?_; rotate_left; (·intro w'; go_simp; with_reducible rfl); rotate_left; (·simp only [Act.put, sI, sZ, sS, iW, jW]; rfl)
     refine done_ (by kernel_rfl) ?_
     try go_wp2
     go_ret
     exact ⟨by first | rfl | (simp [errW_none, errW_some] <;> rfl) | (simp [*, errW_none, errW_some] <;> rfl), by repeat (first | (with_reducible first | exact HB.out | apply bA | apply bN | apply bD | refine bS ?_ GE155.out | refine bS ?_ GE156.out | refine bS ?_ GE184.out | refine bS ?_ GE193.out) | exact HB.out)⟩

/-- THE ONE PURE STATEMENT of laws_FnExactSameGrammar. -/
def laws_FnExactSameGrammar.Pure : Prop := ∀ (a0_0 : Int) (a0_1 : Int) (l0_2 : List Int) (l0_3 : List (S108)) (a1_0 : Int) (a1_1 : Int) (l1_2 : List Int) (l1_3 : List (S108)), (Lit.int .i64 a0_0).wf = true → (Lit.int .i64 a0_1).wf = true → (l0_2.length ≤ maxLen ∧ ∀ x ∈ l0_2, (Lit.int .i64 x).wf = true) → (l0_3.length ≤ maxLen ∧ ∀ x ∈ l0_3, (Lit.int .i64 x.f0).wf = true ∧ (Lit.int .i64 x.f1).wf = true ∧ (Lit.int .i64 x.f2).wf = true) → (Lit.int .i64 a1_0).wf = true → (Lit.int .i64 a1_1).wf = true → (l1_2.length ≤ maxLen ∧ ∀ x ∈ l1_2, (Lit.int .i64 x).wf = true) → (l1_3.length ≤ maxLen ∧ ∀ x ∈ l1_3, (Lit.int .i64 x.f0).wf = true ∧ (Lit.int .i64 x.f1).wf = true ∧ (Lit.int .i64 x.f2).wf = true) → ∃ k, laws_FnExactSameGrammar.f k a0_0 a0_1 l0_2 l0_3 a1_0 a1_1 l1_2 l1_3 = some true

end Go.Proofs.Ytijbhcalknfijaa.M4
-- shrunk
-- tight
-- tight2
