/- What functions of the given program compute, as plain Lean functions, and that the code comes to just that; by a program of this session over the kit's print. No condition. -/
import Derived.Test.YtlmeijlandogaaaDoorTight
import Derived.Test.YtlmeijlandogaaaDoorRx0
import Derived.Test.YtlmeijlandogaaaDoorRx6
import Derived.Test.YtlmeijlandogaaaDoorRx16
import Derived.Test.YtlmeijlandogaaaDoorRx17
namespace Go.Proofs.YtlmeijlandogaaaDoor.R
open Go.RowKit Go.Proofs.YtlmeijlandogaaaDoorW.PrintWords Go.Proofs.YtlmeijlandogaaaDoorW.PrintLast Go.Proofs.YtlmeijlandogaaaDoorW.PrintMore
open Go.Proofs.YtlmeijlandogaaaDoorW.PrintWords renaming below_alloc → bA, pw_below_drewN → bN, below_drew1 → bD, below_set → bS, blk_drewN → kN, blk_drew → kD, blk_alloc → kA, blk_below → kB, below_size → bZ, below_step → bP, blk_far → kF, blk_lt → kL, gate_callee → gC, box_event → bE, blk_cell → kC
open Go.Proofs.YtlmeijlandogaaaDoorW.PrintWords.Kd renaming R_alloc → rA, R_drewN → rN, R_drew → rD, C_alloc → cA, C_drewN → cN, C_drew → cD, R_lower → rL, R_below → rB, R_elder' → rE, R_new' → rW, R_lt → rT, R_mono → rM
open List renaming setIfInBounds_toArray → sI, set_cons_zero → sZ, set_cons_succ → sS
attribute [local go_sem] max2_int min2_int max_two min_two max_three min_three max_four min_four   -- for this text's walks alone
set_option linter.unusedVariables false
set_option linter.unusedSimpArgs false

/-! ### laws_FnExactReadGrammar: function 4 -/
mutual
def laws_FnExactReadGrammar.j0 : Nat → ByteArray → Bool → Bool → Int → Int → List Int → List (S63) → Int → Int → List Int → List (S63) → Option (Bool)
 | 0, _, _, _, _, _, _, _, _, _, _, _ => none
 | k + 1, x0, x4, x32, x322000, x322001, x322002, x322003, x332000, x332001, x332002, x332003 => if x32 = true then (some false) else ((laws_markGrammar.f k x332000 x332001 x332002 x332003 1).bind fun bt333 => ((laws_heldGrammar.f k x332000 x332001 bt333.2.1 bt333.2.2 1).bind fun t336 => (if t336 < 0 then (some false) else (if t336 = bt333.1 then ((impl_ReadGrammar.f k x0).bind fun bt337 => ((laws_eqGrammar.f k bt337.1 bt337.2.1 bt337.2.2.1 bt337.2.2.2.1 x322000 x322001 x322002 x322003).bind fun t347 => (if t347 = true then (laws_FnExactReadGrammar.j1 k bt333.1 (bt337.2.2.2.2 != x4) x332000 x332001 bt333.2.1 bt333.2.2) else (laws_FnExactReadGrammar.j1 k bt333.1 true x332000 x332001 bt333.2.1 bt333.2.2)))) else (some false)))))
def laws_FnExactReadGrammar.j1 : Nat → Int → Bool → Int → Int → List Int → List (S63) → Option (Bool)
 | 0, _, _, _, _, _, _ => none
 | k + 1, x7, x57, x332000, x332001, x332002, x332003 => if x57 = true then (some false) else ((laws_heldGrammar.f k x332000 x332001 x332002 x332003 1).bind fun t348 => (if t348 < 0 then (some false) else (if t348 = x7 then (some true) else (some false))))
end
def laws_FnExactReadGrammar.f (k : Nat) (a0 : ByteArray) : Option (Bool) := if (a0.size : Int) > 1048576 then (some true) else ((spec_ReadGrammar.f k a0).bind fun bt312 => ((impl_ReadGrammar.f k a0).bind fun bt322 => ((laws_eqGrammar.f k bt322.1 bt322.2.1 bt322.2.2.1 bt322.2.2.2.1 bt312.1 bt312.2.1 bt312.2.2.1 bt312.2.2.2.1).bind fun t332 => (if t332 = true then (laws_FnExactReadGrammar.j0 k a0 bt312.2.2.2.2 (bt322.2.2.2.2 != bt312.2.2.2.2) bt312.1 bt312.2.1 bt312.2.2.1 bt312.2.2.2.1 bt322.1 bt322.2.1 bt322.2.2.1 bt322.2.2.2.1) else (laws_FnExactReadGrammar.j0 k a0 bt312.2.2.2.2 true bt312.1 bt312.2.1 bt312.2.2.1 bt312.2.2.2.1 bt322.1 bt322.2.1 bt322.2.2.1 bt322.2.2.2.1)))))
theorem laws_FnExactReadGrammar.mono_l : ∀ k, (∀ y0 y1 y2 y3 y4 y5 y6 y7 y8 y9 y10, LeO (laws_FnExactReadGrammar.j0 k y0 y1 y2 y3 y4 y5 y6 y7 y8 y9 y10) (laws_FnExactReadGrammar.j0 (k + 1) y0 y1 y2 y3 y4 y5 y6 y7 y8 y9 y10)) ∧ (∀ y0 y1 y2 y3 y4 y5, LeO (laws_FnExactReadGrammar.j1 k y0 y1 y2 y3 y4 y5) (laws_FnExactReadGrammar.j1 (k + 1) y0 y1 y2 y3 y4 y5))
 | 0 => ⟨fun _ _ _ _ _ _ _ _ _ _ _ r h => by simp [laws_FnExactReadGrammar.j0] at h, fun _ _ _ _ _ _ r h => by simp [laws_FnExactReadGrammar.j1] at h⟩
 | k + 1 => by
  obtain ⟨ih0, ih1⟩ := laws_FnExactReadGrammar.mono_l k
  refine ⟨?_, ?_⟩
  ·intro y0 y1 y2 y3 y4 y5 y6 y7 y8 y9 y10
   unfold laws_FnExactReadGrammar.j0
   repeat' first
   | (with_reducible exact ih0 _ _ _ _ _ _ _ _ _ _ _)
   | (with_reducible exact ih1 _ _ _ _ _ _)
   | (with_reducible exact impl_ReadGrammar.mono _ _)
   | (with_reducible exact laws_eqGrammar.mono _ _ _ _ _ _ _ _ _)
   | (with_reducible exact laws_heldGrammar.mono _ _ _ _ _ _)
   | (with_reducible exact laws_markGrammar.mono _ _ _ _ _ _)
   | (with_reducible exact spec_ReadGrammar.mono _ _)
   | (with_reducible exact LeO.refl _)
   | (with_reducible exact LeO.none _)
   | (with_reducible refine LeO.ite ?_ ?_)
   | (with_reducible refine LeO.bind ?_ (fun _ => ?_))
   | exact ih0 _ _ _ _ _ _ _ _ _ _ _
   | exact ih1 _ _ _ _ _ _
   | exact impl_ReadGrammar.mono _ _
   | exact laws_eqGrammar.mono _ _ _ _ _ _ _ _ _
   | exact laws_heldGrammar.mono _ _ _ _ _ _
   | exact laws_markGrammar.mono _ _ _ _ _ _
   | exact spec_ReadGrammar.mono _ _
   | exact LeO.none _
   | refine LeO.ite ?_ ?_
   | refine LeO.bind ?_ (fun _ => ?_)
  ·intro y0 y1 y2 y3 y4 y5
   unfold laws_FnExactReadGrammar.j1
   repeat' first
   | (with_reducible exact ih0 _ _ _ _ _ _ _ _ _ _ _)
   | (with_reducible exact ih1 _ _ _ _ _ _)
   | (with_reducible exact impl_ReadGrammar.mono _ _)
   | (with_reducible exact laws_eqGrammar.mono _ _ _ _ _ _ _ _ _)
   | (with_reducible exact laws_heldGrammar.mono _ _ _ _ _ _)
   | (with_reducible exact laws_markGrammar.mono _ _ _ _ _ _)
   | (with_reducible exact spec_ReadGrammar.mono _ _)
   | (with_reducible exact LeO.refl _)
   | (with_reducible exact LeO.none _)
   | (with_reducible refine LeO.ite ?_ ?_)
   | (with_reducible refine LeO.bind ?_ (fun _ => ?_))
   | exact ih0 _ _ _ _ _ _ _ _ _ _ _
   | exact ih1 _ _ _ _ _ _
   | exact impl_ReadGrammar.mono _ _
   | exact laws_eqGrammar.mono _ _ _ _ _ _ _ _ _
   | exact laws_heldGrammar.mono _ _ _ _ _ _
   | exact laws_markGrammar.mono _ _ _ _ _ _
   | exact spec_ReadGrammar.mono _ _
   | exact LeO.none _
   | refine LeO.ite ?_ ?_
   | refine LeO.bind ?_ (fun _ => ?_)
theorem laws_FnExactReadGrammar.mono : ∀ a0 k, LeO (laws_FnExactReadGrammar.f k a0) (laws_FnExactReadGrammar.f (k + 1) a0) := by
 intro a0 k
 obtain ⟨ih0, ih1⟩ := laws_FnExactReadGrammar.mono_l k
 unfold laws_FnExactReadGrammar.f
 repeat' first
   | (with_reducible exact ih0 _ _ _ _ _ _ _ _ _ _ _)
   | (with_reducible exact ih1 _ _ _ _ _ _)
   | (with_reducible exact impl_ReadGrammar.mono _ _)
   | (with_reducible exact laws_eqGrammar.mono _ _ _ _ _ _ _ _ _)
   | (with_reducible exact laws_heldGrammar.mono _ _ _ _ _ _)
   | (with_reducible exact laws_markGrammar.mono _ _ _ _ _ _)
   | (with_reducible exact spec_ReadGrammar.mono _ _)
   | (with_reducible exact LeO.refl _)
   | (with_reducible exact LeO.none _)
   | (with_reducible refine LeO.ite ?_ ?_)
   | (with_reducible refine LeO.bind ?_ (fun _ => ?_))
   | exact ih0 _ _ _ _ _ _ _ _ _ _ _
   | exact ih1 _ _ _ _ _ _
   | exact impl_ReadGrammar.mono _ _
   | exact laws_eqGrammar.mono _ _ _ _ _ _ _ _ _
   | exact laws_heldGrammar.mono _ _ _ _ _ _
   | exact laws_markGrammar.mono _ _ _ _ _ _
   | exact spec_ReadGrammar.mono _ _
   | exact LeO.none _
   | refine LeO.ite ?_ ?_
   | refine LeO.bind ?_ (fun _ => ?_)
set_option maxHeartbeats 8000000 in
set_option maxRecDepth 100000 in
theorem laws_FnExactReadGrammar.calls (k : Nat) (a0 : ByteArray) (r : Bool) (w : World) (hT : TabR w) (h : laws_FnExactReadGrammar.f k a0 = some r) :
  Calls Tryd.prog 4 #[.string a0] w fun e w' => e = .returned (.bool r) ∧ Below w.heap.size w w' := by
 have hu31 := Tryd.underlying31
 have HB := Aside0.mk (Below.refl w.heap.size w)
 have H : (if (a0.size : Int) > 1048576 then (some true) else ((spec_ReadGrammar.f k a0).bind fun bt312 => ((impl_ReadGrammar.f k a0).bind fun bt322 => ((laws_eqGrammar.f k bt322.1 bt322.2.1 bt322.2.2.1 bt322.2.2.2.1 bt312.1 bt312.2.1 bt312.2.2.1 bt312.2.2.2.1).bind fun t332 => (if t332 = true then (laws_FnExactReadGrammar.j0 k a0 bt312.2.2.2.2 (bt322.2.2.2.2 != bt312.2.2.2.2) bt312.1 bt312.2.1 bt312.2.2.1 bt312.2.2.2.1 bt322.1 bt322.2.1 bt322.2.2.1 bt322.2.2.2.1) else (laws_FnExactReadGrammar.j0 k a0 bt312.2.2.2.2 true bt312.1 bt312.2.1 bt312.2.2.1 bt312.2.2.2.1 bt322.1 bt322.2.1 bt322.2.2.1 bt322.2.2.2.1)))))) = some r := h
 clear h
 by_cases c2 : (a0.size : Int) > 1048576
 ·rw [if_pos c2] at H
  have c2b0 : decide (1048576 < (a0.size : Int)) = true := decide_eq_true c2
  have c2b1 : decide (1048576 < a0.size) = true := decide_eq_true (by omega)
  clear c2
  obtain rfl := Option.some.inj H
  go_enter Tryd.func4, Tryd.ntmps4
  go_wp2
  go_ret
  exact ⟨by first | rfl | (simp [errW_none, errW_some] <;> rfl) | (simp [*, errW_none, errW_some] <;> rfl), hQ HB⟩
 ·rw [if_neg c2] at H
  have c2b0 : decide (1048576 < (a0.size : Int)) = false := decide_eq_false c2
  have c2b1 : decide (1048576 < a0.size) = false := decide_eq_false (by omega)
  clear c2
  replace H := Option.bind_eq_some_iff.mp H
  obtain ⟨⟨t312, t313, t314, t317, t320⟩, A30, H⟩ := H
  replace H : ((impl_ReadGrammar.f k a0).bind fun bt322 => ((laws_eqGrammar.f k bt322.1 bt322.2.1 bt322.2.2.1 bt322.2.2.2.1 t312 t313 t314 t317).bind fun t332 => (if t332 = true then (laws_FnExactReadGrammar.j0 k a0 t320 (bt322.2.2.2.2 != t320) t312 t313 t314 t317 bt322.1 bt322.2.1 bt322.2.2.1 bt322.2.2.2.1) else (laws_FnExactReadGrammar.j0 k a0 t320 true t312 t313 t314 t317 bt322.1 bt322.2.1 bt322.2.2.1 bt322.2.2.2.1)))) = some r := H
  have A3 := Aside0.mk A30
  clear A30
  replace H := Option.bind_eq_some_iff.mp H
  obtain ⟨⟨t322, t323, t324, t327, t330⟩, A40, H⟩ := H
  replace H : ((laws_eqGrammar.f k t322 t323 t324 t327 t312 t313 t314 t317).bind fun t332 => (if t332 = true then (laws_FnExactReadGrammar.j0 k a0 t320 (t330 != t320) t312 t313 t314 t317 t322 t323 t324 t327) else (laws_FnExactReadGrammar.j0 k a0 t320 true t312 t313 t314 t317 t322 t323 t324 t327))) = some r := H
  have A4 := Aside0.mk A40
  clear A40
  have HC5 := Aside0.mk H
  clear H
  go_enter Tryd.func4, Tryd.ntmps4
  go_upto_region 5 with (first | ((with_reducible refine gC (f := 13) rfl ?_); refine goesL_ (some 16) rfl rfl Tryd.func13 (by kernel_rfl) rfl #[.string a0] rfl lQ ?_; (with_reducible refine (spec_ReadGrammar.calls k a0 t312 t313 t314 t317 t320 _ A3.out).mono ?_); rintro e w6 ⟨v315, v318, rfl, ho0, ho1, hb⟩; refine ⟨_, rfl, ?_⟩; have z_ := bX hb (hQ HB); have n0_ := Aside0.mk (rL ho0 (bZ z_)); have n1_ := Aside0.mk (rL ho1 (bZ z_)); have n2_ := Aside0.mk (bP z_ hb); clear HB; have HO316 := n0_; have HO319 := n1_; have HB := n2_; clear z_ n0_ n1_ n2_; (try clear hb); (try clear hb2); (try clear hk); (try clear hi); (try clear ho0); (try clear ho1)) | ((with_reducible refine gate_dst (N := 3) rfl ?_); refine bE ?hg (N := 3) ?hd (cs := #[.int .i64 0, .int .i64 0, .slice none 0 0, .slice none 0 0]) (t := 31) ?hr ?_; (case hd => rfl); (case hg => rfl); (case hr => first | (go_simp; done) | (go_simp; rfl)); intro gb321 hg w7 hbox hb; have z_ := bX hb (hQ HB); have n0_ := Aside0.mk (rB (rQ HO316) hb); have n1_ := Aside0.mk (rB (rQ HO319) hb); have n2_ := Aside0.mk (bP z_ hb); have n3_ := Aside0.mk (hbox); have n4_ := Aside0.mk ((by rw [hg]; exact (bZ z_) : w.heap.size ≤ gb321)); have n5_ := Aside0.mk ((by rw [hg]; exact (bZ z_) : w.heap.size ≤ gb321)); clear HO316; clear HO319; clear HB; have HO316 := n0_; have HO319 := n1_; have HB := n2_; have BK321 := n3_; have GW321 := n4_; have GE321 := n5_; clear z_ n0_ n1_ n2_ n3_ n4_ n5_; clear hb hbox hg; obtain ⟨hcz8_0, hcz8_1, hcz8_2, hcz8_3⟩ := cZ4 BK321.out; obtain ⟨hfz8_0, hfz8_1, hfz8_2, hfz8_3⟩ := fZ4 BK321.out; obtain ⟨Ao9, co9, eo9⟩ := Kd.R_slice HO316.out; subst eo9; obtain ⟨Ao10, co10, eo10⟩ := Kd.R_slice HO319.out; subst eo10) | ((with_reducible refine gC (f := 14) rfl ?_); refine goesL_ (some 21) rfl rfl Tryd.func14 (by kernel_rfl) rfl #[.string a0] rfl lQ ?_; (with_reducible refine (impl_ReadGrammar.calls k a0 t322 t323 t324 t327 t330 _ (by first | exact hT | exact TabR.below hT HB.out | exact TabR.below hT (by repeat (first | (with_reducible first | exact HB.out | apply bA | apply bN | apply bD | refine bS ?_ GE321.out | refine bS ?_ GE331.out | refine bS ?_ GE346.out) | exact HB.out)) | exact TabR.below hT (Below.refl _ _)) A4.out).mono ?_); rintro e w11 ⟨v325, v328, rfl, ho0, ho1, hb⟩; refine ⟨_, rfl, ?_⟩; have z_ := bX hb (by repeat (first | (with_reducible first | exact HB.out | apply bA | apply bN | apply bD | refine bS ?_ GE321.out) | exact HB.out)); have n0_ := Aside0.mk (rE (by (with_reducible repeat (first | apply rA | apply rN | apply rD)); exact (rM (Kd.R_far (p := ⟨gb321, 3, none⟩) (Kd.R_far (p := ⟨gb321, 2, none⟩) (Kd.R_far (p := ⟨gb321, 1, none⟩) (Kd.R_far (p := ⟨gb321, 0, none⟩) (Kd.R_types HO316.out BK321.out (by decide)) (fun _ hk => hk.2) (.int .i64 t312)) (fun _ hk => hk.2) (.int .i64 t313)) (fun _ hk => hk.2) (.slice Ao9 t314.length co9)) (fun _ hk => hk.2) (.slice Ao10 t317.length co10)) (fun _ h_ => h_.1))) (Kd.R_base ho0) hb); have n1_ := Aside0.mk (rE (by (with_reducible repeat (first | apply rA | apply rN | apply rD)); exact (rM (Kd.R_far (p := ⟨gb321, 3, none⟩) (Kd.R_far (p := ⟨gb321, 2, none⟩) (Kd.R_far (p := ⟨gb321, 1, none⟩) (Kd.R_far (p := ⟨gb321, 0, none⟩) (Kd.R_types HO319.out BK321.out (by decide)) (fun _ hk => hk.2) (.int .i64 t312)) (fun _ hk => hk.2) (.int .i64 t313)) (fun _ hk => hk.2) (.slice Ao9 t314.length co9)) (fun _ hk => hk.2) (.slice Ao10 t317.length co10)) (fun _ h_ => h_.1))) (Kd.R_base ho1) hb); have n2_ := Aside0.mk (rL (rW ho0 (rT (by (with_reducible repeat (first | apply rA | apply rN | apply rD)); exact (rM (Kd.R_far (p := ⟨gb321, 3, none⟩) (Kd.R_far (p := ⟨gb321, 2, none⟩) (Kd.R_far (p := ⟨gb321, 1, none⟩) (Kd.R_far (p := ⟨gb321, 0, none⟩) (Kd.R_types HO316.out BK321.out (by decide)) (fun _ hk => hk.2) (.int .i64 t312)) (fun _ hk => hk.2) (.int .i64 t313)) (fun _ hk => hk.2) (.slice Ao9 t314.length co9)) (fun _ hk => hk.2) (.slice Ao10 t317.length co10)) (fun _ h_ => h_.1))))) (bZ z_)); have n3_ := Aside0.mk (rL (rW ho1 (rT (by (with_reducible repeat (first | apply rA | apply rN | apply rD)); exact (rM (Kd.R_far (p := ⟨gb321, 3, none⟩) (Kd.R_far (p := ⟨gb321, 2, none⟩) (Kd.R_far (p := ⟨gb321, 1, none⟩) (Kd.R_far (p := ⟨gb321, 0, none⟩) (Kd.R_types HO319.out BK321.out (by decide)) (fun _ hk => hk.2) (.int .i64 t312)) (fun _ hk => hk.2) (.int .i64 t313)) (fun _ hk => hk.2) (.slice Ao9 t314.length co9)) (fun _ hk => hk.2) (.slice Ao10 t317.length co10)) (fun _ h_ => h_.1))))) (bZ z_)); have n4_ := Aside0.mk (kB (g := gb321) (o := .cells #[.int .i64 t312, .int .i64 t313, .slice Ao9 t314.length co9, .slice Ao10 t317.length co10] 31 (0, 0)) (by (with_reducible repeat (first | refine kN ?_ _ | refine kD ?_ | refine kA ?_ _)); refine blk_put (cs := #[.int .i64 t312, .int .i64 t313, .slice Ao9 t314.length co9, .slice none 0 0]) ?_ 3 _ rfl; (with_reducible repeat (first | refine kN ?_ _ | refine kD ?_ | refine kA ?_ _)); refine blk_put (cs := #[.int .i64 t312, .int .i64 t313, .slice none 0 0, .slice none 0 0]) ?_ 2 _ rfl; (with_reducible repeat (first | refine kN ?_ _ | refine kD ?_ | refine kA ?_ _)); refine blk_put (cs := #[.int .i64 t312, .int .i64 0, .slice none 0 0, .slice none 0 0]) ?_ 1 _ rfl; (with_reducible repeat (first | refine kN ?_ _ | refine kD ?_ | refine kA ?_ _)); refine blk_put (cs := #[.int .i64 0, .int .i64 0, .slice none 0 0, .slice none 0 0]) ?_ 0 _ rfl; (with_reducible repeat (first | refine kN ?_ _ | refine kD ?_ | refine kA ?_ _)); exact BK321.out) hb); have n5_ := Aside0.mk (bP z_ hb); clear HO316; clear HO319; clear BK321; clear HB; have HO316 := n0_; have HO319 := n1_; have HO326 := n2_; have HO329 := n3_; have BK321 := n4_; have HB := n5_; clear z_ n0_ n1_ n2_ n3_ n4_ n5_; (try clear hb); (try clear hb2); (try clear hk); (try clear hi); (try clear ho0); (try clear ho1)) | ((with_reducible refine gate_dst (N := 5) rfl ?_); refine bE ?hg (N := 5) ?hd (cs := #[.int .i64 0, .int .i64 0, .slice none 0 0, .slice none 0 0]) (t := 31) ?hr ?_; (case hd => rfl); (case hg => rfl); (case hr => first | (go_simp; done) | (go_simp; rfl)); intro gb331 hg w12 hbox hb; have z_ := bX hb (by repeat (first | (with_reducible first | exact HB.out | apply bA | apply bN | apply bD | refine bS ?_ GE321.out) | exact HB.out)); have n0_ := Aside0.mk (rB (rQ HO316) hb); have n1_ := Aside0.mk (rB (rQ HO319) hb); have n2_ := Aside0.mk (rB (rQ HO326) hb); have n3_ := Aside0.mk (rB (rQ HO329) hb); have n4_ := Aside0.mk (kB (kQ BK321) hb); have n5_ := Aside0.mk (bP z_ hb); have n6_ := Aside0.mk (hbox); have n7_ := Aside0.mk ((by rw [hg]; exact (bZ z_) : w.heap.size ≤ gb331)); have n8_ := Aside0.mk ((by rw [hg]; exact (bZ z_) : w.heap.size ≤ gb331)); have n9_ := Aside0.mk ((by rw [hg]; exact Nat.ne_of_lt (kL (kQ BK321)) : gb321 ≠ gb331)); have n10_ := Aside0.mk ((by rw [hg]; exact Nat.ne_of_gt (kL (kQ BK321)) : gb331 ≠ gb321)); clear HO316; clear HO319; clear HO326; clear HO329; clear BK321; clear HB; have HO316 := n0_; have HO319 := n1_; have HO326 := n2_; have HO329 := n3_; have BK321 := n4_; have HB := n5_; have BK331 := n6_; have GW331 := n7_; have GE331 := n8_; have NB321_331 := n9_; have NB331_321 := n10_; clear z_ n0_ n1_ n2_ n3_ n4_ n5_ n6_ n7_ n8_ n9_ n10_; clear hb hbox hg; have hnb13 := NB331_321.out; have hnc13 := NB321_331.out; obtain ⟨hcz14_0, hcz14_1, hcz14_2, hcz14_3⟩ := cZ4 BK331.out; obtain ⟨hfz14_0, hfz14_1, hfz14_2, hfz14_3⟩ := fZ4 BK331.out; obtain ⟨Ao15, co15, eo15⟩ := Kd.R_slice HO326.out; subst eo15; obtain ⟨Ao16, co16, eo16⟩ := Kd.R_slice HO329.out; subst eo16))
  (try simp only [Act.put, sI, sZ, sS])
  go_cut [32] (fun v32 wc => ∃ (kq : Nat) (x32_4 : Bool), v32 = .bool x32_4 ∧ Aside0 (laws_FnExactReadGrammar.j0 kq a0 t320 x32_4 t312 t313 t314 t317 t322 t323 t324 t327 = some r) ∧ Aside0 (kq ≤ k) ∧ Aside0 (Kd.R (Kd.int .i64) 2 wc w.heap.size (fun k_ => some k_ ≠ ((.slice Ao15 t324.length co15) : Value).ownBlock) (.slice Ao9 t314.length co9) t314) ∧ Aside0 (Kd.R k63 63 wc w.heap.size (fun k_ => some k_ ≠ ((.slice Ao16 t327.length co16) : Value).ownBlock) (.slice Ao10 t317.length co10) t317) ∧ Aside0 (Kd.R (Kd.int .i64) 2 wc w.heap.size (fun k_ => some k_ ≠ ((.slice Ao9 t314.length co9) : Value).ownBlock) (.slice Ao15 t324.length co15) t324) ∧ Aside0 (Kd.R k63 63 wc w.heap.size (fun k_ => some k_ ≠ ((.slice Ao10 t317.length co10) : Value).ownBlock) (.slice Ao16 t327.length co16) t327) ∧ Aside0 (wc.heap[gb321]? = some (.cells #[.int .i64 t312, .int .i64 t313, (.slice Ao9 t314.length co9), (.slice Ao10 t317.length co10)] 31 (0, 0))) ∧ Aside0 (wc.heap[gb331]? = some (.cells #[.int .i64 t322, .int .i64 t323, (.slice Ao15 t324.length co15), (.slice Ao16 t327.length co16)] 31 (0, 0))) ∧ Aside0 (Below w.heap.size w wc))
  case first =>
   have H := HC5.out
   clear HC5
   replace H := Option.bind_eq_some_iff.mp H
   obtain ⟨t332, A170, H⟩ := H
   replace H : (if t332 = true then (laws_FnExactReadGrammar.j0 k a0 t320 (t330 != t320) t312 t313 t314 t317 t322 t323 t324 t327) else (laws_FnExactReadGrammar.j0 k a0 t320 true t312 t313 t314 t317 t322 t323 t324 t327)) = some r := H
   have A17 := Aside0.mk A170
   clear A170
   by_cases c18 : t332 = true
   ·subst c18
    have H1 : (laws_FnExactReadGrammar.j0 k a0 t320 (t330 != t320) t312 t313 t314 t317 t322 t323 t324 t327) = some r := by rw [if_pos rfl] at H; exact H
    clear H
    have H := H1
    clear H1
    have H' := Aside0.mk H
    clear H
    have hnb19 := NB331_321.out
    have hnc19 := NB321_331.out
    obtain ⟨hcz20_0, hcz20_1, hcz20_2, hcz20_3⟩ := cZ4 BK331.out
    obtain ⟨hfz20_0, hfz20_1, hfz20_2, hfz20_3⟩ := fZ4 BK331.out
    obtain ⟨hcz21_0, hcz21_1, hcz21_2, hcz21_3⟩ := cZ4 BK321.out
    obtain ⟨hfz21_0, hfz21_1, hfz21_2, hfz21_3⟩ := fZ4 BK321.out
    go_wp2_with (first | ((with_reducible refine gC (f := 15) rfl ?_); refine goesL_ (some 26) rfl rfl Tryd.func15 (by kernel_rfl) rfl #[.agg #[.int .i64 t322, .int .i64 t323, .slice Ao15 t324.length co15, .slice Ao16 t327.length co16], .agg #[.int .i64 t312, .int .i64 t313, .slice Ao9 t314.length co9, .slice Ao10 t317.length co10]] rfl lQ ?_; (with_reducible refine (laws_eqGrammar.calls k t322 t323 _ _ t324 _ _ t327 t312 t313 _ _ t314 _ _ t317 true _ ?side1 ?side2 ?side3 ?side4 ?side5 ?side6 ?side7 ?side8 A17.out).mono ?_); (case side1 => refine (Kd.R_reads' (e := 2) (base := w.heap.size) (ok := fun k_ => (True ∧ some k_ ≠ (.slice Ao9 t314.length co9 : Value).ownBlock)) (n := t324.length) (c := co15) ?_).2.2; exact (by (with_reducible repeat (first | apply rA | apply rN | apply rD)); exact (rM (Kd.R_far (p := ⟨gb331, 3, none⟩) (Kd.R_far (p := ⟨gb331, 2, none⟩) (Kd.R_far (p := ⟨gb331, 1, none⟩) (Kd.R_far (p := ⟨gb331, 0, none⟩) (Kd.R_types HO326.out BK331.out (by decide)) (fun _ hk => hk.2) (.int .i64 t322)) (fun _ hk => hk.2) (.int .i64 t323)) (fun _ hk => hk.2) (.slice Ao15 t324.length co15)) (fun _ hk => hk.2) (.slice Ao16 t327.length co16)) (fun _ h_ => h_.1)))); (case side2 => exact (Kd.R_reads' HO326.out).2.1); (case side3 => refine (Kd.R_reads' (e := 63) (base := w.heap.size) (ok := fun k_ => (True ∧ some k_ ≠ (.slice Ao10 t317.length co10 : Value).ownBlock)) (n := t327.length) (c := co16) ?_).2.2; exact (by (with_reducible repeat (first | apply rA | apply rN | apply rD)); exact (rM (Kd.R_far (p := ⟨gb331, 3, none⟩) (Kd.R_far (p := ⟨gb331, 2, none⟩) (Kd.R_far (p := ⟨gb331, 1, none⟩) (Kd.R_far (p := ⟨gb331, 0, none⟩) (Kd.R_types HO329.out BK331.out (by decide)) (fun _ hk => hk.2) (.int .i64 t322)) (fun _ hk => hk.2) (.int .i64 t323)) (fun _ hk => hk.2) (.slice Ao15 t324.length co15)) (fun _ hk => hk.2) (.slice Ao16 t327.length co16)) (fun _ h_ => h_.1)))); (case side4 => exact (Kd.R_reads' HO329.out).2.1); (case side5 => refine (Kd.R_reads' (e := 2) (base := w.heap.size) (ok := fun k_ => (True ∧ some k_ ≠ (.slice Ao15 t324.length co15 : Value).ownBlock)) (n := t314.length) (c := co9) ?_).2.2; exact (by (with_reducible repeat (first | apply rA | apply rN | apply rD)); exact (rM (Kd.R_far (p := ⟨gb331, 3, none⟩) (Kd.R_far (p := ⟨gb331, 2, none⟩) (Kd.R_far (p := ⟨gb331, 1, none⟩) (Kd.R_far (p := ⟨gb331, 0, none⟩) (Kd.R_types HO316.out BK331.out (by decide)) (fun _ hk => hk.2) (.int .i64 t322)) (fun _ hk => hk.2) (.int .i64 t323)) (fun _ hk => hk.2) (.slice Ao15 t324.length co15)) (fun _ hk => hk.2) (.slice Ao16 t327.length co16)) (fun _ h_ => h_.1)))); (case side6 => exact (Kd.R_reads' HO316.out).2.1); (case side7 => refine (Kd.R_reads' (e := 63) (base := w.heap.size) (ok := fun k_ => (True ∧ some k_ ≠ (.slice Ao16 t327.length co16 : Value).ownBlock)) (n := t317.length) (c := co10) ?_).2.2; exact (by (with_reducible repeat (first | apply rA | apply rN | apply rD)); exact (rM (Kd.R_far (p := ⟨gb331, 3, none⟩) (Kd.R_far (p := ⟨gb331, 2, none⟩) (Kd.R_far (p := ⟨gb331, 1, none⟩) (Kd.R_far (p := ⟨gb331, 0, none⟩) (Kd.R_types HO319.out BK331.out (by decide)) (fun _ hk => hk.2) (.int .i64 t322)) (fun _ hk => hk.2) (.int .i64 t323)) (fun _ hk => hk.2) (.slice Ao15 t324.length co15)) (fun _ hk => hk.2) (.slice Ao16 t327.length co16)) (fun _ h_ => h_.1)))); (case side8 => exact (Kd.R_reads' HO319.out).2.1); rintro e w22 ⟨rfl, hb⟩; refine ⟨_, rfl, ?_⟩; have n0_ := Aside0.mk (rB (by (with_reducible repeat (first | apply rA | apply rN | apply rD)); exact (rM (Kd.R_far (p := ⟨gb331, 3, none⟩) (Kd.R_far (p := ⟨gb331, 2, none⟩) (Kd.R_far (p := ⟨gb331, 1, none⟩) (Kd.R_far (p := ⟨gb331, 0, none⟩) (Kd.R_types HO316.out BK331.out (by decide)) (fun _ hk => hk.2) (.int .i64 t322)) (fun _ hk => hk.2) (.int .i64 t323)) (fun _ hk => hk.2) (.slice Ao15 t324.length co15)) (fun _ hk => hk.2) (.slice Ao16 t327.length co16)) (fun _ h_ => h_.1))) hb); have n1_ := Aside0.mk (rB (by (with_reducible repeat (first | apply rA | apply rN | apply rD)); exact (rM (Kd.R_far (p := ⟨gb331, 3, none⟩) (Kd.R_far (p := ⟨gb331, 2, none⟩) (Kd.R_far (p := ⟨gb331, 1, none⟩) (Kd.R_far (p := ⟨gb331, 0, none⟩) (Kd.R_types HO319.out BK331.out (by decide)) (fun _ hk => hk.2) (.int .i64 t322)) (fun _ hk => hk.2) (.int .i64 t323)) (fun _ hk => hk.2) (.slice Ao15 t324.length co15)) (fun _ hk => hk.2) (.slice Ao16 t327.length co16)) (fun _ h_ => h_.1))) hb); have n2_ := Aside0.mk (rB (by (with_reducible repeat (first | apply rA | apply rN | apply rD)); exact (rM (Kd.R_far (p := ⟨gb331, 3, none⟩) (Kd.R_far (p := ⟨gb331, 2, none⟩) (Kd.R_far (p := ⟨gb331, 1, none⟩) (Kd.R_far (p := ⟨gb331, 0, none⟩) (Kd.R_types HO326.out BK331.out (by decide)) (fun _ hk => hk.2) (.int .i64 t322)) (fun _ hk => hk.2) (.int .i64 t323)) (fun _ hk => hk.2) (.slice Ao15 t324.length co15)) (fun _ hk => hk.2) (.slice Ao16 t327.length co16)) (fun _ h_ => h_.1))) hb); have n3_ := Aside0.mk (rB (by (with_reducible repeat (first | apply rA | apply rN | apply rD)); exact (rM (Kd.R_far (p := ⟨gb331, 3, none⟩) (Kd.R_far (p := ⟨gb331, 2, none⟩) (Kd.R_far (p := ⟨gb331, 1, none⟩) (Kd.R_far (p := ⟨gb331, 0, none⟩) (Kd.R_types HO329.out BK331.out (by decide)) (fun _ hk => hk.2) (.int .i64 t322)) (fun _ hk => hk.2) (.int .i64 t323)) (fun _ hk => hk.2) (.slice Ao15 t324.length co15)) (fun _ hk => hk.2) (.slice Ao16 t327.length co16)) (fun _ h_ => h_.1))) hb); have n4_ := Aside0.mk (kB (g := gb321) (o := .cells #[.int .i64 t312, .int .i64 t313, .slice Ao9 t314.length co9, .slice Ao10 t317.length co10] 31 (0, 0)) (by (with_reducible repeat (first | refine kN ?_ _ | refine kD ?_ | refine kA ?_ _)); refine kF ?_ NB321_331.out _; (with_reducible repeat (first | refine kN ?_ _ | refine kD ?_ | refine kA ?_ _)); refine kF ?_ NB321_331.out _; (with_reducible repeat (first | refine kN ?_ _ | refine kD ?_ | refine kA ?_ _)); refine kF ?_ NB321_331.out _; (with_reducible repeat (first | refine kN ?_ _ | refine kD ?_ | refine kA ?_ _)); refine kF ?_ NB321_331.out _; (with_reducible repeat (first | refine kN ?_ _ | refine kD ?_ | refine kA ?_ _)); exact BK321.out) hb); have n5_ := Aside0.mk (kB (g := gb331) (o := .cells #[.int .i64 t322, .int .i64 t323, .slice Ao15 t324.length co15, .slice Ao16 t327.length co16] 31 (0, 0)) (by (with_reducible repeat (first | refine kN ?_ _ | refine kD ?_ | refine kA ?_ _)); refine blk_put (cs := #[.int .i64 t322, .int .i64 t323, .slice Ao15 t324.length co15, .slice none 0 0]) ?_ 3 _ rfl; (with_reducible repeat (first | refine kN ?_ _ | refine kD ?_ | refine kA ?_ _)); refine blk_put (cs := #[.int .i64 t322, .int .i64 t323, .slice none 0 0, .slice none 0 0]) ?_ 2 _ rfl; (with_reducible repeat (first | refine kN ?_ _ | refine kD ?_ | refine kA ?_ _)); refine blk_put (cs := #[.int .i64 t322, .int .i64 0, .slice none 0 0, .slice none 0 0]) ?_ 1 _ rfl; (with_reducible repeat (first | refine kN ?_ _ | refine kD ?_ | refine kA ?_ _)); refine blk_put (cs := #[.int .i64 0, .int .i64 0, .slice none 0 0, .slice none 0 0]) ?_ 0 _ rfl; (with_reducible repeat (first | refine kN ?_ _ | refine kD ?_ | refine kA ?_ _)); exact BK331.out) hb); have n6_ := Aside0.mk (bP (by repeat (first | (with_reducible first | exact HB.out | apply bA | apply bN | apply bD | refine bS ?_ GE321.out | refine bS ?_ GE331.out) | exact HB.out)) hb); clear HO316; clear HO319; clear HO326; clear HO329; clear BK321; clear BK331; clear HB; have HO316 := n0_; have HO319 := n1_; have HO326 := n2_; have HO329 := n3_; have BK321 := n4_; have BK331 := n5_; have HB := n6_; clear n0_ n1_ n2_ n3_ n4_ n5_ n6_; (try clear hb); (try clear hb2); (try clear hk); (try clear hi)))
    go_meet
    case rel => exact ⟨_, ((t330 != t320)), eT, H', ⟨by first | omega | exact Nat.le_refl _⟩, ⟨by (with_reducible repeat (first | apply rA | apply rN | apply rD)); exact rM HO316.out (fun _ hk => hk.2)⟩, ⟨by (with_reducible repeat (first | apply rA | apply rN | apply rD)); exact rM HO319.out (fun _ hk => hk.2)⟩, ⟨by (with_reducible repeat (first | apply rA | apply rN | apply rD)); exact rM HO326.out (fun _ hk => hk.2)⟩, ⟨by (with_reducible repeat (first | apply rA | apply rN | apply rD)); exact rM HO329.out (fun _ hk => hk.2)⟩, ⟨kQ BK321⟩, ⟨kQ BK331⟩, ⟨by repeat (first | (with_reducible first | exact HB.out | apply bA | apply bN | apply bD | refine bS ?_ GE321.out | refine bS ?_ GE331.out) | exact HB.out)⟩⟩
   ·replace c18 := Bool.eq_false_iff.mpr c18
    subst c18
    have H1 : (laws_FnExactReadGrammar.j0 k a0 t320 true t312 t313 t314 t317 t322 t323 t324 t327) = some r := by rw [if_neg (show ¬ (false = true) by decide)] at H; exact H
    clear H
    have H := H1
    clear H1
    have H' := Aside0.mk H
    clear H
    have hnb23 := NB331_321.out
    have hnc23 := NB321_331.out
    obtain ⟨hcz24_0, hcz24_1, hcz24_2, hcz24_3⟩ := cZ4 BK331.out
    obtain ⟨hfz24_0, hfz24_1, hfz24_2, hfz24_3⟩ := fZ4 BK331.out
    obtain ⟨hcz25_0, hcz25_1, hcz25_2, hcz25_3⟩ := cZ4 BK321.out
    obtain ⟨hfz25_0, hfz25_1, hfz25_2, hfz25_3⟩ := fZ4 BK321.out
    go_wp2_with (first | ((with_reducible refine gC (f := 15) rfl ?_); refine goesL_ (some 26) rfl rfl Tryd.func15 (by kernel_rfl) rfl #[.agg #[.int .i64 t322, .int .i64 t323, .slice Ao15 t324.length co15, .slice Ao16 t327.length co16], .agg #[.int .i64 t312, .int .i64 t313, .slice Ao9 t314.length co9, .slice Ao10 t317.length co10]] rfl lQ ?_; (with_reducible refine (laws_eqGrammar.calls k t322 t323 _ _ t324 _ _ t327 t312 t313 _ _ t314 _ _ t317 false _ ?side1 ?side2 ?side3 ?side4 ?side5 ?side6 ?side7 ?side8 A17.out).mono ?_); (case side1 => refine (Kd.R_reads' (e := 2) (base := w.heap.size) (ok := fun k_ => (True ∧ some k_ ≠ (.slice Ao9 t314.length co9 : Value).ownBlock)) (n := t324.length) (c := co15) ?_).2.2; exact (by (with_reducible repeat (first | apply rA | apply rN | apply rD)); exact (rM (Kd.R_far (p := ⟨gb331, 3, none⟩) (Kd.R_far (p := ⟨gb331, 2, none⟩) (Kd.R_far (p := ⟨gb331, 1, none⟩) (Kd.R_far (p := ⟨gb331, 0, none⟩) (Kd.R_types HO326.out BK331.out (by decide)) (fun _ hk => hk.2) (.int .i64 t322)) (fun _ hk => hk.2) (.int .i64 t323)) (fun _ hk => hk.2) (.slice Ao15 t324.length co15)) (fun _ hk => hk.2) (.slice Ao16 t327.length co16)) (fun _ h_ => h_.1)))); (case side2 => exact (Kd.R_reads' HO326.out).2.1); (case side3 => refine (Kd.R_reads' (e := 63) (base := w.heap.size) (ok := fun k_ => (True ∧ some k_ ≠ (.slice Ao10 t317.length co10 : Value).ownBlock)) (n := t327.length) (c := co16) ?_).2.2; exact (by (with_reducible repeat (first | apply rA | apply rN | apply rD)); exact (rM (Kd.R_far (p := ⟨gb331, 3, none⟩) (Kd.R_far (p := ⟨gb331, 2, none⟩) (Kd.R_far (p := ⟨gb331, 1, none⟩) (Kd.R_far (p := ⟨gb331, 0, none⟩) (Kd.R_types HO329.out BK331.out (by decide)) (fun _ hk => hk.2) (.int .i64 t322)) (fun _ hk => hk.2) (.int .i64 t323)) (fun _ hk => hk.2) (.slice Ao15 t324.length co15)) (fun _ hk => hk.2) (.slice Ao16 t327.length co16)) (fun _ h_ => h_.1)))); (case side4 => exact (Kd.R_reads' HO329.out).2.1); (case side5 => refine (Kd.R_reads' (e := 2) (base := w.heap.size) (ok := fun k_ => (True ∧ some k_ ≠ (.slice Ao15 t324.length co15 : Value).ownBlock)) (n := t314.length) (c := co9) ?_).2.2; exact (by (with_reducible repeat (first | apply rA | apply rN | apply rD)); exact (rM (Kd.R_far (p := ⟨gb331, 3, none⟩) (Kd.R_far (p := ⟨gb331, 2, none⟩) (Kd.R_far (p := ⟨gb331, 1, none⟩) (Kd.R_far (p := ⟨gb331, 0, none⟩) (Kd.R_types HO316.out BK331.out (by decide)) (fun _ hk => hk.2) (.int .i64 t322)) (fun _ hk => hk.2) (.int .i64 t323)) (fun _ hk => hk.2) (.slice Ao15 t324.length co15)) (fun _ hk => hk.2) (.slice Ao16 t327.length co16)) (fun _ h_ => h_.1)))); (case side6 => exact (Kd.R_reads' HO316.out).2.1); (case side7 => refine (Kd.R_reads' (e := 63) (base := w.heap.size) (ok := fun k_ => (True ∧ some k_ ≠ (.slice Ao16 t327.length co16 : Value).ownBlock)) (n := t317.length) (c := co10) ?_).2.2; exact (by (with_reducible repeat (first | apply rA | apply rN | apply rD)); exact (rM (Kd.R_far (p := ⟨gb331, 3, none⟩) (Kd.R_far (p := ⟨gb331, 2, none⟩) (Kd.R_far (p := ⟨gb331, 1, none⟩) (Kd.R_far (p := ⟨gb331, 0, none⟩) (Kd.R_types HO319.out BK331.out (by decide)) (fun _ hk => hk.2) (.int .i64 t322)) (fun _ hk => hk.2) (.int .i64 t323)) (fun _ hk => hk.2) (.slice Ao15 t324.length co15)) (fun _ hk => hk.2) (.slice Ao16 t327.length co16)) (fun _ h_ => h_.1)))); (case side8 => exact (Kd.R_reads' HO319.out).2.1); rintro e w26 ⟨rfl, hb⟩; refine ⟨_, rfl, ?_⟩; have n0_ := Aside0.mk (rB (by (with_reducible repeat (first | apply rA | apply rN | apply rD)); exact (rM (Kd.R_far (p := ⟨gb331, 3, none⟩) (Kd.R_far (p := ⟨gb331, 2, none⟩) (Kd.R_far (p := ⟨gb331, 1, none⟩) (Kd.R_far (p := ⟨gb331, 0, none⟩) (Kd.R_types HO316.out BK331.out (by decide)) (fun _ hk => hk.2) (.int .i64 t322)) (fun _ hk => hk.2) (.int .i64 t323)) (fun _ hk => hk.2) (.slice Ao15 t324.length co15)) (fun _ hk => hk.2) (.slice Ao16 t327.length co16)) (fun _ h_ => h_.1))) hb); have n1_ := Aside0.mk (rB (by (with_reducible repeat (first | apply rA | apply rN | apply rD)); exact (rM (Kd.R_far (p := ⟨gb331, 3, none⟩) (Kd.R_far (p := ⟨gb331, 2, none⟩) (Kd.R_far (p := ⟨gb331, 1, none⟩) (Kd.R_far (p := ⟨gb331, 0, none⟩) (Kd.R_types HO319.out BK331.out (by decide)) (fun _ hk => hk.2) (.int .i64 t322)) (fun _ hk => hk.2) (.int .i64 t323)) (fun _ hk => hk.2) (.slice Ao15 t324.length co15)) (fun _ hk => hk.2) (.slice Ao16 t327.length co16)) (fun _ h_ => h_.1))) hb); have n2_ := Aside0.mk (rB (by (with_reducible repeat (first | apply rA | apply rN | apply rD)); exact (rM (Kd.R_far (p := ⟨gb331, 3, none⟩) (Kd.R_far (p := ⟨gb331, 2, none⟩) (Kd.R_far (p := ⟨gb331, 1, none⟩) (Kd.R_far (p := ⟨gb331, 0, none⟩) (Kd.R_types HO326.out BK331.out (by decide)) (fun _ hk => hk.2) (.int .i64 t322)) (fun _ hk => hk.2) (.int .i64 t323)) (fun _ hk => hk.2) (.slice Ao15 t324.length co15)) (fun _ hk => hk.2) (.slice Ao16 t327.length co16)) (fun _ h_ => h_.1))) hb); have n3_ := Aside0.mk (rB (by (with_reducible repeat (first | apply rA | apply rN | apply rD)); exact (rM (Kd.R_far (p := ⟨gb331, 3, none⟩) (Kd.R_far (p := ⟨gb331, 2, none⟩) (Kd.R_far (p := ⟨gb331, 1, none⟩) (Kd.R_far (p := ⟨gb331, 0, none⟩) (Kd.R_types HO329.out BK331.out (by decide)) (fun _ hk => hk.2) (.int .i64 t322)) (fun _ hk => hk.2) (.int .i64 t323)) (fun _ hk => hk.2) (.slice Ao15 t324.length co15)) (fun _ hk => hk.2) (.slice Ao16 t327.length co16)) (fun _ h_ => h_.1))) hb); have n4_ := Aside0.mk (kB (g := gb321) (o := .cells #[.int .i64 t312, .int .i64 t313, .slice Ao9 t314.length co9, .slice Ao10 t317.length co10] 31 (0, 0)) (by (with_reducible repeat (first | refine kN ?_ _ | refine kD ?_ | refine kA ?_ _)); refine kF ?_ NB321_331.out _; (with_reducible repeat (first | refine kN ?_ _ | refine kD ?_ | refine kA ?_ _)); refine kF ?_ NB321_331.out _; (with_reducible repeat (first | refine kN ?_ _ | refine kD ?_ | refine kA ?_ _)); refine kF ?_ NB321_331.out _; (with_reducible repeat (first | refine kN ?_ _ | refine kD ?_ | refine kA ?_ _)); refine kF ?_ NB321_331.out _; (with_reducible repeat (first | refine kN ?_ _ | refine kD ?_ | refine kA ?_ _)); exact BK321.out) hb); have n5_ := Aside0.mk (kB (g := gb331) (o := .cells #[.int .i64 t322, .int .i64 t323, .slice Ao15 t324.length co15, .slice Ao16 t327.length co16] 31 (0, 0)) (by (with_reducible repeat (first | refine kN ?_ _ | refine kD ?_ | refine kA ?_ _)); refine blk_put (cs := #[.int .i64 t322, .int .i64 t323, .slice Ao15 t324.length co15, .slice none 0 0]) ?_ 3 _ rfl; (with_reducible repeat (first | refine kN ?_ _ | refine kD ?_ | refine kA ?_ _)); refine blk_put (cs := #[.int .i64 t322, .int .i64 t323, .slice none 0 0, .slice none 0 0]) ?_ 2 _ rfl; (with_reducible repeat (first | refine kN ?_ _ | refine kD ?_ | refine kA ?_ _)); refine blk_put (cs := #[.int .i64 t322, .int .i64 0, .slice none 0 0, .slice none 0 0]) ?_ 1 _ rfl; (with_reducible repeat (first | refine kN ?_ _ | refine kD ?_ | refine kA ?_ _)); refine blk_put (cs := #[.int .i64 0, .int .i64 0, .slice none 0 0, .slice none 0 0]) ?_ 0 _ rfl; (with_reducible repeat (first | refine kN ?_ _ | refine kD ?_ | refine kA ?_ _)); exact BK331.out) hb); have n6_ := Aside0.mk (bP (by repeat (first | (with_reducible first | exact HB.out | apply bA | apply bN | apply bD | refine bS ?_ GE321.out | refine bS ?_ GE331.out) | exact HB.out)) hb); clear HO316; clear HO319; clear HO326; clear HO329; clear BK321; clear BK331; clear HB; have HO316 := n0_; have HO319 := n1_; have HO326 := n2_; have HO329 := n3_; have BK321 := n4_; have BK331 := n5_; have HB := n6_; clear n0_ n1_ n2_ n3_ n4_ n5_ n6_; (try clear hb); (try clear hb2); (try clear hk); (try clear hi)))
    go_meet
    case rel => exact ⟨_, (true), eT, H', ⟨by first | omega | exact Nat.le_refl _⟩, ⟨by (with_reducible repeat (first | apply rA | apply rN | apply rD)); exact rM HO316.out (fun _ hk => hk.2)⟩, ⟨by (with_reducible repeat (first | apply rA | apply rN | apply rD)); exact rM HO319.out (fun _ hk => hk.2)⟩, ⟨by (with_reducible repeat (first | apply rA | apply rN | apply rD)); exact rM HO326.out (fun _ hk => hk.2)⟩, ⟨by (with_reducible repeat (first | apply rA | apply rN | apply rD)); exact rM HO329.out (fun _ hk => hk.2)⟩, ⟨kQ BK321⟩, ⟨kQ BK331⟩, ⟨by repeat (first | (with_reducible first | exact HB.out | apply bA | apply bN | apply bD | refine bS ?_ GE321.out | refine bS ?_ GE331.out) | exact HB.out)⟩⟩
  case rest =>
   clear HC5
   try clear c1
   try clear c2
   try clear c2b0
   try clear c2b1
   try clear p2
   try clear c4
   try clear c13
   try clear c14
   try clear c15
   try clear c18
   try clear c19
   try clear c23
   try clear hcz14_0
   try clear hcz14_1
   try clear hcz14_2
   try clear hcz14_3
   try clear hcz20_0
   try clear hcz20_1
   try clear hcz20_2
   try clear hcz20_3
   try clear hcz21_0
   try clear hcz21_1
   try clear hcz21_2
   try clear hcz21_3
   try clear hcz24_0
   try clear hcz24_1
   try clear hcz24_2
   try clear hcz24_3
   try clear hcz25_0
   try clear hcz25_1
   try clear hcz25_2
   try clear hcz25_3
   try clear hcz8_0
   try clear hcz8_1
   try clear hcz8_2
   try clear hcz8_3
   try clear hfz14_0
   try clear hfz14_1
   try clear hfz14_2
   try clear hfz14_3
   try clear hfz20_0
   try clear hfz20_1
   try clear hfz20_2
   try clear hfz20_3
   try clear hfz21_0
   try clear hfz21_1
   try clear hfz21_2
   try clear hfz21_3
   try clear hfz24_0
   try clear hfz24_1
   try clear hfz24_2
   try clear hfz24_3
   try clear hfz25_0
   try clear hfz25_1
   try clear hfz25_2
   try clear hfz25_3
   try clear hfz8_0
   try clear hfz8_1
   try clear hfz8_2
   try clear hfz8_3
   obtain ⟨kq, x32_4, rfl, HA, HJ4, HO_322002, HO_322003, HO_332002, HO_332003, BK321, BK331, HB⟩ := hcut
   cases kq with
   | zero => exact absurd HA.out (by simp [laws_FnExactReadGrammar.j0])
   | succ kj4 =>
    have H := HA.out
    clear HA
    simp only [laws_FnExactReadGrammar.j0] at H
    by_cases c27 : x32_4 = true
    ·subst c27
     have H1 : (some false) = some r := by rw [if_pos rfl] at H; exact H
     clear H
     have H := H1
     clear H1
     obtain rfl := Option.some.inj H
     go_wp2
     go_ret
     exact ⟨by first | rfl | (simp [errW_none, errW_some] <;> rfl) | (simp [*, errW_none, errW_some] <;> rfl), by repeat (first | (with_reducible first | exact HB.out | apply bA | apply bN | apply bD | refine bS ?_ GE321.out | refine bS ?_ GE331.out) | exact HB.out)⟩
    ·replace c27 := Bool.eq_false_iff.mpr c27
     subst c27
     have H1 : ((laws_markGrammar.f kj4 t322 t323 t324 t327 1).bind fun bt333 => ((laws_heldGrammar.f kj4 t322 t323 bt333.2.1 bt333.2.2 1).bind fun t336 => (if t336 < 0 then (some false) else (if t336 = bt333.1 then ((impl_ReadGrammar.f kj4 a0).bind fun bt337 => ((laws_eqGrammar.f kj4 bt337.1 bt337.2.1 bt337.2.2.1 bt337.2.2.2.1 t312 t313 t314 t317).bind fun t347 => (if t347 = true then (laws_FnExactReadGrammar.j1 kj4 bt333.1 (bt337.2.2.2.2 != t320) t322 t323 bt333.2.1 bt333.2.2) else (laws_FnExactReadGrammar.j1 kj4 bt333.1 true t322 t323 bt333.2.1 bt333.2.2)))) else (some false))))) = some r := by rw [if_neg (show ¬ (false = true) by decide)] at H; exact H
     clear H
     have H := H1
     clear H1
     replace H := Option.bind_eq_some_iff.mp H
     obtain ⟨⟨t333, t334, t335⟩, A280, H⟩ := H
     replace H : ((laws_heldGrammar.f kj4 t322 t323 t334 t335 1).bind fun t336 => (if t336 < 0 then (some false) else (if t336 = t333 then ((impl_ReadGrammar.f kj4 a0).bind fun bt337 => ((laws_eqGrammar.f kj4 bt337.1 bt337.2.1 bt337.2.2.1 bt337.2.2.2.1 t312 t313 t314 t317).bind fun t347 => (if t347 = true then (laws_FnExactReadGrammar.j1 kj4 t333 (bt337.2.2.2.2 != t320) t322 t323 t334 t335) else (laws_FnExactReadGrammar.j1 kj4 t333 true t322 t323 t334 t335)))) else (some false)))) = some r := H
     have A28 := Aside0.mk A280
     clear A280
     replace H := Option.bind_eq_some_iff.mp H
     obtain ⟨t336, A290, H⟩ := H
     replace H : (if t336 < 0 then (some false) else (if t336 = t333 then ((impl_ReadGrammar.f kj4 a0).bind fun bt337 => ((laws_eqGrammar.f kj4 bt337.1 bt337.2.1 bt337.2.2.1 bt337.2.2.2.1 t312 t313 t314 t317).bind fun t347 => (if t347 = true then (laws_FnExactReadGrammar.j1 kj4 t333 (bt337.2.2.2.2 != t320) t322 t323 t334 t335) else (laws_FnExactReadGrammar.j1 kj4 t333 true t322 t323 t334 t335)))) else (some false))) = some r := H
     have A29 := Aside0.mk A290
     clear A290
     by_cases c30 : t336 < 0
     ·rw [if_pos c30] at H
      have c30b0 : decide (t336 < 0) = true := decide_eq_true c30
      clear c30
      obtain rfl := Option.some.inj H
      have hnb31 := NB331_321.out
      have hnc31 := NB321_331.out
      obtain ⟨hcz32_0, hcz32_1, hcz32_2, hcz32_3⟩ := cZ4 BK331.out
      obtain ⟨hfz32_0, hfz32_1, hfz32_2, hfz32_3⟩ := fZ4 BK331.out
      go_wp2_with (first | ((with_reducible refine gC (f := 16) rfl ?_); refine goesL_ (some 35) rfl rfl Tryd.func16 (by kernel_rfl) rfl #[.agg #[.int .i64 t322, .int .i64 t323, .slice Ao15 t324.length co15, .slice Ao16 t327.length co16], .int .i64 1] rfl lQ ?_; (with_reducible refine (laws_markGrammar.calls kj4 t322 t323 (fun k_ => some k_ = (.slice Ao15 t324.length co15 : Value).ownBlock) (.slice Ao15 t324.length co15) t324 (fun k_ => some k_ = (.slice Ao16 t327.length co16 : Value).ownBlock) (.slice Ao16 t327.length co16) t327 1 t333 t334 t335 w _ ?side1 ?side2 ?side3 A28.out).mono ?_); (case side1 => repeat (first | (with_reducible first | exact HB.out | apply bA | apply bN | apply bD | refine bS ?_ GE321.out | refine bS ?_ GE331.out) | exact HB.out)); (case side2 => exact Kd.R_tight rfl HO_332002.out); (case side3 => exact Kd.R_tight rfl HO_332003.out); rintro e w33 ⟨rfl, hy0, hy1, hb, hkp⟩; refine ⟨_, rfl, ?_⟩; have n0_ := Aside0.mk (rM (ok' := fun k_ => some k_ ≠ (.slice Ao15 t324.length co15 : Value).ownBlock) (Kd.R_keptB ((Kd.R_apart' HO_322002.out (Kd.R_typed HO_332003.out) (by decide))) hkp (fun k_ hk_ hs_ => Or.elim hs_ (fun e_ => (hk_.1) e_) (fun e_ => (hk_.2) e_))) (fun k_ hk_ => hk_.1.1)); have n1_ := Aside0.mk (rM (ok' := fun k_ => some k_ ≠ (.slice Ao16 t327.length co16 : Value).ownBlock) (Kd.R_keptB ((Kd.R_apart' HO_322003.out (Kd.R_typed HO_332002.out) (by decide))) hkp (fun k_ hk_ hs_ => Or.elim hs_ (fun e_ => (hk_.2) e_) (fun e_ => (hk_.1) e_))) (fun k_ hk_ => hk_.1.1)); have n2_ := Aside0.mk (Kd.R_reok rfl hy0 (fun k_ e_ => HO_332002.out.1 k_ e_)); have n3_ := Aside0.mk (Kd.R_reok rfl hy1 (fun k_ e_ => HO_332003.out.1 k_ e_)); have n4_ := Aside0.mk (blk_kept (kQ BK321) hkp (fun hs_ => Or.elim hs_ (fun e_ => (fun e_ => (Kd.R_ne HO_332002.out BK321.out (by decide)) e_) e_) (fun e_ => (fun e_ => (Kd.R_ne HO_332003.out BK321.out (by decide)) e_) e_))); have n5_ := Aside0.mk (blk_kept (kQ BK331) hkp (fun hs_ => Or.elim hs_ (fun e_ => (fun e_ => (Kd.R_ne HO_332002.out BK331.out (by decide)) e_) e_) (fun e_ => (fun e_ => (Kd.R_ne HO_332003.out BK331.out (by decide)) e_) e_))); have n6_ := Aside0.mk (hb); clear HO_322002; clear HO_322003; clear HO_332002; clear HO_332003; clear BK321; clear BK331; clear HB; have HO_322002 := n0_; have HO_322003 := n1_; have HO_332002 := n2_; have HO_332003 := n3_; have BK321 := n4_; have BK331 := n5_; have HB := n6_; clear n0_ n1_ n2_ n3_ n4_ n5_ n6_; (try clear hb); (try clear hkp); (try clear hy0); (try clear hy1); obtain ⟨hcz34_0, hcz34_1, hcz34_2, hcz34_3⟩ := cZ4 BK331.out; obtain ⟨hfz34_0, hfz34_1, hfz34_2, hfz34_3⟩ := fZ4 BK331.out) | ((with_reducible refine gC (f := 17) rfl ?_); refine goesL_ (some 38) rfl rfl Tryd.func17 (by kernel_rfl) rfl #[.agg #[.int .i64 t322, .int .i64 t323, .slice Ao15 t334.length co15, .slice Ao16 t335.length co16], .int .i64 1] rfl (by (try simp only [List.map_toArray, List.map_cons, List.map_nil]); first | done | (rw [show t334.length = t324.length from (Kd.R_reads' HO_332002.out).1.symm, show t335.length = t327.length from (Kd.R_reads' HO_332003.out).1.symm] <;> rfl) | rfl | (simp only [List.length_drop, List.length_take]; rfl)) ?_; (with_reducible refine (laws_heldGrammar.calls kj4 t322 t323 _ _ t334 _ _ t335 1 t336 _ ?side1 ?side2 ?side3 ?side4 A29.out).mono ?_); (case side1 => exact cP (Kd.R_reads' HO_332002.out).2.2); (case side2 => rw [show t334.length = t324.length from (Kd.R_reads' HO_332002.out).1.symm]; exact (Kd.R_reads' HO_332002.out).2.1); (case side3 => exact cP (Kd.R_reads' HO_332003.out).2.2); (case side4 => rw [show t335.length = t327.length from (Kd.R_reads' HO_332003.out).1.symm]; exact (Kd.R_reads' HO_332003.out).2.1); rintro e w35 ⟨rfl, hb⟩; refine ⟨_, rfl, ?_⟩; have n0_ := Aside0.mk (rB (rQ HO_322002) hb); have n1_ := Aside0.mk (rB (rQ HO_322003) hb); have n2_ := Aside0.mk (rB (rQ HO_332002) hb); have n3_ := Aside0.mk (rB (rQ HO_332003) hb); have n4_ := Aside0.mk (kB (kQ BK321) hb); have n5_ := Aside0.mk (kB (kQ BK331) hb); have n6_ := Aside0.mk (bP (by repeat (first | (with_reducible first | exact HB.out | apply bA | apply bN | apply bD | refine bS ?_ GE321.out | refine bS ?_ GE331.out) | exact HB.out)) hb); clear HO_322002; clear HO_322003; clear HO_332002; clear HO_332003; clear BK321; clear BK331; clear HB; have HO_322002 := n0_; have HO_322003 := n1_; have HO_332002 := n2_; have HO_332003 := n3_; have BK321 := n4_; have BK331 := n5_; have HB := n6_; clear n0_ n1_ n2_ n3_ n4_ n5_ n6_; (try clear hb); (try clear hb2); (try clear hk); (try clear hi)))
      go_ret
      exact ⟨by first | rfl | (simp [errW_none, errW_some] <;> rfl) | (simp [*, errW_none, errW_some] <;> rfl), by repeat (first | (with_reducible first | exact HB.out | apply bA | apply bN | apply bD | refine bS ?_ GE321.out | refine bS ?_ GE331.out) | exact HB.out)⟩
     ·rw [if_neg c30] at H
      have c30b0 : decide (t336 < 0) = false := decide_eq_false c30
      clear c30
      by_cases c36 : t336 = t333
      ·rw [if_pos c36] at H
       have c36b0 : (t336 == t333) = true := beq_iff_eq.mpr c36
       have c36b1 : (t336 != t333) = false := bne_eq_false_iff_eq.mpr c36
       clear c36
       replace H := Option.bind_eq_some_iff.mp H
       obtain ⟨⟨t337, t338, t339, t342, t345⟩, A370, H⟩ := H
       replace H : ((laws_eqGrammar.f kj4 t337 t338 t339 t342 t312 t313 t314 t317).bind fun t347 => (if t347 = true then (laws_FnExactReadGrammar.j1 kj4 t333 (t345 != t320) t322 t323 t334 t335) else (laws_FnExactReadGrammar.j1 kj4 t333 true t322 t323 t334 t335))) = some r := H
       have A37 := Aside0.mk A370
       clear A370
       have HC38 := Aside0.mk H
       clear H
       have hnb39 := NB331_321.out
       have hnc39 := NB321_331.out
       obtain ⟨hcz40_0, hcz40_1, hcz40_2, hcz40_3⟩ := cZ4 BK331.out
       obtain ⟨hfz40_0, hfz40_1, hfz40_2, hfz40_3⟩ := fZ4 BK331.out
       go_upto_region 16 with (first | ((with_reducible refine gC (f := 16) rfl ?_); refine goesL_ (some 35) rfl rfl Tryd.func16 (by kernel_rfl) rfl #[.agg #[.int .i64 t322, .int .i64 t323, .slice Ao15 t324.length co15, .slice Ao16 t327.length co16], .int .i64 1] rfl lQ ?_; (with_reducible refine (laws_markGrammar.calls kj4 t322 t323 (fun k_ => some k_ = (.slice Ao15 t324.length co15 : Value).ownBlock) (.slice Ao15 t324.length co15) t324 (fun k_ => some k_ = (.slice Ao16 t327.length co16 : Value).ownBlock) (.slice Ao16 t327.length co16) t327 1 t333 t334 t335 w _ ?side1 ?side2 ?side3 A28.out).mono ?_); (case side1 => repeat (first | (with_reducible first | exact HB.out | apply bA | apply bN | apply bD | refine bS ?_ GE321.out | refine bS ?_ GE331.out) | exact HB.out)); (case side2 => exact Kd.R_tight rfl HO_332002.out); (case side3 => exact Kd.R_tight rfl HO_332003.out); rintro e w41 ⟨rfl, hy0, hy1, hb, hkp⟩; refine ⟨_, rfl, ?_⟩; have n0_ := Aside0.mk (rM (ok' := fun k_ => some k_ ≠ (.slice Ao15 t324.length co15 : Value).ownBlock) (Kd.R_keptB ((Kd.R_apart' HO_322002.out (Kd.R_typed HO_332003.out) (by decide))) hkp (fun k_ hk_ hs_ => Or.elim hs_ (fun e_ => (hk_.1) e_) (fun e_ => (hk_.2) e_))) (fun k_ hk_ => hk_.1.1)); have n1_ := Aside0.mk (rM (ok' := fun k_ => some k_ ≠ (.slice Ao16 t327.length co16 : Value).ownBlock) (Kd.R_keptB ((Kd.R_apart' HO_322003.out (Kd.R_typed HO_332002.out) (by decide))) hkp (fun k_ hk_ hs_ => Or.elim hs_ (fun e_ => (hk_.2) e_) (fun e_ => (hk_.1) e_))) (fun k_ hk_ => hk_.1.1)); have n2_ := Aside0.mk (Kd.R_reok rfl hy0 (fun k_ e_ => HO_332002.out.1 k_ e_)); have n3_ := Aside0.mk (Kd.R_reok rfl hy1 (fun k_ e_ => HO_332003.out.1 k_ e_)); have n4_ := Aside0.mk (blk_kept (kQ BK321) hkp (fun hs_ => Or.elim hs_ (fun e_ => (fun e_ => (Kd.R_ne HO_332002.out BK321.out (by decide)) e_) e_) (fun e_ => (fun e_ => (Kd.R_ne HO_332003.out BK321.out (by decide)) e_) e_))); have n5_ := Aside0.mk (blk_kept (kQ BK331) hkp (fun hs_ => Or.elim hs_ (fun e_ => (fun e_ => (Kd.R_ne HO_332002.out BK331.out (by decide)) e_) e_) (fun e_ => (fun e_ => (Kd.R_ne HO_332003.out BK331.out (by decide)) e_) e_))); have n6_ := Aside0.mk (hb); clear HO_322002; clear HO_322003; clear HO_332002; clear HO_332003; clear BK321; clear BK331; clear HB; have HO_322002 := n0_; have HO_322003 := n1_; have HO_332002 := n2_; have HO_332003 := n3_; have BK321 := n4_; have BK331 := n5_; have HB := n6_; clear n0_ n1_ n2_ n3_ n4_ n5_ n6_; (try clear hb); (try clear hkp); (try clear hy0); (try clear hy1); obtain ⟨hcz42_0, hcz42_1, hcz42_2, hcz42_3⟩ := cZ4 BK331.out; obtain ⟨hfz42_0, hfz42_1, hfz42_2, hfz42_3⟩ := fZ4 BK331.out) | ((with_reducible refine gC (f := 17) rfl ?_); refine goesL_ (some 38) rfl rfl Tryd.func17 (by kernel_rfl) rfl #[.agg #[.int .i64 t322, .int .i64 t323, .slice Ao15 t334.length co15, .slice Ao16 t335.length co16], .int .i64 1] rfl (by (try simp only [List.map_toArray, List.map_cons, List.map_nil]); first | done | (rw [show t334.length = t324.length from (Kd.R_reads' HO_332002.out).1.symm, show t335.length = t327.length from (Kd.R_reads' HO_332003.out).1.symm] <;> rfl) | rfl | (simp only [List.length_drop, List.length_take]; rfl)) ?_; (with_reducible refine (laws_heldGrammar.calls kj4 t322 t323 _ _ t334 _ _ t335 1 t336 _ ?side1 ?side2 ?side3 ?side4 A29.out).mono ?_); (case side1 => exact cP (Kd.R_reads' HO_332002.out).2.2); (case side2 => rw [show t334.length = t324.length from (Kd.R_reads' HO_332002.out).1.symm]; exact (Kd.R_reads' HO_332002.out).2.1); (case side3 => exact cP (Kd.R_reads' HO_332003.out).2.2); (case side4 => rw [show t335.length = t327.length from (Kd.R_reads' HO_332003.out).1.symm]; exact (Kd.R_reads' HO_332003.out).2.1); rintro e w43 ⟨rfl, hb⟩; refine ⟨_, rfl, ?_⟩; have n0_ := Aside0.mk (rB (rQ HO_322002) hb); have n1_ := Aside0.mk (rB (rQ HO_322003) hb); have n2_ := Aside0.mk (rB (rQ HO_332002) hb); have n3_ := Aside0.mk (rB (rQ HO_332003) hb); have n4_ := Aside0.mk (kB (kQ BK321) hb); have n5_ := Aside0.mk (kB (kQ BK331) hb); have n6_ := Aside0.mk (bP (by repeat (first | (with_reducible first | exact HB.out | apply bA | apply bN | apply bD | refine bS ?_ GE321.out | refine bS ?_ GE331.out) | exact HB.out)) hb); clear HO_322002; clear HO_322003; clear HO_332002; clear HO_332003; clear BK321; clear BK331; clear HB; have HO_322002 := n0_; have HO_322003 := n1_; have HO_332002 := n2_; have HO_332003 := n3_; have BK321 := n4_; have BK331 := n5_; have HB := n6_; clear n0_ n1_ n2_ n3_ n4_ n5_ n6_; (try clear hb); (try clear hb2); (try clear hk); (try clear hi)) | ((with_reducible refine gC (f := 14) rfl ?_); refine goesL_ (some 46) rfl rfl Tryd.func14 (by kernel_rfl) rfl #[.string a0] rfl lQ ?_; (with_reducible refine (impl_ReadGrammar.calls kj4 a0 t337 t338 t339 t342 t345 _ (by first | exact hT | exact TabR.below hT HB.out | exact TabR.below hT (by repeat (first | (with_reducible first | exact HB.out | apply bA | apply bN | apply bD | refine bS ?_ GE321.out | refine bS ?_ GE331.out | refine bS ?_ GE346.out) | exact HB.out)) | exact TabR.below hT (Below.refl _ _)) A37.out).mono ?_); rintro e w44 ⟨v340, v343, rfl, ho0, ho1, hb⟩; refine ⟨_, rfl, ?_⟩; have z_ := bX hb (by repeat (first | (with_reducible first | exact HB.out | apply bA | apply bN | apply bD | refine bS ?_ GE321.out | refine bS ?_ GE331.out) | exact HB.out)); have n0_ := Aside0.mk (rE (rQ HO_322002) (Kd.R_base ho0) hb); have n1_ := Aside0.mk (rE (rQ HO_322003) (Kd.R_base ho1) hb); have n2_ := Aside0.mk (rE (rQ HO_332002) (Kd.R_base ho0) hb); have n3_ := Aside0.mk (rE (rQ HO_332003) (Kd.R_base ho1) hb); have n4_ := Aside0.mk (rL (rW (rW ho0 (rT (rQ HO_322002))) (rT (rQ HO_332002))) (bZ z_)); have n5_ := Aside0.mk (rL (rW (rW ho1 (rT (rQ HO_322003))) (rT (rQ HO_332003))) (bZ z_)); have n6_ := Aside0.mk (kB (kQ BK321) hb); have n7_ := Aside0.mk (kB (kQ BK331) hb); have n8_ := Aside0.mk (bP z_ hb); clear HO_322002; clear HO_322003; clear HO_332002; clear HO_332003; clear BK321; clear BK331; clear HB; have HO_322002 := n0_; have HO_322003 := n1_; have HO_332002 := n2_; have HO_332003 := n3_; have HO341 := n4_; have HO344 := n5_; have BK321 := n6_; have BK331 := n7_; have HB := n8_; clear z_ n0_ n1_ n2_ n3_ n4_ n5_ n6_ n7_ n8_; (try clear hb); (try clear hb2); (try clear hk); (try clear hi); (try clear ho0); (try clear ho1)) | ((with_reducible refine gate_dst (N := 9) rfl ?_); refine bE ?hg (N := 9) ?hd (cs := #[.int .i64 0, .int .i64 0, .slice none 0 0, .slice none 0 0]) (t := 31) ?hr ?_; (case hd => rfl); (case hg => rfl); (case hr => first | (go_simp; done) | (go_simp; rfl)); intro gb346 hg w45 hbox hb; have z_ := bX hb (by repeat (first | (with_reducible first | exact HB.out | apply bA | apply bN | apply bD | refine bS ?_ GE321.out | refine bS ?_ GE331.out) | exact HB.out)); have n0_ := Aside0.mk (rB (rQ HO_322002) hb); have n1_ := Aside0.mk (rB (rQ HO_322003) hb); have n2_ := Aside0.mk (rB (rQ HO_332002) hb); have n3_ := Aside0.mk (rB (rQ HO_332003) hb); have n4_ := Aside0.mk (rB (rQ HO341) hb); have n5_ := Aside0.mk (rB (rQ HO344) hb); have n6_ := Aside0.mk (kB (kQ BK321) hb); have n7_ := Aside0.mk (kB (kQ BK331) hb); have n8_ := Aside0.mk (bP z_ hb); have n9_ := Aside0.mk (hbox); have n10_ := Aside0.mk ((by rw [hg]; exact (bZ z_) : w.heap.size ≤ gb346)); have n11_ := Aside0.mk ((by rw [hg]; exact (bZ z_) : w.heap.size ≤ gb346)); have n12_ := Aside0.mk ((by rw [hg]; exact Nat.ne_of_lt (kL (kQ BK321)) : gb321 ≠ gb346)); have n13_ := Aside0.mk ((by rw [hg]; exact Nat.ne_of_gt (kL (kQ BK321)) : gb346 ≠ gb321)); have n14_ := Aside0.mk ((by rw [hg]; exact Nat.ne_of_lt (kL (kQ BK331)) : gb331 ≠ gb346)); have n15_ := Aside0.mk ((by rw [hg]; exact Nat.ne_of_gt (kL (kQ BK331)) : gb346 ≠ gb331)); clear HO_322002; clear HO_322003; clear HO_332002; clear HO_332003; clear HO341; clear HO344; clear BK321; clear BK331; clear HB; have HO_322002 := n0_; have HO_322003 := n1_; have HO_332002 := n2_; have HO_332003 := n3_; have HO341 := n4_; have HO344 := n5_; have BK321 := n6_; have BK331 := n7_; have HB := n8_; have BK346 := n9_; have GW346 := n10_; have GE346 := n11_; have NB321_346 := n12_; have NB346_321 := n13_; have NB331_346 := n14_; have NB346_331 := n15_; clear z_ n0_ n1_ n2_ n3_ n4_ n5_ n6_ n7_ n8_ n9_ n10_ n11_ n12_ n13_ n14_ n15_; clear hb hbox hg; have hnb46 := NB346_321.out; have hnc46 := NB321_346.out; have hnb47 := NB346_331.out; have hnc47 := NB331_346.out; obtain ⟨hcz48_0, hcz48_1, hcz48_2, hcz48_3⟩ := cZ4 BK346.out; obtain ⟨hfz48_0, hfz48_1, hfz48_2, hfz48_3⟩ := fZ4 BK346.out; obtain ⟨Ao49, co49, eo49⟩ := Kd.R_slice HO341.out; subst eo49; obtain ⟨Ao50, co50, eo50⟩ := Kd.R_slice HO344.out; subst eo50))
       (try simp only [Act.put, sI, sZ, sS])
       go_cut [57] (fun v57 wc => ∃ (kq : Nat) (x57_37 : Bool), v57 = .bool x57_37 ∧ Aside0 (laws_FnExactReadGrammar.j1 kq t333 x57_37 t322 t323 t334 t335 = some r) ∧ Aside0 (kq ≤ kj4) ∧ Aside0 (Kd.R (Kd.int .i64) 2 wc w.heap.size (fun k_ => some k_ ≠ ((.slice Ao15 t324.length co15) : Value).ownBlock ∧ some k_ ≠ ((.slice Ao49 t339.length co49) : Value).ownBlock) (.slice Ao9 t314.length co9) t314) ∧ Aside0 (Kd.R k63 63 wc w.heap.size (fun k_ => some k_ ≠ ((.slice Ao16 t327.length co16) : Value).ownBlock ∧ some k_ ≠ ((.slice Ao50 t342.length co50) : Value).ownBlock) (.slice Ao10 t317.length co10) t317) ∧ Aside0 (Kd.R (Kd.int .i64) 2 wc w.heap.size (fun k_ => some k_ ≠ ((.slice Ao9 t314.length co9) : Value).ownBlock ∧ some k_ ≠ ((.slice Ao49 t339.length co49) : Value).ownBlock) (.slice Ao15 t324.length co15) t334) ∧ Aside0 (Kd.R k63 63 wc w.heap.size (fun k_ => some k_ ≠ ((.slice Ao10 t317.length co10) : Value).ownBlock ∧ some k_ ≠ ((.slice Ao50 t342.length co50) : Value).ownBlock) (.slice Ao16 t327.length co16) t335) ∧ Aside0 (Kd.R (Kd.int .i64) 2 wc w.heap.size (fun k_ => some k_ ≠ ((.slice Ao9 t314.length co9) : Value).ownBlock ∧ some k_ ≠ ((.slice Ao15 t324.length co15) : Value).ownBlock) (.slice Ao49 t339.length co49) t339) ∧ Aside0 (Kd.R k63 63 wc w.heap.size (fun k_ => some k_ ≠ ((.slice Ao10 t317.length co10) : Value).ownBlock ∧ some k_ ≠ ((.slice Ao16 t327.length co16) : Value).ownBlock) (.slice Ao50 t342.length co50) t342) ∧ Aside0 (wc.heap[gb321]? = some (.cells #[.int .i64 t312, .int .i64 t313, (.slice Ao9 t314.length co9), (.slice Ao10 t317.length co10)] 31 (0, 0))) ∧ Aside0 (wc.heap[gb331]? = some (.cells #[.int .i64 t322, .int .i64 t323, (.slice Ao15 t324.length co15), (.slice Ao16 t327.length co16)] 31 (0, 0))) ∧ Aside0 (wc.heap[gb346]? = some (.cells #[.int .i64 t337, .int .i64 t338, (.slice Ao49 t339.length co49), (.slice Ao50 t342.length co50)] 31 (0, 0))) ∧ Aside0 (Below w.heap.size w wc))
       case first =>
        have H := HC38.out
        clear HC38
        replace H := Option.bind_eq_some_iff.mp H
        obtain ⟨t347, A510, H⟩ := H
        replace H : (if t347 = true then (laws_FnExactReadGrammar.j1 kj4 t333 (t345 != t320) t322 t323 t334 t335) else (laws_FnExactReadGrammar.j1 kj4 t333 true t322 t323 t334 t335)) = some r := H
        have A51 := Aside0.mk A510
        clear A510
        by_cases c52 : t347 = true
        ·subst c52
         have H1 : (laws_FnExactReadGrammar.j1 kj4 t333 (t345 != t320) t322 t323 t334 t335) = some r := by rw [if_pos rfl] at H; exact H
         clear H
         have H := H1
         clear H1
         have H' := Aside0.mk H
         clear H
         have hnb53 := NB346_321.out
         have hnc53 := NB321_346.out
         have hnb54 := NB346_331.out
         have hnc54 := NB331_346.out
         obtain ⟨hcz55_0, hcz55_1, hcz55_2, hcz55_3⟩ := cZ4 BK346.out
         obtain ⟨hfz55_0, hfz55_1, hfz55_2, hfz55_3⟩ := fZ4 BK346.out
         have hnb56 := NB321_331.out
         have hnc56 := NB331_321.out
         obtain ⟨hcz57_0, hcz57_1, hcz57_2, hcz57_3⟩ := cZ4 BK321.out
         obtain ⟨hfz57_0, hfz57_1, hfz57_2, hfz57_3⟩ := fZ4 BK321.out
         go_wp2_with (first | ((with_reducible refine gC (f := 15) rfl ?_); refine goesL_ (some 51) rfl rfl Tryd.func15 (by kernel_rfl) rfl #[.agg #[.int .i64 t337, .int .i64 t338, .slice Ao49 t339.length co49, .slice Ao50 t342.length co50], .agg #[.int .i64 t312, .int .i64 t313, .slice Ao9 t314.length co9, .slice Ao10 t317.length co10]] rfl lQ ?_; (with_reducible refine (laws_eqGrammar.calls kj4 t337 t338 _ _ t339 _ _ t342 t312 t313 _ _ t314 _ _ t317 true _ ?side1 ?side2 ?side3 ?side4 ?side5 ?side6 ?side7 ?side8 A51.out).mono ?_); (case side1 => refine (Kd.R_reads' (e := 2) (base := w.heap.size) (ok := fun k_ => ((True ∧ some k_ ≠ (.slice Ao9 t314.length co9 : Value).ownBlock) ∧ some k_ ≠ (.slice Ao15 t324.length co15 : Value).ownBlock)) (n := t339.length) (c := co49) ?_).2.2; exact (by (with_reducible repeat (first | apply rA | apply rN | apply rD)); exact (rM (Kd.R_far (p := ⟨gb346, 3, none⟩) (Kd.R_far (p := ⟨gb346, 2, none⟩) (Kd.R_far (p := ⟨gb346, 1, none⟩) (Kd.R_far (p := ⟨gb346, 0, none⟩) (Kd.R_types HO341.out BK346.out (by decide)) (fun _ hk => hk.2) (.int .i64 t337)) (fun _ hk => hk.2) (.int .i64 t338)) (fun _ hk => hk.2) (.slice Ao49 t339.length co49)) (fun _ hk => hk.2) (.slice Ao50 t342.length co50)) (fun _ h_ => h_.1)))); (case side2 => exact (Kd.R_reads' HO341.out).2.1); (case side3 => refine (Kd.R_reads' (e := 63) (base := w.heap.size) (ok := fun k_ => ((True ∧ some k_ ≠ (.slice Ao10 t317.length co10 : Value).ownBlock) ∧ some k_ ≠ (.slice Ao16 t327.length co16 : Value).ownBlock)) (n := t342.length) (c := co50) ?_).2.2; exact (by (with_reducible repeat (first | apply rA | apply rN | apply rD)); exact (rM (Kd.R_far (p := ⟨gb346, 3, none⟩) (Kd.R_far (p := ⟨gb346, 2, none⟩) (Kd.R_far (p := ⟨gb346, 1, none⟩) (Kd.R_far (p := ⟨gb346, 0, none⟩) (Kd.R_types HO344.out BK346.out (by decide)) (fun _ hk => hk.2) (.int .i64 t337)) (fun _ hk => hk.2) (.int .i64 t338)) (fun _ hk => hk.2) (.slice Ao49 t339.length co49)) (fun _ hk => hk.2) (.slice Ao50 t342.length co50)) (fun _ h_ => h_.1)))); (case side4 => exact (Kd.R_reads' HO344.out).2.1); (case side5 => refine (Kd.R_reads' (e := 2) (base := w.heap.size) (ok := fun k_ => (some k_ ≠ (.slice Ao15 t324.length co15 : Value).ownBlock ∧ some k_ ≠ (.slice Ao49 t339.length co49 : Value).ownBlock)) (n := t314.length) (c := co9) ?_).2.2; exact (by (with_reducible repeat (first | apply rA | apply rN | apply rD)); exact (rM (Kd.R_far (p := ⟨gb346, 3, none⟩) (Kd.R_far (p := ⟨gb346, 2, none⟩) (Kd.R_far (p := ⟨gb346, 1, none⟩) (Kd.R_far (p := ⟨gb346, 0, none⟩) (Kd.R_types HO_322002.out BK346.out (by decide)) (fun _ hk => hk.2) (.int .i64 t337)) (fun _ hk => hk.2) (.int .i64 t338)) (fun _ hk => hk.2) (.slice Ao49 t339.length co49)) (fun _ hk => hk.2) (.slice Ao50 t342.length co50)) (fun _ h_ => h_.1)))); (case side6 => exact (Kd.R_reads' HO_322002.out).2.1); (case side7 => refine (Kd.R_reads' (e := 63) (base := w.heap.size) (ok := fun k_ => (some k_ ≠ (.slice Ao16 t327.length co16 : Value).ownBlock ∧ some k_ ≠ (.slice Ao50 t342.length co50 : Value).ownBlock)) (n := t317.length) (c := co10) ?_).2.2; exact (by (with_reducible repeat (first | apply rA | apply rN | apply rD)); exact (rM (Kd.R_far (p := ⟨gb346, 3, none⟩) (Kd.R_far (p := ⟨gb346, 2, none⟩) (Kd.R_far (p := ⟨gb346, 1, none⟩) (Kd.R_far (p := ⟨gb346, 0, none⟩) (Kd.R_types HO_322003.out BK346.out (by decide)) (fun _ hk => hk.2) (.int .i64 t337)) (fun _ hk => hk.2) (.int .i64 t338)) (fun _ hk => hk.2) (.slice Ao49 t339.length co49)) (fun _ hk => hk.2) (.slice Ao50 t342.length co50)) (fun _ h_ => h_.1)))); (case side8 => exact (Kd.R_reads' HO_322003.out).2.1); rintro e w58 ⟨rfl, hb⟩; refine ⟨_, rfl, ?_⟩; have n0_ := Aside0.mk (rB (by (with_reducible repeat (first | apply rA | apply rN | apply rD)); exact (rM (Kd.R_far (p := ⟨gb346, 3, none⟩) (Kd.R_far (p := ⟨gb346, 2, none⟩) (Kd.R_far (p := ⟨gb346, 1, none⟩) (Kd.R_far (p := ⟨gb346, 0, none⟩) (Kd.R_types HO_322002.out BK346.out (by decide)) (fun _ hk => hk.2) (.int .i64 t337)) (fun _ hk => hk.2) (.int .i64 t338)) (fun _ hk => hk.2) (.slice Ao49 t339.length co49)) (fun _ hk => hk.2) (.slice Ao50 t342.length co50)) (fun _ h_ => h_.1))) hb); have n1_ := Aside0.mk (rB (by (with_reducible repeat (first | apply rA | apply rN | apply rD)); exact (rM (Kd.R_far (p := ⟨gb346, 3, none⟩) (Kd.R_far (p := ⟨gb346, 2, none⟩) (Kd.R_far (p := ⟨gb346, 1, none⟩) (Kd.R_far (p := ⟨gb346, 0, none⟩) (Kd.R_types HO_322003.out BK346.out (by decide)) (fun _ hk => hk.2) (.int .i64 t337)) (fun _ hk => hk.2) (.int .i64 t338)) (fun _ hk => hk.2) (.slice Ao49 t339.length co49)) (fun _ hk => hk.2) (.slice Ao50 t342.length co50)) (fun _ h_ => h_.1))) hb); have n2_ := Aside0.mk (rB (by (with_reducible repeat (first | apply rA | apply rN | apply rD)); exact (rM (Kd.R_far (p := ⟨gb346, 3, none⟩) (Kd.R_far (p := ⟨gb346, 2, none⟩) (Kd.R_far (p := ⟨gb346, 1, none⟩) (Kd.R_far (p := ⟨gb346, 0, none⟩) (Kd.R_types HO_332002.out BK346.out (by decide)) (fun _ hk => hk.2) (.int .i64 t337)) (fun _ hk => hk.2) (.int .i64 t338)) (fun _ hk => hk.2) (.slice Ao49 t339.length co49)) (fun _ hk => hk.2) (.slice Ao50 t342.length co50)) (fun _ h_ => h_.1))) hb); have n3_ := Aside0.mk (rB (by (with_reducible repeat (first | apply rA | apply rN | apply rD)); exact (rM (Kd.R_far (p := ⟨gb346, 3, none⟩) (Kd.R_far (p := ⟨gb346, 2, none⟩) (Kd.R_far (p := ⟨gb346, 1, none⟩) (Kd.R_far (p := ⟨gb346, 0, none⟩) (Kd.R_types HO_332003.out BK346.out (by decide)) (fun _ hk => hk.2) (.int .i64 t337)) (fun _ hk => hk.2) (.int .i64 t338)) (fun _ hk => hk.2) (.slice Ao49 t339.length co49)) (fun _ hk => hk.2) (.slice Ao50 t342.length co50)) (fun _ h_ => h_.1))) hb); have n4_ := Aside0.mk (rB (by (with_reducible repeat (first | apply rA | apply rN | apply rD)); exact (rM (Kd.R_far (p := ⟨gb346, 3, none⟩) (Kd.R_far (p := ⟨gb346, 2, none⟩) (Kd.R_far (p := ⟨gb346, 1, none⟩) (Kd.R_far (p := ⟨gb346, 0, none⟩) (Kd.R_types HO341.out BK346.out (by decide)) (fun _ hk => hk.2) (.int .i64 t337)) (fun _ hk => hk.2) (.int .i64 t338)) (fun _ hk => hk.2) (.slice Ao49 t339.length co49)) (fun _ hk => hk.2) (.slice Ao50 t342.length co50)) (fun _ h_ => h_.1))) hb); have n5_ := Aside0.mk (rB (by (with_reducible repeat (first | apply rA | apply rN | apply rD)); exact (rM (Kd.R_far (p := ⟨gb346, 3, none⟩) (Kd.R_far (p := ⟨gb346, 2, none⟩) (Kd.R_far (p := ⟨gb346, 1, none⟩) (Kd.R_far (p := ⟨gb346, 0, none⟩) (Kd.R_types HO344.out BK346.out (by decide)) (fun _ hk => hk.2) (.int .i64 t337)) (fun _ hk => hk.2) (.int .i64 t338)) (fun _ hk => hk.2) (.slice Ao49 t339.length co49)) (fun _ hk => hk.2) (.slice Ao50 t342.length co50)) (fun _ h_ => h_.1))) hb); have n6_ := Aside0.mk (kB (g := gb321) (o := .cells #[.int .i64 t312, .int .i64 t313, .slice Ao9 t314.length co9, .slice Ao10 t317.length co10] 31 (0, 0)) (by (with_reducible repeat (first | refine kN ?_ _ | refine kD ?_ | refine kA ?_ _)); refine kF ?_ NB321_346.out _; (with_reducible repeat (first | refine kN ?_ _ | refine kD ?_ | refine kA ?_ _)); refine kF ?_ NB321_346.out _; (with_reducible repeat (first | refine kN ?_ _ | refine kD ?_ | refine kA ?_ _)); refine kF ?_ NB321_346.out _; (with_reducible repeat (first | refine kN ?_ _ | refine kD ?_ | refine kA ?_ _)); refine kF ?_ NB321_346.out _; (with_reducible repeat (first | refine kN ?_ _ | refine kD ?_ | refine kA ?_ _)); exact BK321.out) hb); have n7_ := Aside0.mk (kB (g := gb331) (o := .cells #[.int .i64 t322, .int .i64 t323, .slice Ao15 t324.length co15, .slice Ao16 t327.length co16] 31 (0, 0)) (by (with_reducible repeat (first | refine kN ?_ _ | refine kD ?_ | refine kA ?_ _)); refine kF ?_ NB331_346.out _; (with_reducible repeat (first | refine kN ?_ _ | refine kD ?_ | refine kA ?_ _)); refine kF ?_ NB331_346.out _; (with_reducible repeat (first | refine kN ?_ _ | refine kD ?_ | refine kA ?_ _)); refine kF ?_ NB331_346.out _; (with_reducible repeat (first | refine kN ?_ _ | refine kD ?_ | refine kA ?_ _)); refine kF ?_ NB331_346.out _; (with_reducible repeat (first | refine kN ?_ _ | refine kD ?_ | refine kA ?_ _)); exact BK331.out) hb); have n8_ := Aside0.mk (kB (g := gb346) (o := .cells #[.int .i64 t337, .int .i64 t338, .slice Ao49 t339.length co49, .slice Ao50 t342.length co50] 31 (0, 0)) (by (with_reducible repeat (first | refine kN ?_ _ | refine kD ?_ | refine kA ?_ _)); refine blk_put (cs := #[.int .i64 t337, .int .i64 t338, .slice Ao49 t339.length co49, .slice none 0 0]) ?_ 3 _ rfl; (with_reducible repeat (first | refine kN ?_ _ | refine kD ?_ | refine kA ?_ _)); refine blk_put (cs := #[.int .i64 t337, .int .i64 t338, .slice none 0 0, .slice none 0 0]) ?_ 2 _ rfl; (with_reducible repeat (first | refine kN ?_ _ | refine kD ?_ | refine kA ?_ _)); refine blk_put (cs := #[.int .i64 t337, .int .i64 0, .slice none 0 0, .slice none 0 0]) ?_ 1 _ rfl; (with_reducible repeat (first | refine kN ?_ _ | refine kD ?_ | refine kA ?_ _)); refine blk_put (cs := #[.int .i64 0, .int .i64 0, .slice none 0 0, .slice none 0 0]) ?_ 0 _ rfl; (with_reducible repeat (first | refine kN ?_ _ | refine kD ?_ | refine kA ?_ _)); exact BK346.out) hb); have n9_ := Aside0.mk (bP (by repeat (first | (with_reducible first | exact HB.out | apply bA | apply bN | apply bD | refine bS ?_ GE321.out | refine bS ?_ GE331.out | refine bS ?_ GE346.out) | exact HB.out)) hb); clear HO_322002; clear HO_322003; clear HO_332002; clear HO_332003; clear HO341; clear HO344; clear BK321; clear BK331; clear BK346; clear HB; have HO_322002 := n0_; have HO_322003 := n1_; have HO_332002 := n2_; have HO_332003 := n3_; have HO341 := n4_; have HO344 := n5_; have BK321 := n6_; have BK331 := n7_; have BK346 := n8_; have HB := n9_; clear n0_ n1_ n2_ n3_ n4_ n5_ n6_ n7_ n8_ n9_; (try clear hb); (try clear hb2); (try clear hk); (try clear hi)))
         go_meet
         case rel => exact ⟨_, ((t345 != t320)), eT, H', ⟨by have := HJ4.out; first | omega | exact Nat.le_refl _⟩, ⟨rQ HO_322002⟩, ⟨rQ HO_322003⟩, ⟨rQ HO_332002⟩, ⟨rQ HO_332003⟩, ⟨by (with_reducible repeat (first | apply rA | apply rN | apply rD)); exact rM HO341.out (fun _ hk => ⟨hk.1.2, hk.2⟩)⟩, ⟨by (with_reducible repeat (first | apply rA | apply rN | apply rD)); exact rM HO344.out (fun _ hk => ⟨hk.1.2, hk.2⟩)⟩, ⟨kQ BK321⟩, ⟨kQ BK331⟩, ⟨kQ BK346⟩, ⟨by repeat (first | (with_reducible first | exact HB.out | apply bA | apply bN | apply bD | refine bS ?_ GE321.out | refine bS ?_ GE331.out | refine bS ?_ GE346.out) | exact HB.out)⟩⟩
        ·replace c52 := Bool.eq_false_iff.mpr c52
         subst c52
         have H1 : (laws_FnExactReadGrammar.j1 kj4 t333 true t322 t323 t334 t335) = some r := by rw [if_neg (show ¬ (false = true) by decide)] at H; exact H
         clear H
         have H := H1
         clear H1
         have H' := Aside0.mk H
         clear H
         have hnb59 := NB346_321.out
         have hnc59 := NB321_346.out
         have hnb60 := NB346_331.out
         have hnc60 := NB331_346.out
         obtain ⟨hcz61_0, hcz61_1, hcz61_2, hcz61_3⟩ := cZ4 BK346.out
         obtain ⟨hfz61_0, hfz61_1, hfz61_2, hfz61_3⟩ := fZ4 BK346.out
         have hnb62 := NB321_331.out
         have hnc62 := NB331_321.out
         obtain ⟨hcz63_0, hcz63_1, hcz63_2, hcz63_3⟩ := cZ4 BK321.out
         obtain ⟨hfz63_0, hfz63_1, hfz63_2, hfz63_3⟩ := fZ4 BK321.out
         go_wp2_with (first | ((with_reducible refine gC (f := 15) rfl ?_); refine goesL_ (some 51) rfl rfl Tryd.func15 (by kernel_rfl) rfl #[.agg #[.int .i64 t337, .int .i64 t338, .slice Ao49 t339.length co49, .slice Ao50 t342.length co50], .agg #[.int .i64 t312, .int .i64 t313, .slice Ao9 t314.length co9, .slice Ao10 t317.length co10]] rfl lQ ?_; (with_reducible refine (laws_eqGrammar.calls kj4 t337 t338 _ _ t339 _ _ t342 t312 t313 _ _ t314 _ _ t317 false _ ?side1 ?side2 ?side3 ?side4 ?side5 ?side6 ?side7 ?side8 A51.out).mono ?_); (case side1 => refine (Kd.R_reads' (e := 2) (base := w.heap.size) (ok := fun k_ => ((True ∧ some k_ ≠ (.slice Ao9 t314.length co9 : Value).ownBlock) ∧ some k_ ≠ (.slice Ao15 t324.length co15 : Value).ownBlock)) (n := t339.length) (c := co49) ?_).2.2; exact (by (with_reducible repeat (first | apply rA | apply rN | apply rD)); exact (rM (Kd.R_far (p := ⟨gb346, 3, none⟩) (Kd.R_far (p := ⟨gb346, 2, none⟩) (Kd.R_far (p := ⟨gb346, 1, none⟩) (Kd.R_far (p := ⟨gb346, 0, none⟩) (Kd.R_types HO341.out BK346.out (by decide)) (fun _ hk => hk.2) (.int .i64 t337)) (fun _ hk => hk.2) (.int .i64 t338)) (fun _ hk => hk.2) (.slice Ao49 t339.length co49)) (fun _ hk => hk.2) (.slice Ao50 t342.length co50)) (fun _ h_ => h_.1)))); (case side2 => exact (Kd.R_reads' HO341.out).2.1); (case side3 => refine (Kd.R_reads' (e := 63) (base := w.heap.size) (ok := fun k_ => ((True ∧ some k_ ≠ (.slice Ao10 t317.length co10 : Value).ownBlock) ∧ some k_ ≠ (.slice Ao16 t327.length co16 : Value).ownBlock)) (n := t342.length) (c := co50) ?_).2.2; exact (by (with_reducible repeat (first | apply rA | apply rN | apply rD)); exact (rM (Kd.R_far (p := ⟨gb346, 3, none⟩) (Kd.R_far (p := ⟨gb346, 2, none⟩) (Kd.R_far (p := ⟨gb346, 1, none⟩) (Kd.R_far (p := ⟨gb346, 0, none⟩) (Kd.R_types HO344.out BK346.out (by decide)) (fun _ hk => hk.2) (.int .i64 t337)) (fun _ hk => hk.2) (.int .i64 t338)) (fun _ hk => hk.2) (.slice Ao49 t339.length co49)) (fun _ hk => hk.2) (.slice Ao50 t342.length co50)) (fun _ h_ => h_.1)))); (case side4 => exact (Kd.R_reads' HO344.out).2.1); (case side5 => refine (Kd.R_reads' (e := 2) (base := w.heap.size) (ok := fun k_ => (some k_ ≠ (.slice Ao15 t324.length co15 : Value).ownBlock ∧ some k_ ≠ (.slice Ao49 t339.length co49 : Value).ownBlock)) (n := t314.length) (c := co9) ?_).2.2; exact (by (with_reducible repeat (first | apply rA | apply rN | apply rD)); exact (rM (Kd.R_far (p := ⟨gb346, 3, none⟩) (Kd.R_far (p := ⟨gb346, 2, none⟩) (Kd.R_far (p := ⟨gb346, 1, none⟩) (Kd.R_far (p := ⟨gb346, 0, none⟩) (Kd.R_types HO_322002.out BK346.out (by decide)) (fun _ hk => hk.2) (.int .i64 t337)) (fun _ hk => hk.2) (.int .i64 t338)) (fun _ hk => hk.2) (.slice Ao49 t339.length co49)) (fun _ hk => hk.2) (.slice Ao50 t342.length co50)) (fun _ h_ => h_.1)))); (case side6 => exact (Kd.R_reads' HO_322002.out).2.1); (case side7 => refine (Kd.R_reads' (e := 63) (base := w.heap.size) (ok := fun k_ => (some k_ ≠ (.slice Ao16 t327.length co16 : Value).ownBlock ∧ some k_ ≠ (.slice Ao50 t342.length co50 : Value).ownBlock)) (n := t317.length) (c := co10) ?_).2.2; exact (by (with_reducible repeat (first | apply rA | apply rN | apply rD)); exact (rM (Kd.R_far (p := ⟨gb346, 3, none⟩) (Kd.R_far (p := ⟨gb346, 2, none⟩) (Kd.R_far (p := ⟨gb346, 1, none⟩) (Kd.R_far (p := ⟨gb346, 0, none⟩) (Kd.R_types HO_322003.out BK346.out (by decide)) (fun _ hk => hk.2) (.int .i64 t337)) (fun _ hk => hk.2) (.int .i64 t338)) (fun _ hk => hk.2) (.slice Ao49 t339.length co49)) (fun _ hk => hk.2) (.slice Ao50 t342.length co50)) (fun _ h_ => h_.1)))); (case side8 => exact (Kd.R_reads' HO_322003.out).2.1); rintro e w64 ⟨rfl, hb⟩; refine ⟨_, rfl, ?_⟩; have n0_ := Aside0.mk (rB (by (with_reducible repeat (first | apply rA | apply rN | apply rD)); exact (rM (Kd.R_far (p := ⟨gb346, 3, none⟩) (Kd.R_far (p := ⟨gb346, 2, none⟩) (Kd.R_far (p := ⟨gb346, 1, none⟩) (Kd.R_far (p := ⟨gb346, 0, none⟩) (Kd.R_types HO_322002.out BK346.out (by decide)) (fun _ hk => hk.2) (.int .i64 t337)) (fun _ hk => hk.2) (.int .i64 t338)) (fun _ hk => hk.2) (.slice Ao49 t339.length co49)) (fun _ hk => hk.2) (.slice Ao50 t342.length co50)) (fun _ h_ => h_.1))) hb); have n1_ := Aside0.mk (rB (by (with_reducible repeat (first | apply rA | apply rN | apply rD)); exact (rM (Kd.R_far (p := ⟨gb346, 3, none⟩) (Kd.R_far (p := ⟨gb346, 2, none⟩) (Kd.R_far (p := ⟨gb346, 1, none⟩) (Kd.R_far (p := ⟨gb346, 0, none⟩) (Kd.R_types HO_322003.out BK346.out (by decide)) (fun _ hk => hk.2) (.int .i64 t337)) (fun _ hk => hk.2) (.int .i64 t338)) (fun _ hk => hk.2) (.slice Ao49 t339.length co49)) (fun _ hk => hk.2) (.slice Ao50 t342.length co50)) (fun _ h_ => h_.1))) hb); have n2_ := Aside0.mk (rB (by (with_reducible repeat (first | apply rA | apply rN | apply rD)); exact (rM (Kd.R_far (p := ⟨gb346, 3, none⟩) (Kd.R_far (p := ⟨gb346, 2, none⟩) (Kd.R_far (p := ⟨gb346, 1, none⟩) (Kd.R_far (p := ⟨gb346, 0, none⟩) (Kd.R_types HO_332002.out BK346.out (by decide)) (fun _ hk => hk.2) (.int .i64 t337)) (fun _ hk => hk.2) (.int .i64 t338)) (fun _ hk => hk.2) (.slice Ao49 t339.length co49)) (fun _ hk => hk.2) (.slice Ao50 t342.length co50)) (fun _ h_ => h_.1))) hb); have n3_ := Aside0.mk (rB (by (with_reducible repeat (first | apply rA | apply rN | apply rD)); exact (rM (Kd.R_far (p := ⟨gb346, 3, none⟩) (Kd.R_far (p := ⟨gb346, 2, none⟩) (Kd.R_far (p := ⟨gb346, 1, none⟩) (Kd.R_far (p := ⟨gb346, 0, none⟩) (Kd.R_types HO_332003.out BK346.out (by decide)) (fun _ hk => hk.2) (.int .i64 t337)) (fun _ hk => hk.2) (.int .i64 t338)) (fun _ hk => hk.2) (.slice Ao49 t339.length co49)) (fun _ hk => hk.2) (.slice Ao50 t342.length co50)) (fun _ h_ => h_.1))) hb); have n4_ := Aside0.mk (rB (by (with_reducible repeat (first | apply rA | apply rN | apply rD)); exact (rM (Kd.R_far (p := ⟨gb346, 3, none⟩) (Kd.R_far (p := ⟨gb346, 2, none⟩) (Kd.R_far (p := ⟨gb346, 1, none⟩) (Kd.R_far (p := ⟨gb346, 0, none⟩) (Kd.R_types HO341.out BK346.out (by decide)) (fun _ hk => hk.2) (.int .i64 t337)) (fun _ hk => hk.2) (.int .i64 t338)) (fun _ hk => hk.2) (.slice Ao49 t339.length co49)) (fun _ hk => hk.2) (.slice Ao50 t342.length co50)) (fun _ h_ => h_.1))) hb); have n5_ := Aside0.mk (rB (by (with_reducible repeat (first | apply rA | apply rN | apply rD)); exact (rM (Kd.R_far (p := ⟨gb346, 3, none⟩) (Kd.R_far (p := ⟨gb346, 2, none⟩) (Kd.R_far (p := ⟨gb346, 1, none⟩) (Kd.R_far (p := ⟨gb346, 0, none⟩) (Kd.R_types HO344.out BK346.out (by decide)) (fun _ hk => hk.2) (.int .i64 t337)) (fun _ hk => hk.2) (.int .i64 t338)) (fun _ hk => hk.2) (.slice Ao49 t339.length co49)) (fun _ hk => hk.2) (.slice Ao50 t342.length co50)) (fun _ h_ => h_.1))) hb); have n6_ := Aside0.mk (kB (g := gb321) (o := .cells #[.int .i64 t312, .int .i64 t313, .slice Ao9 t314.length co9, .slice Ao10 t317.length co10] 31 (0, 0)) (by (with_reducible repeat (first | refine kN ?_ _ | refine kD ?_ | refine kA ?_ _)); refine kF ?_ NB321_346.out _; (with_reducible repeat (first | refine kN ?_ _ | refine kD ?_ | refine kA ?_ _)); refine kF ?_ NB321_346.out _; (with_reducible repeat (first | refine kN ?_ _ | refine kD ?_ | refine kA ?_ _)); refine kF ?_ NB321_346.out _; (with_reducible repeat (first | refine kN ?_ _ | refine kD ?_ | refine kA ?_ _)); refine kF ?_ NB321_346.out _; (with_reducible repeat (first | refine kN ?_ _ | refine kD ?_ | refine kA ?_ _)); exact BK321.out) hb); have n7_ := Aside0.mk (kB (g := gb331) (o := .cells #[.int .i64 t322, .int .i64 t323, .slice Ao15 t324.length co15, .slice Ao16 t327.length co16] 31 (0, 0)) (by (with_reducible repeat (first | refine kN ?_ _ | refine kD ?_ | refine kA ?_ _)); refine kF ?_ NB331_346.out _; (with_reducible repeat (first | refine kN ?_ _ | refine kD ?_ | refine kA ?_ _)); refine kF ?_ NB331_346.out _; (with_reducible repeat (first | refine kN ?_ _ | refine kD ?_ | refine kA ?_ _)); refine kF ?_ NB331_346.out _; (with_reducible repeat (first | refine kN ?_ _ | refine kD ?_ | refine kA ?_ _)); refine kF ?_ NB331_346.out _; (with_reducible repeat (first | refine kN ?_ _ | refine kD ?_ | refine kA ?_ _)); exact BK331.out) hb); have n8_ := Aside0.mk (kB (g := gb346) (o := .cells #[.int .i64 t337, .int .i64 t338, .slice Ao49 t339.length co49, .slice Ao50 t342.length co50] 31 (0, 0)) (by (with_reducible repeat (first | refine kN ?_ _ | refine kD ?_ | refine kA ?_ _)); refine blk_put (cs := #[.int .i64 t337, .int .i64 t338, .slice Ao49 t339.length co49, .slice none 0 0]) ?_ 3 _ rfl; (with_reducible repeat (first | refine kN ?_ _ | refine kD ?_ | refine kA ?_ _)); refine blk_put (cs := #[.int .i64 t337, .int .i64 t338, .slice none 0 0, .slice none 0 0]) ?_ 2 _ rfl; (with_reducible repeat (first | refine kN ?_ _ | refine kD ?_ | refine kA ?_ _)); refine blk_put (cs := #[.int .i64 t337, .int .i64 0, .slice none 0 0, .slice none 0 0]) ?_ 1 _ rfl; (with_reducible repeat (first | refine kN ?_ _ | refine kD ?_ | refine kA ?_ _)); refine blk_put (cs := #[.int .i64 0, .int .i64 0, .slice none 0 0, .slice none 0 0]) ?_ 0 _ rfl; (with_reducible repeat (first | refine kN ?_ _ | refine kD ?_ | refine kA ?_ _)); exact BK346.out) hb); have n9_ := Aside0.mk (bP (by repeat (first | (with_reducible first | exact HB.out | apply bA | apply bN | apply bD | refine bS ?_ GE321.out | refine bS ?_ GE331.out | refine bS ?_ GE346.out) | exact HB.out)) hb); clear HO_322002; clear HO_322003; clear HO_332002; clear HO_332003; clear HO341; clear HO344; clear BK321; clear BK331; clear BK346; clear HB; have HO_322002 := n0_; have HO_322003 := n1_; have HO_332002 := n2_; have HO_332003 := n3_; have HO341 := n4_; have HO344 := n5_; have BK321 := n6_; have BK331 := n7_; have BK346 := n8_; have HB := n9_; clear n0_ n1_ n2_ n3_ n4_ n5_ n6_ n7_ n8_ n9_; (try clear hb); (try clear hb2); (try clear hk); (try clear hi)))
         go_meet
         case rel => exact ⟨_, (true), eT, H', ⟨by have := HJ4.out; first | omega | exact Nat.le_refl _⟩, ⟨rQ HO_322002⟩, ⟨rQ HO_322003⟩, ⟨rQ HO_332002⟩, ⟨rQ HO_332003⟩, ⟨by (with_reducible repeat (first | apply rA | apply rN | apply rD)); exact rM HO341.out (fun _ hk => ⟨hk.1.2, hk.2⟩)⟩, ⟨by (with_reducible repeat (first | apply rA | apply rN | apply rD)); exact rM HO344.out (fun _ hk => ⟨hk.1.2, hk.2⟩)⟩, ⟨kQ BK321⟩, ⟨kQ BK331⟩, ⟨kQ BK346⟩, ⟨by repeat (first | (with_reducible first | exact HB.out | apply bA | apply bN | apply bD | refine bS ?_ GE321.out | refine bS ?_ GE331.out | refine bS ?_ GE346.out) | exact HB.out)⟩⟩
       case rest =>
        clear HC38
        try clear c1
        try clear c2
        try clear c2b0
        try clear c2b1
        try clear p2
        try clear c3
        try clear c4
        try clear c5
        try clear c6
        try clear c13
        try clear c14
        try clear c15
        try clear c16
        try clear c17
        try clear c18
        try clear c19
        try clear c23
        try clear c27
        try clear c30
        try clear c30b0
        try clear c31
        try clear c36
        try clear c36b0
        try clear c36b1
        try clear c39
        try clear c46
        try clear c47
        try clear c52
        try clear c53
        try clear c54
        try clear c56
        try clear c59
        try clear c60
        try clear c62
        try clear hcz14_0
        try clear hcz14_1
        try clear hcz14_2
        try clear hcz14_3
        try clear hcz20_0
        try clear hcz20_1
        try clear hcz20_2
        try clear hcz20_3
        try clear hcz21_0
        try clear hcz21_1
        try clear hcz21_2
        try clear hcz21_3
        try clear hcz24_0
        try clear hcz24_1
        try clear hcz24_2
        try clear hcz24_3
        try clear hcz25_0
        try clear hcz25_1
        try clear hcz25_2
        try clear hcz25_3
        try clear hcz32_0
        try clear hcz32_1
        try clear hcz32_2
        try clear hcz32_3
        try clear hcz34_0
        try clear hcz34_1
        try clear hcz34_2
        try clear hcz34_3
        try clear hcz40_0
        try clear hcz40_1
        try clear hcz40_2
        try clear hcz40_3
        try clear hcz42_0
        try clear hcz42_1
        try clear hcz42_2
        try clear hcz42_3
        try clear hcz48_0
        try clear hcz48_1
        try clear hcz48_2
        try clear hcz48_3
        try clear hcz55_0
        try clear hcz55_1
        try clear hcz55_2
        try clear hcz55_3
        try clear hcz57_0
        try clear hcz57_1
        try clear hcz57_2
        try clear hcz57_3
        try clear hcz61_0
        try clear hcz61_1
        try clear hcz61_2
        try clear hcz61_3
        try clear hcz63_0
        try clear hcz63_1
        try clear hcz63_2
        try clear hcz63_3
        try clear hcz8_0
        try clear hcz8_1
        try clear hcz8_2
        try clear hcz8_3
        try clear hfz14_0
        try clear hfz14_1
        try clear hfz14_2
        try clear hfz14_3
        try clear hfz20_0
        try clear hfz20_1
        try clear hfz20_2
        try clear hfz20_3
        try clear hfz21_0
        try clear hfz21_1
        try clear hfz21_2
        try clear hfz21_3
        try clear hfz24_0
        try clear hfz24_1
        try clear hfz24_2
        try clear hfz24_3
        try clear hfz25_0
        try clear hfz25_1
        try clear hfz25_2
        try clear hfz25_3
        try clear hfz32_0
        try clear hfz32_1
        try clear hfz32_2
        try clear hfz32_3
        try clear hfz34_0
        try clear hfz34_1
        try clear hfz34_2
        try clear hfz34_3
        try clear hfz40_0
        try clear hfz40_1
        try clear hfz40_2
        try clear hfz40_3
        try clear hfz42_0
        try clear hfz42_1
        try clear hfz42_2
        try clear hfz42_3
        try clear hfz48_0
        try clear hfz48_1
        try clear hfz48_2
        try clear hfz48_3
        try clear hfz55_0
        try clear hfz55_1
        try clear hfz55_2
        try clear hfz55_3
        try clear hfz57_0
        try clear hfz57_1
        try clear hfz57_2
        try clear hfz57_3
        try clear hfz61_0
        try clear hfz61_1
        try clear hfz61_2
        try clear hfz61_3
        try clear hfz63_0
        try clear hfz63_1
        try clear hfz63_2
        try clear hfz63_3
        try clear hfz8_0
        try clear hfz8_1
        try clear hfz8_2
        try clear hfz8_3
        try clear p2
        obtain ⟨kq, x57_37, rfl, HA, HJ37, HO_322002, HO_322003, HO_332002, HO_332003, HO_347002, HO_347003, BK321, BK331, BK346, HB⟩ := hcut
        have hl332002_37 := (Kd.R_reads' HO_332002.out).1
        rw [hl332002_37] at HO_332002
        (try simp only [hl332002_37])
        (try simp only [hl332002_37] at BK321)
        (try simp only [hl332002_37] at BK331)
        (try simp only [hl332002_37] at BK346)
        (try simp only [hl332002_37] at HO_322002)
        (try simp only [hl332002_37] at HO_322003)
        (try simp only [hl332002_37] at HO_332003)
        (try simp only [hl332002_37] at HO_347002)
        (try simp only [hl332002_37] at HO_347003)
        have hl332003_37 := (Kd.R_reads' HO_332003.out).1
        rw [hl332003_37] at HO_332003
        (try simp only [hl332003_37])
        (try simp only [hl332003_37] at BK321)
        (try simp only [hl332003_37] at BK331)
        (try simp only [hl332003_37] at BK346)
        (try simp only [hl332003_37] at HO_322002)
        (try simp only [hl332003_37] at HO_322003)
        (try simp only [hl332003_37] at HO_332002)
        (try simp only [hl332003_37] at HO_347002)
        (try simp only [hl332003_37] at HO_347003)
        cases kq with
        | zero => exact absurd HA.out (by simp [laws_FnExactReadGrammar.j1])
        | succ kj37 =>
         have H := HA.out
         clear HA
         simp only [laws_FnExactReadGrammar.j1] at H
         by_cases c65 : x57_37 = true
         ·subst c65
          have H1 : (some false) = some r := by rw [if_pos rfl] at H; exact H
          clear H
          have H := H1
          clear H1
          obtain rfl := Option.some.inj H
          go_wp2
          go_ret
          exact ⟨by first | rfl | (simp [errW_none, errW_some] <;> rfl) | (simp [*, errW_none, errW_some] <;> rfl), by repeat (first | (with_reducible first | exact HB.out | apply bA | apply bN | apply bD | refine bS ?_ GE321.out | refine bS ?_ GE331.out | refine bS ?_ GE346.out) | exact HB.out)⟩
         ·replace c65 := Bool.eq_false_iff.mpr c65
          subst c65
          have H1 : ((laws_heldGrammar.f kj37 t322 t323 t334 t335 1).bind fun t348 => (if t348 < 0 then (some false) else (if t348 = t333 then (some true) else (some false)))) = some r := by rw [if_neg (show ¬ (false = true) by decide)] at H; exact H
          clear H
          have H := H1
          clear H1
          replace H := Option.bind_eq_some_iff.mp H
          obtain ⟨t348, A660, H⟩ := H
          replace H : (if t348 < 0 then (some false) else (if t348 = t333 then (some true) else (some false))) = some r := H
          have A66 := Aside0.mk A660
          clear A660
          by_cases c67 : t348 < 0
          ·rw [if_pos c67] at H
           have c67b0 : decide (t348 < 0) = true := decide_eq_true c67
           clear c67
           obtain rfl := Option.some.inj H
           have hnb68 := NB331_321.out
           have hnc68 := NB321_331.out
           have hnb69 := NB331_346.out
           have hnc69 := NB346_331.out
           obtain ⟨hcz70_0, hcz70_1, hcz70_2, hcz70_3⟩ := cZ4 BK331.out
           obtain ⟨hfz70_0, hfz70_1, hfz70_2, hfz70_3⟩ := fZ4 BK331.out
           go_wp2_with (first | ((with_reducible refine gC (f := 17) rfl ?_); refine goesL_ (some 60) rfl rfl Tryd.func17 (by kernel_rfl) rfl #[.agg #[.int .i64 t322, .int .i64 t323, .slice Ao15 t334.length co15, .slice Ao16 t335.length co16], .int .i64 1] rfl lQ ?_; (with_reducible refine (laws_heldGrammar.calls kj37 t322 t323 _ _ t334 _ _ t335 1 t348 _ ?side1 ?side2 ?side3 ?side4 A66.out).mono ?_); (case side1 => exact cP (Kd.R_reads' HO_332002.out).2.2); (case side2 => exact (Kd.R_reads' HO_332002.out).2.1); (case side3 => exact cP (Kd.R_reads' HO_332003.out).2.2); (case side4 => exact (Kd.R_reads' HO_332003.out).2.1); rintro e w71 ⟨rfl, hb⟩; refine ⟨_, rfl, ?_⟩; have n0_ := Aside0.mk (rB (rQ HO_322002) hb); have n1_ := Aside0.mk (rB (rQ HO_322003) hb); have n2_ := Aside0.mk (rB (rQ HO_332002) hb); have n3_ := Aside0.mk (rB (rQ HO_332003) hb); have n4_ := Aside0.mk (rB (rQ HO_347002) hb); have n5_ := Aside0.mk (rB (rQ HO_347003) hb); have n6_ := Aside0.mk (kB (kQ BK321) hb); have n7_ := Aside0.mk (kB (kQ BK331) hb); have n8_ := Aside0.mk (kB (kQ BK346) hb); have n9_ := Aside0.mk (bP (by repeat (first | (with_reducible first | exact HB.out | apply bA | apply bN | apply bD | refine bS ?_ GE321.out | refine bS ?_ GE331.out | refine bS ?_ GE346.out) | exact HB.out)) hb); clear HO_322002; clear HO_322003; clear HO_332002; clear HO_332003; clear HO_347002; clear HO_347003; clear BK321; clear BK331; clear BK346; clear HB; have HO_322002 := n0_; have HO_322003 := n1_; have HO_332002 := n2_; have HO_332003 := n3_; have HO_347002 := n4_; have HO_347003 := n5_; have BK321 := n6_; have BK331 := n7_; have BK346 := n8_; have HB := n9_; clear n0_ n1_ n2_ n3_ n4_ n5_ n6_ n7_ n8_ n9_; (try clear hb); (try clear hb2); (try clear hk); (try clear hi)))
           go_ret
           exact ⟨by first | rfl | (simp [errW_none, errW_some] <;> rfl) | (simp [*, errW_none, errW_some] <;> rfl), by repeat (first | (with_reducible first | exact HB.out | apply bA | apply bN | apply bD | refine bS ?_ GE321.out | refine bS ?_ GE331.out | refine bS ?_ GE346.out) | exact HB.out)⟩
          ·rw [if_neg c67] at H
           have c67b0 : decide (t348 < 0) = false := decide_eq_false c67
           clear c67
           by_cases c72 : t348 = t333
           ·rw [if_pos c72] at H
            have c72b0 : (t348 == t333) = true := beq_iff_eq.mpr c72
            have c72b1 : (t348 != t333) = false := bne_eq_false_iff_eq.mpr c72
            clear c72
            obtain rfl := Option.some.inj H
            have hnb73 := NB331_321.out
            have hnc73 := NB321_331.out
            have hnb74 := NB331_346.out
            have hnc74 := NB346_331.out
            obtain ⟨hcz75_0, hcz75_1, hcz75_2, hcz75_3⟩ := cZ4 BK331.out
            obtain ⟨hfz75_0, hfz75_1, hfz75_2, hfz75_3⟩ := fZ4 BK331.out
            go_wp2_with (first | ((with_reducible refine gC (f := 17) rfl ?_); refine goesL_ (some 60) rfl rfl Tryd.func17 (by kernel_rfl) rfl #[.agg #[.int .i64 t322, .int .i64 t323, .slice Ao15 t334.length co15, .slice Ao16 t335.length co16], .int .i64 1] rfl lQ ?_; (with_reducible refine (laws_heldGrammar.calls kj37 t322 t323 _ _ t334 _ _ t335 1 t348 _ ?side1 ?side2 ?side3 ?side4 A66.out).mono ?_); (case side1 => exact cP (Kd.R_reads' HO_332002.out).2.2); (case side2 => exact (Kd.R_reads' HO_332002.out).2.1); (case side3 => exact cP (Kd.R_reads' HO_332003.out).2.2); (case side4 => exact (Kd.R_reads' HO_332003.out).2.1); rintro e w76 ⟨rfl, hb⟩; refine ⟨_, rfl, ?_⟩; have n0_ := Aside0.mk (rB (rQ HO_322002) hb); have n1_ := Aside0.mk (rB (rQ HO_322003) hb); have n2_ := Aside0.mk (rB (rQ HO_332002) hb); have n3_ := Aside0.mk (rB (rQ HO_332003) hb); have n4_ := Aside0.mk (rB (rQ HO_347002) hb); have n5_ := Aside0.mk (rB (rQ HO_347003) hb); have n6_ := Aside0.mk (kB (kQ BK321) hb); have n7_ := Aside0.mk (kB (kQ BK331) hb); have n8_ := Aside0.mk (kB (kQ BK346) hb); have n9_ := Aside0.mk (bP (by repeat (first | (with_reducible first | exact HB.out | apply bA | apply bN | apply bD | refine bS ?_ GE321.out | refine bS ?_ GE331.out | refine bS ?_ GE346.out) | exact HB.out)) hb); clear HO_322002; clear HO_322003; clear HO_332002; clear HO_332003; clear HO_347002; clear HO_347003; clear BK321; clear BK331; clear BK346; clear HB; have HO_322002 := n0_; have HO_322003 := n1_; have HO_332002 := n2_; have HO_332003 := n3_; have HO_347002 := n4_; have HO_347003 := n5_; have BK321 := n6_; have BK331 := n7_; have BK346 := n8_; have HB := n9_; clear n0_ n1_ n2_ n3_ n4_ n5_ n6_ n7_ n8_ n9_; (try clear hb); (try clear hb2); (try clear hk); (try clear hi)))
            go_ret
            exact ⟨by first | rfl | (simp [errW_none, errW_some] <;> rfl) | (simp [*, errW_none, errW_some] <;> rfl), by repeat (first | (with_reducible first | exact HB.out | apply bA | apply bN | apply bD | refine bS ?_ GE321.out | refine bS ?_ GE331.out | refine bS ?_ GE346.out) | exact HB.out)⟩
           ·rw [if_neg c72] at H
            have c72b0 : (t348 == t333) = false := beq_eq_false_iff_ne.mpr c72
            have c72b1 : (t348 != t333) = true := bne_iff_ne.mpr c72
            obtain rfl := Option.some.inj H
            have hnb77 := NB331_321.out
            have hnc77 := NB321_331.out
            have hnb78 := NB331_346.out
            have hnc78 := NB346_331.out
            obtain ⟨hcz79_0, hcz79_1, hcz79_2, hcz79_3⟩ := cZ4 BK331.out
            obtain ⟨hfz79_0, hfz79_1, hfz79_2, hfz79_3⟩ := fZ4 BK331.out
            go_wp2_with (first | ((with_reducible refine gC (f := 17) rfl ?_); refine goesL_ (some 60) rfl rfl Tryd.func17 (by kernel_rfl) rfl #[.agg #[.int .i64 t322, .int .i64 t323, .slice Ao15 t334.length co15, .slice Ao16 t335.length co16], .int .i64 1] rfl lQ ?_; (with_reducible refine (laws_heldGrammar.calls kj37 t322 t323 _ _ t334 _ _ t335 1 t348 _ ?side1 ?side2 ?side3 ?side4 A66.out).mono ?_); (case side1 => exact cP (Kd.R_reads' HO_332002.out).2.2); (case side2 => exact (Kd.R_reads' HO_332002.out).2.1); (case side3 => exact cP (Kd.R_reads' HO_332003.out).2.2); (case side4 => exact (Kd.R_reads' HO_332003.out).2.1); rintro e w80 ⟨rfl, hb⟩; refine ⟨_, rfl, ?_⟩; have n0_ := Aside0.mk (rB (rQ HO_322002) hb); have n1_ := Aside0.mk (rB (rQ HO_322003) hb); have n2_ := Aside0.mk (rB (rQ HO_332002) hb); have n3_ := Aside0.mk (rB (rQ HO_332003) hb); have n4_ := Aside0.mk (rB (rQ HO_347002) hb); have n5_ := Aside0.mk (rB (rQ HO_347003) hb); have n6_ := Aside0.mk (kB (kQ BK321) hb); have n7_ := Aside0.mk (kB (kQ BK331) hb); have n8_ := Aside0.mk (kB (kQ BK346) hb); have n9_ := Aside0.mk (bP (by repeat (first | (with_reducible first | exact HB.out | apply bA | apply bN | apply bD | refine bS ?_ GE321.out | refine bS ?_ GE331.out | refine bS ?_ GE346.out) | exact HB.out)) hb); clear HO_322002; clear HO_322003; clear HO_332002; clear HO_332003; clear HO_347002; clear HO_347003; clear BK321; clear BK331; clear BK346; clear HB; have HO_322002 := n0_; have HO_322003 := n1_; have HO_332002 := n2_; have HO_332003 := n3_; have HO_347002 := n4_; have HO_347003 := n5_; have BK321 := n6_; have BK331 := n7_; have BK346 := n8_; have HB := n9_; clear n0_ n1_ n2_ n3_ n4_ n5_ n6_ n7_ n8_ n9_; (try clear hb); (try clear hb2); (try clear hk); (try clear hi)))
            go_ret
            exact ⟨by first | rfl | (simp [errW_none, errW_some] <;> rfl) | (simp [*, errW_none, errW_some] <;> rfl), by repeat (first | (with_reducible first | exact HB.out | apply bA | apply bN | apply bD | refine bS ?_ GE321.out | refine bS ?_ GE331.out | refine bS ?_ GE346.out) | exact HB.out)⟩
      ·rw [if_neg c36] at H
       have c36b0 : (t336 == t333) = false := beq_eq_false_iff_ne.mpr c36
       have c36b1 : (t336 != t333) = true := bne_iff_ne.mpr c36
       obtain rfl := Option.some.inj H
       have hnb81 := NB331_321.out
       have hnc81 := NB321_331.out
       obtain ⟨hcz82_0, hcz82_1, hcz82_2, hcz82_3⟩ := cZ4 BK331.out
       obtain ⟨hfz82_0, hfz82_1, hfz82_2, hfz82_3⟩ := fZ4 BK331.out
       go_wp2_with (first | ((with_reducible refine gC (f := 16) rfl ?_); refine goesL_ (some 35) rfl rfl Tryd.func16 (by kernel_rfl) rfl #[.agg #[.int .i64 t322, .int .i64 t323, .slice Ao15 t324.length co15, .slice Ao16 t327.length co16], .int .i64 1] rfl lQ ?_; (with_reducible refine (laws_markGrammar.calls kj4 t322 t323 (fun k_ => some k_ = (.slice Ao15 t324.length co15 : Value).ownBlock) (.slice Ao15 t324.length co15) t324 (fun k_ => some k_ = (.slice Ao16 t327.length co16 : Value).ownBlock) (.slice Ao16 t327.length co16) t327 1 t333 t334 t335 w _ ?side1 ?side2 ?side3 A28.out).mono ?_); (case side1 => repeat (first | (with_reducible first | exact HB.out | apply bA | apply bN | apply bD | refine bS ?_ GE321.out | refine bS ?_ GE331.out) | exact HB.out)); (case side2 => exact Kd.R_tight rfl HO_332002.out); (case side3 => exact Kd.R_tight rfl HO_332003.out); rintro e w83 ⟨rfl, hy0, hy1, hb, hkp⟩; refine ⟨_, rfl, ?_⟩; have n0_ := Aside0.mk (rM (ok' := fun k_ => some k_ ≠ (.slice Ao15 t324.length co15 : Value).ownBlock) (Kd.R_keptB ((Kd.R_apart' HO_322002.out (Kd.R_typed HO_332003.out) (by decide))) hkp (fun k_ hk_ hs_ => Or.elim hs_ (fun e_ => (hk_.1) e_) (fun e_ => (hk_.2) e_))) (fun k_ hk_ => hk_.1.1)); have n1_ := Aside0.mk (rM (ok' := fun k_ => some k_ ≠ (.slice Ao16 t327.length co16 : Value).ownBlock) (Kd.R_keptB ((Kd.R_apart' HO_322003.out (Kd.R_typed HO_332002.out) (by decide))) hkp (fun k_ hk_ hs_ => Or.elim hs_ (fun e_ => (hk_.2) e_) (fun e_ => (hk_.1) e_))) (fun k_ hk_ => hk_.1.1)); have n2_ := Aside0.mk (Kd.R_reok rfl hy0 (fun k_ e_ => HO_332002.out.1 k_ e_)); have n3_ := Aside0.mk (Kd.R_reok rfl hy1 (fun k_ e_ => HO_332003.out.1 k_ e_)); have n4_ := Aside0.mk (blk_kept (kQ BK321) hkp (fun hs_ => Or.elim hs_ (fun e_ => (fun e_ => (Kd.R_ne HO_332002.out BK321.out (by decide)) e_) e_) (fun e_ => (fun e_ => (Kd.R_ne HO_332003.out BK321.out (by decide)) e_) e_))); have n5_ := Aside0.mk (blk_kept (kQ BK331) hkp (fun hs_ => Or.elim hs_ (fun e_ => (fun e_ => (Kd.R_ne HO_332002.out BK331.out (by decide)) e_) e_) (fun e_ => (fun e_ => (Kd.R_ne HO_332003.out BK331.out (by decide)) e_) e_))); have n6_ := Aside0.mk (hb); clear HO_322002; clear HO_322003; clear HO_332002; clear HO_332003; clear BK321; clear BK331; clear HB; have HO_322002 := n0_; have HO_322003 := n1_; have HO_332002 := n2_; have HO_332003 := n3_; have BK321 := n4_; have BK331 := n5_; have HB := n6_; clear n0_ n1_ n2_ n3_ n4_ n5_ n6_; (try clear hb); (try clear hkp); (try clear hy0); (try clear hy1); obtain ⟨hcz84_0, hcz84_1, hcz84_2, hcz84_3⟩ := cZ4 BK331.out; obtain ⟨hfz84_0, hfz84_1, hfz84_2, hfz84_3⟩ := fZ4 BK331.out) | ((with_reducible refine gC (f := 17) rfl ?_); refine goesL_ (some 38) rfl rfl Tryd.func17 (by kernel_rfl) rfl #[.agg #[.int .i64 t322, .int .i64 t323, .slice Ao15 t334.length co15, .slice Ao16 t335.length co16], .int .i64 1] rfl (by (try simp only [List.map_toArray, List.map_cons, List.map_nil]); first | done | (rw [show t334.length = t324.length from (Kd.R_reads' HO_332002.out).1.symm, show t335.length = t327.length from (Kd.R_reads' HO_332003.out).1.symm] <;> rfl) | rfl | (simp only [List.length_drop, List.length_take]; rfl)) ?_; (with_reducible refine (laws_heldGrammar.calls kj4 t322 t323 _ _ t334 _ _ t335 1 t336 _ ?side1 ?side2 ?side3 ?side4 A29.out).mono ?_); (case side1 => exact cP (Kd.R_reads' HO_332002.out).2.2); (case side2 => rw [show t334.length = t324.length from (Kd.R_reads' HO_332002.out).1.symm]; exact (Kd.R_reads' HO_332002.out).2.1); (case side3 => exact cP (Kd.R_reads' HO_332003.out).2.2); (case side4 => rw [show t335.length = t327.length from (Kd.R_reads' HO_332003.out).1.symm]; exact (Kd.R_reads' HO_332003.out).2.1); rintro e w85 ⟨rfl, hb⟩; refine ⟨_, rfl, ?_⟩; have n0_ := Aside0.mk (rB (rQ HO_322002) hb); have n1_ := Aside0.mk (rB (rQ HO_322003) hb); have n2_ := Aside0.mk (rB (rQ HO_332002) hb); have n3_ := Aside0.mk (rB (rQ HO_332003) hb); have n4_ := Aside0.mk (kB (kQ BK321) hb); have n5_ := Aside0.mk (kB (kQ BK331) hb); have n6_ := Aside0.mk (bP (by repeat (first | (with_reducible first | exact HB.out | apply bA | apply bN | apply bD | refine bS ?_ GE321.out | refine bS ?_ GE331.out) | exact HB.out)) hb); clear HO_322002; clear HO_322003; clear HO_332002; clear HO_332003; clear BK321; clear BK331; clear HB; have HO_322002 := n0_; have HO_322003 := n1_; have HO_332002 := n2_; have HO_332003 := n3_; have BK321 := n4_; have BK331 := n5_; have HB := n6_; clear n0_ n1_ n2_ n3_ n4_ n5_ n6_; (try clear hb); (try clear hb2); (try clear hk); (try clear hi)))
       go_ret
       exact ⟨by first | rfl | (simp [errW_none, errW_some] <;> rfl) | (simp [*, errW_none, errW_some] <;> rfl), by repeat (first | (with_reducible first | exact HB.out | apply bA | apply bN | apply bD | refine bS ?_ GE321.out | refine bS ?_ GE331.out) | exact HB.out)⟩

/-- THE ONE PURE STATEMENT of laws_FnExactReadGrammar. -/
def laws_FnExactReadGrammar.Pure : Prop := ∀ (a0 : ByteArray), a0.size ≤ maxLen → ∃ k, laws_FnExactReadGrammar.f k a0 = some true

end Go.Proofs.YtlmeijlandogaaaDoor.R
-- shrunk
-- tight
-- tight2
-- tight3
