/- What functions of the given program compute, as plain Lean functions, and that the code comes to just that; by a program of this session over the kit's print. No condition. -/
import Derived.Test.YtlmeijlandogaaaDoorTight
import Derived.Test.YtlmeijlandogaaaDoorRx0
import Derived.Test.YtlmeijlandogaaaDoorRx5
namespace Go.Proofs.YtlmeijlandogaaaDoor.R
open Go.RowKit Go.Proofs.YtlmeijlandogaaaDoorW.PrintWords Go.Proofs.YtlmeijlandogaaaDoorW.PrintLast Go.Proofs.YtlmeijlandogaaaDoorW.PrintMore
open Go.Proofs.YtlmeijlandogaaaDoorW.PrintWords renaming below_alloc → bA, pw_below_drewN → bN, below_drew1 → bD, below_set → bS, blk_drewN → kN, blk_drew → kD, blk_alloc → kA, blk_below → kB, below_size → bZ, below_step → bP, blk_far → kF, blk_lt → kL, gate_callee → gC, box_event → bE, blk_cell → kC
open Go.Proofs.YtlmeijlandogaaaDoorW.PrintLast renaming take_ofW → tW, one_of → oO, i64_w → iW, i32_w → jW
open Go.Proofs.YtlmeijlandogaaaDoorW.PrintWords.Kd renaming R_alloc → rA, R_drewN → rN, R_drew → rD, C_alloc → cA, C_drewN → cN, C_drew → cD, R_lower → rL, R_below → rB, R_elder' → rE, R_new' → rW, R_lt → rT, R_mono → rM
open List renaming setIfInBounds_toArray → sI, set_cons_zero → sZ, set_cons_succ → sS
open Bool renaming true → T, false → F
attribute [local go_sem] max2_int min2_int max_two min_two max_three min_three max_four min_four   -- for this text's walks alone
set_option linter.unusedVariables false
set_option linter.unusedSimpArgs false

/-! ### spec_ReadGrammar: function 13 -/
mutual
def spec_ReadGrammar.j0 : Nat → List ByteArray → List Int → List Int → Bool → Option (Int × Int × List Int × (List (S63)) × Bool)
 | 0, _, _, _, _ => none
 | k + 1, x4, x5, x7, x43 => if x43 = true then (some (0, 0, ([] : List Int), ([] : List (S63)), false)) else (if 0 < (x5.length : Int) then (if 1 < (x5.length : Int) then (spec_ReadGrammar.l0 k x4 2 (rd x5 0) (rd x5 1) x7 ([] : List (S63))) else (none)) else (none))
def spec_ReadGrammar.l0 : Nat → List ByteArray → Int → Int → Int → List Int → List (S63) → Option (Int × Int × List Int × (List (S63)) × Bool)
 | 0, _, _, _, _, _, _ => none
 | k + 1, x4, x10, x163000, x163001, x163002, x163003 => if x10 < (x4.length : Int) then (if 0 ≤ x10 then ((spec_ReadList.f k (rdOf ByteArray.empty x4 x10)).bind fun bt164 => (if bt164.2 = true then (if (bt164.1.length : Int) = 3 then (if 0 < (bt164.1.length : Int) then (if 1 < (bt164.1.length : Int) then (if 2 < (bt164.1.length : Int) then (if x163003.length < 5864062014805 then (spec_ReadGrammar.l0 k x4 (wrap64 (x10 + 1)) x163000 x163001 x163002 (x163003 ++ [(⟨rd bt164.1 0, rd bt164.1 1, rd bt164.1 2⟩ : S63)])) else (none)) else (none)) else (none)) else (none)) else (some (0, 0, ([] : List Int), ([] : List (S63)), false))) else (some (0, 0, ([] : List Int), ([] : List (S63)), false)))) else (none)) else ((spec_l07Ok.f k x163000 x163001 x163002 x163003).bind fun t174 => (if t174 = true then (some (x163000, x163001, x163002, x163003, true)) else (some (0, 0, ([] : List Int), ([] : List (S63)), false))))
end
def spec_ReadGrammar.f (k : Nat) (a0 : ByteArray) : Option (Int × Int × List Int × (List (S63)) × Bool) := (spec_l01Split.f k a0 59).bind fun t147 => (if (t147.length : Int) < 2 then (some (0, 0, ([] : List Int), ([] : List (S63)), false)) else (if 0 < (t147.length : Int) then ((spec_ReadList.f k (rdOf ByteArray.empty t147 0)).bind fun bt151 => (if 1 < (t147.length : Int) then ((spec_ReadList.f k (rdOf ByteArray.empty t147 1)).bind fun bt156 => (if bt151.2 = true then (if bt156.2 = true then (spec_ReadGrammar.j0 k t147 bt151.1 bt156.1 ((bt151.1.length : Int) != 2)) else (spec_ReadGrammar.j0 k t147 bt151.1 bt156.1 true)) else (spec_ReadGrammar.j0 k t147 bt151.1 bt156.1 true))) else (none))) else (none)))
theorem spec_ReadGrammar.mono_l : ∀ k, (∀ y0 y1 y2 y3, LeO (spec_ReadGrammar.j0 k y0 y1 y2 y3) (spec_ReadGrammar.j0 (k + 1) y0 y1 y2 y3)) ∧ (∀ y0 y1 y2 y3 y4 y5, LeO (spec_ReadGrammar.l0 k y0 y1 y2 y3 y4 y5) (spec_ReadGrammar.l0 (k + 1) y0 y1 y2 y3 y4 y5))
 | 0 => ⟨fun _ _ _ _ r h => by simp [spec_ReadGrammar.j0] at h, fun _ _ _ _ _ _ r h => by simp [spec_ReadGrammar.l0] at h⟩
 | k + 1 => by
  obtain ⟨ih0, ih1⟩ := spec_ReadGrammar.mono_l k
  refine ⟨?_, ?_⟩
  ·intro y0 y1 y2 y3
   unfold spec_ReadGrammar.j0
   repeat' first
   | (with_reducible exact ih0 _ _ _ _)
   | (with_reducible exact ih1 _ _ _ _ _ _)
   | (with_reducible exact spec_ReadList.mono _ _)
   | (with_reducible exact spec_l01Split.mono _ _ _)
   | (with_reducible exact spec_l07Ok.mono _ _ _ _ _)
   | (with_reducible exact LeO.refl _)
   | (with_reducible exact LeO.none _)
   | (with_reducible refine LeO.ite ?_ ?_)
   | (with_reducible refine LeO.bind ?_ (fun _ => ?_))
   | exact ih0 _ _ _ _
   | exact ih1 _ _ _ _ _ _
   | exact spec_ReadList.mono _ _
   | exact spec_l01Split.mono _ _ _
   | exact spec_l07Ok.mono _ _ _ _ _
   | exact LeO.none _
   | refine LeO.ite ?_ ?_
   | refine LeO.bind ?_ (fun _ => ?_)
  ·intro y0 y1 y2 y3 y4 y5
   unfold spec_ReadGrammar.l0
   repeat' first
   | (with_reducible exact ih0 _ _ _ _)
   | (with_reducible exact ih1 _ _ _ _ _ _)
   | (with_reducible exact spec_ReadList.mono _ _)
   | (with_reducible exact spec_l01Split.mono _ _ _)
   | (with_reducible exact spec_l07Ok.mono _ _ _ _ _)
   | (with_reducible exact LeO.refl _)
   | (with_reducible exact LeO.none _)
   | (with_reducible refine LeO.ite ?_ ?_)
   | (with_reducible refine LeO.bind ?_ (fun _ => ?_))
   | exact ih0 _ _ _ _
   | exact ih1 _ _ _ _ _ _
   | exact spec_ReadList.mono _ _
   | exact spec_l01Split.mono _ _ _
   | exact spec_l07Ok.mono _ _ _ _ _
   | exact LeO.none _
   | refine LeO.ite ?_ ?_
   | refine LeO.bind ?_ (fun _ => ?_)
theorem spec_ReadGrammar.mono : ∀ a0 k, LeO (spec_ReadGrammar.f k a0) (spec_ReadGrammar.f (k + 1) a0) := by
 intro a0 k
 obtain ⟨ih0, ih1⟩ := spec_ReadGrammar.mono_l k
 unfold spec_ReadGrammar.f
 repeat' first
   | (with_reducible exact ih0 _ _ _ _)
   | (with_reducible exact ih1 _ _ _ _ _ _)
   | (with_reducible exact spec_ReadList.mono _ _)
   | (with_reducible exact spec_l01Split.mono _ _ _)
   | (with_reducible exact spec_l07Ok.mono _ _ _ _ _)
   | (with_reducible exact LeO.refl _)
   | (with_reducible exact LeO.none _)
   | (with_reducible refine LeO.ite ?_ ?_)
   | (with_reducible refine LeO.bind ?_ (fun _ => ?_))
   | exact ih0 _ _ _ _
   | exact ih1 _ _ _ _ _ _
   | exact spec_ReadList.mono _ _
   | exact spec_l01Split.mono _ _ _
   | exact spec_l07Ok.mono _ _ _ _ _
   | exact LeO.none _
   | refine LeO.ite ?_ ?_
   | refine LeO.bind ?_ (fun _ => ?_)
def spec_ReadGrammar.T8 : Bool × List (List Nat × List Nat) := (true, [([], []), ([0], [0]), ([1], [1]), ([], []), ([3], [3]), ([4], [4]), ([], []), ([2, 5, 6], [2, 5, 6]), ([], []), ([8, 7, 0, 1, 2, 3, 4, 5, 6, 7, 8], [7, 8])])
def spec_ReadGrammar.B8 : List Nat := [0, 1, 3, 0, 8, 24, 0, 127, 0, 511]
theorem spec_ReadGrammar.tab8 : rtab .any (opsOf Tryd.f13 8) = spec_ReadGrammar.T8 := by kernel_rfl
theorem spec_ReadGrammar.bits8 : waitsOk spec_ReadGrammar.T8.2 spec_ReadGrammar.B8 = true := by kernel_rfl
def spec_ReadGrammar.T15 : Bool × List (List Nat × List Nat) := (true, [([], []), ([0], [0]), ([], []), ([2], [2]), ([3], [3]), ([], []), ([5], [5]), ([6], [6]), ([], []), ([8], [8]), ([9], [9]), ([4, 7, 10], [4, 7, 10]), ([11], [11]), ([1, 12], [1, 12]), ([0, 1, 2, 3, 4, 5, 6, 7, 8, 9, 10, 11, 12, 13], []), ([14, 13, 13, 0, 1, 2, 3, 4, 5, 6, 7, 8, 9, 10, 11, 12, 13], [13, 14])])
def spec_ReadGrammar.B15 : List Nat := [0, 1, 0, 4, 12, 0, 32, 96, 0, 256, 768, 2044, 4092, 8191, 16383, 32767]
theorem spec_ReadGrammar.tab15 : rtab .any (opsOf Tryd.f13 15) = spec_ReadGrammar.T15 := by kernel_rfl
theorem spec_ReadGrammar.bits15 : waitsOk spec_ReadGrammar.T15.2 spec_ReadGrammar.B15 = true := by kernel_rfl
set_option maxHeartbeats 8000000 in
set_option maxRecDepth 100000 in
theorem spec_ReadGrammar.calls (k : Nat) (a0 : ByteArray) (r1 : Int) (r2 : Int) (r3 : List Int) (r4 : List (S63)) (r5 : Bool) (w : World) (h : spec_ReadGrammar.f k a0 = some (r1, r2, r3, r4, r5)) :
  Calls Tryd.prog 13 #[.string a0] w fun e w' => ∃ v2_ v3_ : Value, e = .returned (.tuple #[.agg #[.int .i64 r1, .int .i64 r2, v2_, v3_], .bool r5]) ∧ Kd.R (Kd.int .i64) 2 w' w.heap.size (fun _ => True) v2_ r3 ∧ Kd.R k63 63 w' w.heap.size (fun _ => True) v3_ r4 ∧ Below w.heap.size w w' := by
 have hu31 := Tryd.underlying31
 have hu63 := Tryd.underlying63
 have HB := Aside0.mk (Below.refl w.heap.size w)
 have H : ((spec_l01Split.f k a0 59).bind fun t147 => (if (t147.length : Int) < 2 then (some (0, 0, ([] : List Int), ([] : List (S63)), false)) else (if 0 < (t147.length : Int) then ((spec_ReadList.f k (rdOf ByteArray.empty t147 0)).bind fun bt151 => (if 1 < (t147.length : Int) then ((spec_ReadList.f k (rdOf ByteArray.empty t147 1)).bind fun bt156 => (if bt151.2 = true then (if bt156.2 = true then (spec_ReadGrammar.j0 k t147 bt151.1 bt156.1 ((bt151.1.length : Int) != 2)) else (spec_ReadGrammar.j0 k t147 bt151.1 bt156.1 true)) else (spec_ReadGrammar.j0 k t147 bt151.1 bt156.1 true))) else (none))) else (none)))) = some (r1, r2, r3, r4, r5) := h
 clear h
 replace H := Option.bind_eq_some_iff.mp H
 obtain ⟨t147, A20, H⟩ := H
 replace H : (if (t147.length : Int) < 2 then (some (0, 0, ([] : List Int), ([] : List (S63)), false)) else (if 0 < (t147.length : Int) then ((spec_ReadList.f k (rdOf ByteArray.empty t147 0)).bind fun bt151 => (if 1 < (t147.length : Int) then ((spec_ReadList.f k (rdOf ByteArray.empty t147 1)).bind fun bt156 => (if bt151.2 = true then (if bt156.2 = true then (spec_ReadGrammar.j0 k t147 bt151.1 bt156.1 ((bt151.1.length : Int) != 2)) else (spec_ReadGrammar.j0 k t147 bt151.1 bt156.1 true)) else (spec_ReadGrammar.j0 k t147 bt151.1 bt156.1 true))) else (none))) else (none))) = some (r1, r2, r3, r4, r5) := H
 have A2 := Aside0.mk A20
 clear A20
 by_cases c3 : (t147.length : Int) < 2
 ·rw [if_pos c3] at H
  have c3b0 : decide ((t147.length : Int) < 2) = true := decide_eq_true c3
  have c3b1 : decide (t147.length < 2) = true := decide_eq_true (by omega)
  clear c3
  simp only [Option.some.injEq, Prod.mk.injEq] at H
  obtain ⟨rfl, rfl, rfl, rfl, rfl⟩ := H
  go_enter Tryd.func13, Tryd.ntmps13
  go_wp2_with (first | ((with_reducible refine gate_dst (N := 2) rfl ?_); (try (refine gate_guard (by rfl) ?_; dsimp only)); refine bE ?hg (N := 2) ?hd (cs := #[.int .i64 0, .int .i64 0, .slice none 0 0, .slice none 0 0]) (t := 31) ?hr ?_; (case hd => rfl); (case hg => rfl); (case hr => first | (go_simp; done) | (go_simp; rfl)); intro gb146 hg w4 hbox hb; have z_ := bX hb (hQ HB); have n0_ := Aside0.mk (bP z_ hb); have n1_ := Aside0.mk (hbox); have n2_ := Aside0.mk ((by rw [hg]; exact (bZ z_) : w.heap.size ≤ gb146)); have n3_ := Aside0.mk ((by rw [hg]; exact (bZ z_) : w.heap.size ≤ gb146)); clear HB; have HB := n0_; have BK146 := n1_; have GW146 := n2_; have GE146 := n3_; clear z_ n0_ n1_ n2_ n3_; clear hb hbox hg) | ((with_reducible refine gC (f := 37) rfl ?_); refine goesL_ (some 14) rfl rfl Tryd.func37 (by kernel_rfl) rfl #[.string a0, .int .u8 59] rfl lQ ?_; (with_reducible refine (spec_l01Split.calls k a0 59 t147 _ A2.out).mono ?_); rintro e w5 ⟨v148, rfl, ho0, hb⟩; refine ⟨_, rfl, ?_⟩; have z_ := bX hb (by repeat (first | (with_reducible first | exact HB.out | apply bA | apply bN | apply bD | refine bS ?_ GE146.out) | exact HB.out)); have n0_ := Aside0.mk (rL ho0 (bZ z_)); have n1_ := Aside0.mk (kB (kQ BK146) hb); have n2_ := Aside0.mk (bP z_ hb); clear BK146; clear HB; have HO149 := n0_; have BK146 := n1_; have HB := n2_; clear z_ n0_ n1_ n2_; (try clear hb); (try clear hb2); (try clear hk); (try clear hi); (try clear ho0); obtain ⟨Ao6, co6, eo6⟩ := Kd.R_slice HO149.out; subst eo6; obtain ⟨hcz7_0, hcz7_1, hcz7_2, hcz7_3⟩ := cZ4 BK146.out; obtain ⟨hfz7_0, hfz7_1, hfz7_2, hfz7_3⟩ := fZ4 BK146.out))
  refine bodyPost_ret (results_ct rfl _ _ gb146 31 #[.int .i64 0, .int .i64 0, .slice none 0 0, .slice none 0 0] (0, 0) _ rfl (by (with_reducible repeat (first | refine kN ?_ _ | refine kD ?_ | refine kA ?_ _)); refine blk_put (cs := #[.int .i64 0, .int .i64 0, .slice none 0 0, .slice none 0 0]) ?_ 3 _ rfl; (with_reducible repeat (first | refine kN ?_ _ | refine kD ?_ | refine kA ?_ _)); refine blk_put (cs := #[.int .i64 0, .int .i64 0, .slice none 0 0, .slice none 0 0]) ?_ 2 _ rfl; (with_reducible repeat (first | refine kN ?_ _ | refine kD ?_ | refine kA ?_ _)); refine blk_put (cs := #[.int .i64 0, .int .i64 0, .slice none 0 0, .slice none 0 0]) ?_ 1 _ rfl; (with_reducible repeat (first | refine kN ?_ _ | refine kD ?_ | refine kA ?_ _)); refine blk_put (cs := #[.int .i64 0, .int .i64 0, .slice none 0 0, .slice none 0 0]) ?_ 0 _ rfl; (with_reducible repeat (first | refine kN ?_ _ | refine kD ?_ | refine kA ?_ _)); exact BK146.out) Tryd.underlying31 rfl (by kernel_rfl)) rfl ?_
  exact ⟨_, _, by first | rfl | (simp [errW_none, errW_some] <;> rfl) | (simp [*, errW_none, errW_some] <;> rfl), by first | exact Kd.R_nil _ _ _ _ _ | exact Kd.N_nil _ _ _ _ _ | exact Kd.V_nil _ _ _ _ _ | exact Kd.Q_nil _ _ _ _ _ | exact Kd.S_nil _ _ _ _ _, by first | exact Kd.R_nil _ _ _ _ _ | exact Kd.N_nil _ _ _ _ _ | exact Kd.V_nil _ _ _ _ _ | exact Kd.Q_nil _ _ _ _ _ | exact Kd.S_nil _ _ _ _ _, by repeat (first | (with_reducible first | exact HB.out | apply bA | apply bN | apply bD | refine bS ?_ GE146.out) | exact HB.out)⟩
 ·rw [if_neg c3] at H
  have c3b0 : decide ((t147.length : Int) < 2) = false := decide_eq_false c3
  have c3b1 : decide (t147.length < 2) = false := decide_eq_false (by omega)
  clear c3
  by_cases c8 : 0 < (t147.length : Int)
  ·rw [if_pos c8] at H
   have c8b0 : decide (0 < (t147.length : Int)) = true := decide_eq_true c8
   have c8b1 : decide (0 < t147.length) = true := decide_eq_true (by omega)
   clear c8
   replace H := Option.bind_eq_some_iff.mp H
   obtain ⟨⟨t151, t152⟩, A90, H⟩ := H
   replace H : (if 1 < (t147.length : Int) then ((spec_ReadList.f k (rdOf ByteArray.empty t147 1)).bind fun bt156 => (if t152 = true then (if bt156.2 = true then (spec_ReadGrammar.j0 k t147 t151 bt156.1 ((t151.length : Int) != 2)) else (spec_ReadGrammar.j0 k t147 t151 bt156.1 true)) else (spec_ReadGrammar.j0 k t147 t151 bt156.1 true))) else (none)) = some (r1, r2, r3, r4, r5) := H
   have A9 := Aside0.mk A90
   clear A90
   by_cases c10 : 1 < (t147.length : Int)
   ·rw [if_pos c10] at H
    have c10b0 : decide (1 < (t147.length : Int)) = true := decide_eq_true c10
    have c10b1 : decide (1 < t147.length) = true := decide_eq_true (by omega)
    clear c10
    replace H := Option.bind_eq_some_iff.mp H
    obtain ⟨⟨t156, t157⟩, A110, H⟩ := H
    replace H : (if t152 = true then (if t157 = true then (spec_ReadGrammar.j0 k t147 t151 t156 ((t151.length : Int) != 2)) else (spec_ReadGrammar.j0 k t147 t151 t156 true)) else (spec_ReadGrammar.j0 k t147 t151 t156 true)) = some (r1, r2, r3, r4, r5) := H
    have A11 := Aside0.mk A110
    clear A110
    have HC12 := Aside0.mk H
    clear H
    go_enter Tryd.func13, Tryd.ntmps13
    go_upto_region 6 with (first | ((with_reducible refine gate_dst (N := 2) rfl ?_); (try (refine gate_guard (by rfl) ?_; dsimp only)); refine bE ?hg (N := 2) ?hd (cs := #[.int .i64 0, .int .i64 0, .slice none 0 0, .slice none 0 0]) (t := 31) ?hr ?_; (case hd => rfl); (case hg => rfl); (case hr => first | (go_simp; done) | (go_simp; rfl)); intro gb146 hg w13 hbox hb; have z_ := bX hb (hQ HB); have n0_ := Aside0.mk (bP z_ hb); have n1_ := Aside0.mk (hbox); have n2_ := Aside0.mk ((by rw [hg]; exact (bZ z_) : w.heap.size ≤ gb146)); have n3_ := Aside0.mk ((by rw [hg]; exact (bZ z_) : w.heap.size ≤ gb146)); clear HB; have HB := n0_; have BK146 := n1_; have GW146 := n2_; have GE146 := n3_; clear z_ n0_ n1_ n2_ n3_; clear hb hbox hg) | ((with_reducible refine gC (f := 37) rfl ?_); refine goesL_ (some 14) rfl rfl Tryd.func37 (by kernel_rfl) rfl #[.string a0, .int .u8 59] rfl lQ ?_; (with_reducible refine (spec_l01Split.calls k a0 59 t147 _ A2.out).mono ?_); rintro e w14 ⟨v148, rfl, ho0, hb⟩; refine ⟨_, rfl, ?_⟩; have z_ := bX hb (by repeat (first | (with_reducible first | exact HB.out | apply bA | apply bN | apply bD | refine bS ?_ GE146.out) | exact HB.out)); have n0_ := Aside0.mk (rL ho0 (bZ z_)); have n1_ := Aside0.mk (kB (kQ BK146) hb); have n2_ := Aside0.mk (bP z_ hb); clear BK146; clear HB; have HO149 := n0_; have BK146 := n1_; have HB := n2_; clear z_ n0_ n1_ n2_; (try clear hb); (try clear hb2); (try clear hk); (try clear hi); (try clear ho0); obtain ⟨Ao15, co15, eo15⟩ := Kd.R_slice HO149.out; subst eo15; have p150 : 0 ≤ (0 : Int) := (by omega); have q150 : 0 < (t147.length : Int) := oT; obtain ⟨ad150, e150, hx150_0⟩ := Kd.at_string (Kd.R_reads' HO149.out).2.2 0 p150 q150; cases e150; have qi150 : (0 < t147.length) = True := eq_true (by omega); (try rw [t00] at hx150_0); (try rw [Addr.add_zero'] at hx150_0); replace p150 := eq_true p150; replace q150 := eq_true q150) | ((with_reducible refine gC (f := 38) rfl ?_); refine goesL_ (some 23) rfl rfl Tryd.func38 (by kernel_rfl) rfl #[.string (rdOf ByteArray.empty t147 0)] rfl lQ ?_; (with_reducible refine (spec_ReadList.calls k (rdOf ByteArray.empty t147 0) t151 t152 _ A9.out).mono ?_); rintro e w16 ⟨v153, rfl, ho0, hb⟩; refine ⟨_, rfl, ?_⟩; have z_ := bX hb (by repeat (first | (with_reducible first | exact HB.out | apply bA | apply bN | apply bD | refine bS ?_ GE146.out) | exact HB.out)); have n0_ := Aside0.mk (rB (rQ HO149) hb); have n1_ := Aside0.mk (rL ho0 (bZ z_)); have n2_ := Aside0.mk (kB (kQ BK146) hb); have n3_ := Aside0.mk (bP z_ hb); clear HO149; clear BK146; clear HB; have HO149 := n0_; have HO154 := n1_; have BK146 := n2_; have HB := n3_; clear z_ n0_ n1_ n2_ n3_; (try clear hb); (try clear hb2); (try clear hk); (try clear hi); (try clear ho0); have p155 : 0 ≤ (1 : Int) := (by omega); have q155 : 1 < (t147.length : Int) := oT; obtain ⟨ad155, e155, hx155_0⟩ := Kd.at_string (Kd.R_reads' HO149.out).2.2 1 p155 q155; obtain rfl : ad150 = ad155 := (by injection e155); (try simp only [show (1 : Int).toNat = 1 from rfl, Nat.reduceMul, Nat.reduceEqDiff, Go.Addr.add, ↓reduceIte] at hx155_0); have qi155 : (1 < t147.length) = True := eq_true (by omega); (try rw [show ((1 : Int)).toNat = 1 from rfl] at hx155_0); replace p155 := eq_true p155; replace q155 := eq_true q155) | ((with_reducible refine gC (f := 38) rfl ?_); refine goesL_ (some 30) rfl rfl Tryd.func38 (by kernel_rfl) rfl #[.string (rdOf ByteArray.empty t147 1)] rfl lQ ?_; (with_reducible refine (spec_ReadList.calls k (rdOf ByteArray.empty t147 1) t156 t157 _ A11.out).mono ?_); rintro e w17 ⟨v158, rfl, ho0, hb⟩; refine ⟨_, rfl, ?_⟩; have z_ := bX hb (by repeat (first | (with_reducible first | exact HB.out | apply bA | apply bN | apply bD | refine bS ?_ GE146.out) | exact HB.out)); have n0_ := Aside0.mk (rB (rQ HO149) hb); have n1_ := Aside0.mk (rE (rQ HO154) (Kd.R_base ho0) hb); have n2_ := Aside0.mk (rL (rW ho0 (rT (rQ HO154))) (bZ z_)); have n3_ := Aside0.mk (kB (kQ BK146) hb); have n4_ := Aside0.mk (bP z_ hb); clear HO149; clear HO154; clear BK146; clear HB; have HO149 := n0_; have HO154 := n1_; have HO159 := n2_; have BK146 := n3_; have HB := n4_; clear z_ n0_ n1_ n2_ n3_ n4_; (try clear hb); (try clear hb2); (try clear hk); (try clear hi); (try clear ho0)))
    (try simp only [Act.put, sI, sZ, sS])
    go_cut [43] (fun v43 wc => ∃ (kq : Nat) (x43_11 : Bool), v43 = .bool x43_11 ∧ Aside0 (spec_ReadGrammar.j0 kq t147 t151 t156 x43_11 = some (r1, r2, r3, r4, r5)) ∧ Aside0 (kq ≤ k) ∧ Aside0 (Kd.R Kd.string 9 wc w.heap.size (fun _ => True) (.slice (some ad150) t147.length co15) t147) ∧ Aside0 (Kd.R (Kd.int .i64) 2 wc w.heap.size (fun k_ => some k_ ≠ (v158 : Value).ownBlock) v153 t151) ∧ Aside0 (Kd.R (Kd.int .i64) 2 wc w.heap.size (fun k_ => some k_ ≠ (v153 : Value).ownBlock) v158 t156) ∧ Aside0 (wc.heap[gb146]? = some (.cells #[.int .i64 0, .int .i64 0, (.slice none 0 0), (.slice none 0 0)] 31 (0, 0))) ∧ Aside0 (Below w.heap.size w wc))
    case first =>
     have H := HC12.out
     clear HC12
     by_cases c18 : t152 = true
     ·subst c18
      have H1 : (if t157 = true then (spec_ReadGrammar.j0 k t147 t151 t156 ((t151.length : Int) != 2)) else (spec_ReadGrammar.j0 k t147 t151 t156 true)) = some (r1, r2, r3, r4, r5) := by rw [if_pos rfl] at H; exact H
      clear H
      have H := H1
      clear H1
      by_cases c19 : t157 = true
      ·subst c19
       have H1 : (spec_ReadGrammar.j0 k t147 t151 t156 ((t151.length : Int) != 2)) = some (r1, r2, r3, r4, r5) := by rw [if_pos rfl] at H; exact H
       clear H
       have H := H1
       clear H1
       have H' := Aside0.mk H
       clear H
       obtain ⟨Ao20, co20, eo20⟩ := Kd.R_slice HO154.out
       subst eo20
       go_wp2
       go_meet
       case rel => exact ⟨_, (((t151.length : Int) != 2)), eT, H', ⟨by first | omega | exact Nat.le_refl _⟩, ⟨rQ HO149⟩, ⟨by (with_reducible repeat (first | apply rA | apply rN | apply rD)); exact rM HO154.out (fun _ hk => hk.2)⟩, ⟨by (with_reducible repeat (first | apply rA | apply rN | apply rD)); exact rM HO159.out (fun _ hk => hk.2)⟩, ⟨kQ BK146⟩, ⟨by repeat (first | (with_reducible first | exact HB.out | apply bA | apply bN | apply bD | refine bS ?_ GE146.out) | exact HB.out)⟩⟩
      ·replace c19 := Bool.eq_false_iff.mpr c19
       subst c19
       have H1 : (spec_ReadGrammar.j0 k t147 t151 t156 true) = some (r1, r2, r3, r4, r5) := by rw [if_neg (show ¬ (false = true) by decide)] at H; exact H
       clear H
       have H := H1
       clear H1
       have H' := Aside0.mk H
       clear H
       go_wp2
       go_meet
       case rel => exact ⟨_, (true), eT, H', ⟨by first | omega | exact Nat.le_refl _⟩, ⟨rQ HO149⟩, ⟨by (with_reducible repeat (first | apply rA | apply rN | apply rD)); exact rM HO154.out (fun _ hk => hk.2)⟩, ⟨by (with_reducible repeat (first | apply rA | apply rN | apply rD)); exact rM HO159.out (fun _ hk => hk.2)⟩, ⟨kQ BK146⟩, ⟨by repeat (first | (with_reducible first | exact HB.out | apply bA | apply bN | apply bD | refine bS ?_ GE146.out) | exact HB.out)⟩⟩
     ·replace c18 := Bool.eq_false_iff.mpr c18
      subst c18
      have H1 : (spec_ReadGrammar.j0 k t147 t151 t156 true) = some (r1, r2, r3, r4, r5) := by rw [if_neg (show ¬ (false = true) by decide)] at H; exact H
      clear H
      have H := H1
      clear H1
      have H' := Aside0.mk H
      clear H
      go_wp2
      go_meet
      case rel => exact ⟨_, (true), eT, H', ⟨by first | omega | exact Nat.le_refl _⟩, ⟨rQ HO149⟩, ⟨by (with_reducible repeat (first | apply rA | apply rN | apply rD)); exact rM HO154.out (fun _ hk => hk.2)⟩, ⟨by (with_reducible repeat (first | apply rA | apply rN | apply rD)); exact rM HO159.out (fun _ hk => hk.2)⟩, ⟨kQ BK146⟩, ⟨by repeat (first | (with_reducible first | exact HB.out | apply bA | apply bN | apply bD | refine bS ?_ GE146.out) | exact HB.out)⟩⟩
    case rest =>
     clear HC12
     try clear c1
     try clear p1
     try clear q1
     try clear hx1
     try clear qi1
     try clear p2
     try clear c3
     try clear c3b0
     try clear c3b1
     try clear c8
     try clear c8b0
     try clear c8b1
     try clear c10
     try clear c10b0
     try clear c10b1
     try clear c13
     try clear p15
     try clear q15
     try clear hx15
     try clear qi15
     try clear c18
     try clear c19
     try clear hcz7_0
     try clear hcz7_1
     try clear hcz7_2
     try clear hcz7_3
     try clear hfz7_0
     try clear hfz7_1
     try clear hfz7_2
     try clear hfz7_3
     try clear hx150_0
     try clear hx155_0
     try clear p150
     try clear p155
     try clear q150
     try clear q155
     obtain ⟨kq, x43_11, rfl, HA, HJ11, HO_4, HO_5, HO_7, BK146, HB⟩ := hcut
     cases kq with
     | zero => exact absurd HA.out (by simp [spec_ReadGrammar.j0])
     | succ kj11 =>
      have H := HA.out
      clear HA
      simp only [spec_ReadGrammar.j0] at H
      by_cases c21 : x43_11 = true
      ·subst c21
       have H1 : (some (0, 0, ([] : List Int), ([] : List (S63)), false)) = some (r1, r2, r3, r4, r5) := by rw [if_pos rfl] at H; exact H
       clear H
       have H := H1
       clear H1
       simp only [Option.some.injEq, Prod.mk.injEq] at H
       obtain ⟨rfl, rfl, rfl, rfl, rfl⟩ := H
       obtain ⟨hcz22_0, hcz22_1, hcz22_2, hcz22_3⟩ := cZ4 BK146.out
       obtain ⟨hfz22_0, hfz22_1, hfz22_2, hfz22_3⟩ := fZ4 BK146.out
       go_wp2
       refine bodyPost_ret (results_ct rfl _ _ gb146 31 #[.int .i64 0, .int .i64 0, .slice none 0 0, .slice none 0 0] (0, 0) _ rfl (by (with_reducible repeat (first | refine kN ?_ _ | refine kD ?_ | refine kA ?_ _)); refine blk_put (cs := #[.int .i64 0, .int .i64 0, .slice none 0 0, .slice none 0 0]) ?_ 3 _ rfl; (with_reducible repeat (first | refine kN ?_ _ | refine kD ?_ | refine kA ?_ _)); refine blk_put (cs := #[.int .i64 0, .int .i64 0, .slice none 0 0, .slice none 0 0]) ?_ 2 _ rfl; (with_reducible repeat (first | refine kN ?_ _ | refine kD ?_ | refine kA ?_ _)); refine blk_put (cs := #[.int .i64 0, .int .i64 0, .slice none 0 0, .slice none 0 0]) ?_ 1 _ rfl; (with_reducible repeat (first | refine kN ?_ _ | refine kD ?_ | refine kA ?_ _)); refine blk_put (cs := #[.int .i64 0, .int .i64 0, .slice none 0 0, .slice none 0 0]) ?_ 0 _ rfl; (with_reducible repeat (first | refine kN ?_ _ | refine kD ?_ | refine kA ?_ _)); exact BK146.out) Tryd.underlying31 rfl (by kernel_rfl)) rfl ?_
       exact ⟨_, _, by first | rfl | (simp [errW_none, errW_some] <;> rfl) | (simp [*, errW_none, errW_some] <;> rfl), by first | exact Kd.R_nil _ _ _ _ _ | exact Kd.N_nil _ _ _ _ _ | exact Kd.V_nil _ _ _ _ _ | exact Kd.Q_nil _ _ _ _ _ | exact Kd.S_nil _ _ _ _ _, by first | exact Kd.R_nil _ _ _ _ _ | exact Kd.N_nil _ _ _ _ _ | exact Kd.V_nil _ _ _ _ _ | exact Kd.Q_nil _ _ _ _ _ | exact Kd.S_nil _ _ _ _ _, by repeat (first | (with_reducible first | exact HB.out | apply bA | apply bN | apply bD | refine bS ?_ GE146.out) | exact HB.out)⟩
      ·replace c21 := Bool.eq_false_iff.mpr c21
       subst c21
       have H1 : (if 0 < (t151.length : Int) then (if 1 < (t151.length : Int) then (spec_ReadGrammar.l0 kj11 t147 2 (rd t151 0) (rd t151 1) t156 ([] : List (S63))) else (none)) else (none)) = some (r1, r2, r3, r4, r5) := by rw [if_neg (show ¬ (false = true) by decide)] at H; exact H
       clear H
       have H := H1
       clear H1
       by_cases c23 : 0 < (t151.length : Int)
       ·rw [if_pos c23] at H
        have c23b0 : decide (0 < (t151.length : Int)) = true := decide_eq_true c23
        have c23b1 : decide (0 < t151.length) = true := decide_eq_true (by omega)
        clear c23
        by_cases c24 : 1 < (t151.length : Int)
        ·rw [if_pos c24] at H
         have c24b0 : decide (1 < (t151.length : Int)) = true := decide_eq_true c24
         have c24b1 : decide (1 < t151.length) = true := decide_eq_true (by omega)
         clear c24
         have H' := Aside0.mk H
         clear H
         try go_wp2
         have n0_ := Aside0.mk (rD HO_4.out)
         have n1_ := Aside0.mk (rD HO_5.out)
         have n2_ := Aside0.mk (rD HO_7.out)
         have n3_ := Aside0.mk (kD BK146.out)
         have n4_ := Aside0.mk (bD HB.out)
         clear HO_4
         clear HO_5
         clear HO_7
         clear BK146
         clear HB
         have HO_4 := n0_
         have HO_5 := n1_
         have HO_7 := n2_
         have BK146 := n3_
         have HB := n4_
         clear n0_ n1_ n2_ n3_ n4_
         obtain ⟨Ao26, co26, eo26⟩ := Kd.R_slice HO_5.out
         (first | subst eo26 | (injection eo26 with f1_ f2_ f3_; have f4_ := f1_.symm; have f5_ := f3_.symm; clear f1_ f2_ f3_; subst f4_; subst f5_))
         have p160 : 0 ≤ (0 : Int) := (by omega)
         have q160 : 0 < (t151.length : Int) := oT
         obtain ⟨ad160, e160, hx160_0⟩ := Kd.at_int (Kd.R_reads' HO_5.out).2.2 0 p160 q160
         cases e160
         have qi160 : (0 < t151.length) = True := eq_true (by omega)
         (try rw [t00] at hx160_0)
         (try rw [Addr.add_zero'] at hx160_0)
         replace p160 := eq_true p160
         replace q160 := eq_true q160
         have p161 : 0 ≤ (1 : Int) := (by omega)
         have q161 : 1 < (t151.length : Int) := oT
         obtain ⟨ad161, e161, hx161_0⟩ := Kd.at_int (Kd.R_reads' HO_5.out).2.2 1 p161 q161
         obtain rfl : ad160 = ad161 := (by injection e161)
         (try simp only [show (1 : Int).toNat = 1 from rfl, Nat.reduceMul, Nat.reduceEqDiff, Go.Addr.add, ↓reduceIte] at hx161_0)
         have qi161 : (1 < t151.length) = True := eq_true (by omega)
         (try rw [show ((1 : Int)).toNat = 1 from rfl] at hx161_0)
         replace p161 := eq_true p161
         replace q161 := eq_true q161
         obtain ⟨Ao27, co27, eo27⟩ := Kd.R_slice HO_7.out
         (first | subst eo27 | (injection eo27 with f1_ f2_ f3_; have f4_ := f1_.symm; have f5_ := f3_.symm; clear f1_ f2_ f3_; subst f4_; subst f5_))
         refine start_ (n := 10) (S := fun w' => w'.cell? ad160 = some (.int .i64 (rd t151 0)) ∧ w'.cell? ⟨ad160.block, ad160.off + 1, none⟩ = some (.int .i64 (rd t151 1))) (ds := []) #[F,F,F,F,F,F,F,F,F,F] (by kernel_rfl) rfl rfl ⟨hx160_0, hx161_0⟩ (fun hHeld => ?_); refine with_tabW spec_ReadGrammar.tab8 spec_ReadGrammar.bits8 (fun HT_ HW_ => ?_)
         generalize wc.drew = w25 at HO_4 HO_5 HO_7 BK146 HB hx160_0 hx161_0 hHeld ⊢
         refine pure_ (i := 0) (N := some 45) (v := ?_) (a' := ?_) #[T,F,F,F,F,F,F,F,F,F] rfl rfl (any_of HT_.out (by kernel_rfl)) (fun _ _ _ h => h) (Or.inl ⟨by rfl, ?_⟩) ?_ ?_; rotate_left; (·intro w'; go_simp; with_reducible rfl); rotate_left; (·simp only [Act.put, sI, sZ, sS, iW, jW]; rfl)
         refine pure_ (i := 1) (N := some 46) (v := ?_) (a' := ?_) #[T,T,F,F,F,F,F,F,F,F] rfl rfl (any_of HT_.out (by kernel_rfl)) (fun _ _ _ h => h) (Or.inl ⟨by rfl, ?_⟩) ?_ ?_; rotate_left; (·intro w'; go_simp; with_reducible rfl); rotate_left; (·simp only [Act.put, sI, sZ, sS, iW, jW]; rfl)
         refine pure_ (i := 3) (N := some 48) (v := ?_) (a' := ?_) #[T,T,F,T,F,F,F,F,F,F] rfl rfl (any_of HT_.out (by kernel_rfl)) (fun _ _ _ h => h) (Or.inl ⟨by rfl, ?_⟩) ?_ ?_; rotate_left; (·intro w'; go_simp; with_reducible rfl); rotate_left; (·simp only [Act.put, sI, sZ, sS, iW, jW]; rfl)
         refine pure_ (i := 4) (N := some 49) (v := ?_) (a' := ?_) #[T,T,F,T,T,F,F,F,F,F] rfl rfl (any_of HT_.out (by kernel_rfl)) (fun _ _ _ h => h) (Or.inl ⟨by rfl, ?_⟩) ?_ ?_; rotate_left; (·intro w'; go_simp; with_reducible rfl); rotate_left; (·simp only [Act.put, sI, sZ, sS, iW, jW]; rfl)
         refine pure_ (i := 6) (N := some 51) (v := ?_) (a' := ?_) #[T,T,F,T,T,F,T,F,F,F] rfl rfl (any_of HT_.out (by kernel_rfl)) (fun _ _ _ h => h) (Or.inl ⟨by rfl, ?_⟩) ?_ ?_; rotate_left; (·intro w'; go_simp; with_reducible rfl); rotate_left; (·simp only [Act.put, sI, sZ, sS, iW, jW]; rfl)
         refine take_ (i := 2) (N := some 47) (v := ?_) (a' := ?_) #[T,T,T,T,T,F,T,F,F,F] rfl rfl (tW HT_.out HW_.out (by kernel_rfl)) (fun _ _ _ h => h) (Or.inl ⟨by rfl, ?_⟩) hHeld ?_ ?_; rotate_left; (·rintro w' ⟨s0, s1⟩; go_simp; with_reducible rfl); rotate_left; (·simp only [Act.put, sI, sZ, sS, iW, jW]; rfl)
         refine take_ (i := 5) (N := some 50) (v := ?_) (a' := ?_) #[T,T,T,T,T,T,T,F,F,F] rfl rfl (tW HT_.out HW_.out (by kernel_rfl)) (fun _ _ _ h => h) (Or.inl ⟨by rfl, ?_⟩) hHeld ?_ ?_; rotate_left; (·rintro w' ⟨s0, s1⟩; go_simp; with_reducible rfl); rotate_left; (·simp only [Act.put, sI, sZ, sS, iW, jW]; rfl)
         refine pure_ (i := 7) (N := some 52) (v := ?_) (a' := ?_) #[T,T,T,T,T,T,T,T,F,F] rfl rfl (any_of HT_.out (by kernel_rfl)) (fun _ _ _ h => h) (Or.inl ⟨by rfl, ?_⟩) ?_ ?_; rotate_left; (·intro w'; go_simp; with_reducible rfl); rotate_left; (·simp only [Act.put, sI, sZ, sS, iW, jW]; rfl)
         refine one_ (i := 8) (N := some 9) #[T,T,T,T,T,T,T,T,T,F] rfl rfl (oO HT_.out (by kernel_rfl)) (by decide) (fun K hK => ?_)
         refine box_step ?hg (N := 9) ?hd (cs := #[.int .i64 0, .int .i64 0, .slice none 0 0, .slice none 0 0]) (t := 31) ?hr ?_; (case hd => rfl); (case hg => rfl); (case hr => first | (go_simp; done) | (go_simp; rfl))
         intro gb162 hg w28 hbox hb
         have HS0_ := (hb.cell (World.block_lt_of_cell? _ _ (hHeld.1))).trans (hHeld.1)
         have HS1_ := (hb.cell (World.block_lt_of_cell? _ _ (hHeld.2))).trans (hHeld.2)
         have z_ := bX hb (by repeat (first | (with_reducible first | exact HB.out | apply bA | apply bN | apply bD | refine bS ?_ GE146.out) | exact HB.out))
         have n0_ := Aside0.mk (rB (rQ HO_4) hb)
         have n1_ := Aside0.mk (rB (rQ HO_5) hb)
         have n2_ := Aside0.mk (rB (rQ HO_7) hb)
         have n3_ := Aside0.mk (kB (kQ BK146) hb)
         have n4_ := Aside0.mk (bP z_ hb)
         have n5_ := Aside0.mk (hbox)
         have n6_ := Aside0.mk ((by rw [hg]; exact (bZ z_) : w.heap.size ≤ gb162))
         have n7_ := Aside0.mk ((by rw [hg]; exact (bZ z_) : w.heap.size ≤ gb162))
         have n8_ := Aside0.mk ((by rw [hg]; exact Nat.ne_of_lt (kL (kQ BK146)) : gb146 ≠ gb162))
         have n9_ := Aside0.mk ((by rw [hg]; exact Nat.ne_of_gt (kL (kQ BK146)) : gb162 ≠ gb146))
         clear HO_4
         clear HO_5
         clear HO_7
         clear BK146
         clear HB
         have HO_4 := n0_
         have HO_5 := n1_
         have HO_7 := n2_
         have BK146 := n3_
         have HB := n4_
         have BK162 := n5_
         have GW162 := n6_
         have GE162 := n7_
         have NB146_162 := n8_
         have NB162_146 := n9_
         clear z_ n0_ n1_ n2_ n3_ n4_ n5_ n6_ n7_ n8_ n9_
         clear hb hbox hg
         refine hK.out _ _ ⟨HS0_, HS1_⟩ (fun hHeld => ?_)
         clear hK K
         refine norm_ (a' := ?_) ?_ ?_
         rotate_left
         ·show Act.put _ (some 9) _ = _
          simp only [Act.put, sI, sZ, sS, iW, jW]
          rfl
         refine one_ (i := 9) (N := none) #[T,T,T,T,T,T,T,T,T,T] rfl rfl (oO HT_.out (by kernel_rfl)) (by decide) (fun K hK => ?_)
         have hs29 : w28.cell? ⟨gb162, 0, none⟩ = some (.int .i64 0) := (kC BK162.out 0).trans rfl
         have hfs29 := blk_frozen BK162.out 0
         have hns29_0 := NB146_162.out
         have hms29_0 := NB162_146.out
         have hs30 : w28.cell? ⟨gb162, 1, none⟩ = some (.int .i64 0) := (kC BK162.out 1).trans rfl
         have hfs30 := blk_frozen BK162.out 1
         have hns30_0 := NB146_162.out
         have hms30_0 := NB162_146.out
         have hs31 : w28.cell? ⟨gb162, 2, none⟩ = some (.slice none 0 0) := (kC BK162.out 2).trans rfl
         have hfs31 := blk_frozen BK162.out 2
         have hns31_0 := NB146_162.out
         have hms31_0 := NB162_146.out
         have hs32 : w28.cell? ⟨gb162, 3, none⟩ = some (.slice none 0 0) := (kC BK162.out 3).trans rfl
         have hfs32 := blk_frozen BK162.out 3
         have hns32_0 := NB146_162.out
         have hms32_0 := NB162_146.out
         refine skip_ (w1 := ?_) (by rfl) rfl ?_ ?_
         rotate_left
         ·go_simp
          rfl
         refine hK.out _ _ ⟨ (by refine (cell_far (p := ⟨gb162, _, none⟩) (by first | ((try rw [add_block]); (try dsimp only); exact Kd.own_blk (Kd.R_ne HO_5.out BK162.out (by decide))) | exact Kd.own_blk (Kd.R_ne HO_5.out BK162.out (by decide)) | (show (Addr.add _ _).block ≠ _; rw [add_block]; exact Kd.own_blk (Kd.R_ne HO_5.out BK162.out (by decide))) | (dsimp only; exact Kd.own_blk (Kd.R_ne HO_5.out BK162.out (by decide)))) _).trans ?_; refine (cell_far (p := ⟨gb162, _, none⟩) (by first | ((try rw [add_block]); (try dsimp only); exact Kd.own_blk (Kd.R_ne HO_5.out BK162.out (by decide))) | exact Kd.own_blk (Kd.R_ne HO_5.out BK162.out (by decide)) | (show (Addr.add _ _).block ≠ _; rw [add_block]; exact Kd.own_blk (Kd.R_ne HO_5.out BK162.out (by decide))) | (dsimp only; exact Kd.own_blk (Kd.R_ne HO_5.out BK162.out (by decide)))) _).trans ?_; refine (cell_far (p := ⟨gb162, _, none⟩) (by first | ((try rw [add_block]); (try dsimp only); exact Kd.own_blk (Kd.R_ne HO_5.out BK162.out (by decide))) | exact Kd.own_blk (Kd.R_ne HO_5.out BK162.out (by decide)) | (show (Addr.add _ _).block ≠ _; rw [add_block]; exact Kd.own_blk (Kd.R_ne HO_5.out BK162.out (by decide))) | (dsimp only; exact Kd.own_blk (Kd.R_ne HO_5.out BK162.out (by decide)))) _).trans ?_; refine (cell_far (p := ⟨gb162, _, none⟩) (by first | ((try rw [add_block]); (try dsimp only); exact Kd.own_blk (Kd.R_ne HO_5.out BK162.out (by decide))) | exact Kd.own_blk (Kd.R_ne HO_5.out BK162.out (by decide)) | (show (Addr.add _ _).block ≠ _; rw [add_block]; exact Kd.own_blk (Kd.R_ne HO_5.out BK162.out (by decide))) | (dsimp only; exact Kd.own_blk (Kd.R_ne HO_5.out BK162.out (by decide)))) _).trans ?_; exact hHeld.1), (by refine (cell_far (p := ⟨gb162, _, none⟩) (by first | ((try rw [add_block]); (try dsimp only); exact Kd.own_blk (Kd.R_ne HO_5.out BK162.out (by decide))) | exact Kd.own_blk (Kd.R_ne HO_5.out BK162.out (by decide)) | (show (Addr.add _ _).block ≠ _; rw [add_block]; exact Kd.own_blk (Kd.R_ne HO_5.out BK162.out (by decide))) | (dsimp only; exact Kd.own_blk (Kd.R_ne HO_5.out BK162.out (by decide)))) _).trans ?_; refine (cell_far (p := ⟨gb162, _, none⟩) (by first | ((try rw [add_block]); (try dsimp only); exact Kd.own_blk (Kd.R_ne HO_5.out BK162.out (by decide))) | exact Kd.own_blk (Kd.R_ne HO_5.out BK162.out (by decide)) | (show (Addr.add _ _).block ≠ _; rw [add_block]; exact Kd.own_blk (Kd.R_ne HO_5.out BK162.out (by decide))) | (dsimp only; exact Kd.own_blk (Kd.R_ne HO_5.out BK162.out (by decide)))) _).trans ?_; refine (cell_far (p := ⟨gb162, _, none⟩) (by first | ((try rw [add_block]); (try dsimp only); exact Kd.own_blk (Kd.R_ne HO_5.out BK162.out (by decide))) | exact Kd.own_blk (Kd.R_ne HO_5.out BK162.out (by decide)) | (show (Addr.add _ _).block ≠ _; rw [add_block]; exact Kd.own_blk (Kd.R_ne HO_5.out BK162.out (by decide))) | (dsimp only; exact Kd.own_blk (Kd.R_ne HO_5.out BK162.out (by decide)))) _).trans ?_; refine (cell_far (p := ⟨gb162, _, none⟩) (by first | ((try rw [add_block]); (try dsimp only); exact Kd.own_blk (Kd.R_ne HO_5.out BK162.out (by decide))) | exact Kd.own_blk (Kd.R_ne HO_5.out BK162.out (by decide)) | (show (Addr.add _ _).block ≠ _; rw [add_block]; exact Kd.own_blk (Kd.R_ne HO_5.out BK162.out (by decide))) | (dsimp only; exact Kd.own_blk (Kd.R_ne HO_5.out BK162.out (by decide)))) _).trans ?_; exact hHeld.2)⟩ (fun hHeld => ?_)
         clear hK K
         refine done_ (done_of HT_.out (by kernel_rfl)) ?_
         try go_wp2
         go_loopg [10] kj11 (fun kq v10 w' => ∃ (x10_2 : Int) (x147000_2 : Int) (x147001_2 : Int) (x163003_2 : List (S63)) (u163003 : Value), v10 = .int .i64 x10_2 ∧ Aside0 (spec_ReadGrammar.l0 kq t147 x10_2 (rd t151 0) (rd t151 1) t156 x163003_2 = some (r1, r2, r3, r4, r5)) ∧ Aside0 (kq ≤ kj11) ∧ Aside0 (Kd.R Kd.string 9 w' w.heap.size (fun _ => True) (.slice (some ad150) t147.length co15) t147) ∧ Aside0 (Kd.R (Kd.int .i64) 2 w' w.heap.size (fun _ => True) (.slice Ao27 t156.length co27) t156) ∧ Aside0 (Kd.R k63 63 w' w.heap.size (fun _ => True) u163003 x163003_2) ∧ Aside0 (w'.heap[gb146]? = some (.cells #[.int .i64 x147000_2, .int .i64 x147001_2, (.slice none 0 0), (.slice none 0 0)] 31 (0, 0))) ∧ Aside0 (w'.heap[gb162]? = some (.cells #[.int .i64 (rd t151 0), .int .i64 (rd t151 1), (.slice Ao27 t156.length co27), u163003] 31 (0, 0))) ∧ Aside0 (Below w.heap.size w w'))
         case atStart => exact ⟨(2), (0), (0), (([] : List (S63))), (.slice none 0 0), eT, H', ⟨Nat.le_refl _⟩, ⟨by (with_reducible repeat (first | apply rA | apply rN | apply rD)); exact rM (Kd.R_far (p := ⟨gb162, 3, none⟩) (Kd.R_far (p := ⟨gb162, 2, none⟩) (Kd.R_far (p := ⟨gb162, 1, none⟩) (Kd.R_far (p := ⟨gb162, 0, none⟩) (Kd.R_types HO_4.out BK162.out (by decide)) (fun _ hk => hk.2) (.int .i64 (rd t151 0))) (fun _ hk => hk.2) (.int .i64 (rd t151 1))) (fun _ hk => hk.2) (.slice Ao27 t156.length co27)) (fun _ hk => hk.2) (.slice none 0 0)) (fun _ hk => trivial)⟩, ⟨by (with_reducible repeat (first | apply rA | apply rN | apply rD)); exact rM (Kd.R_far (p := ⟨gb162, 3, none⟩) (Kd.R_far (p := ⟨gb162, 2, none⟩) (Kd.R_far (p := ⟨gb162, 1, none⟩) (Kd.R_far (p := ⟨gb162, 0, none⟩) (Kd.R_types HO_7.out BK162.out (by decide)) (fun _ hk => hk.2) (.int .i64 (rd t151 0))) (fun _ hk => hk.2) (.int .i64 (rd t151 1))) (fun _ hk => hk.2) (.slice Ao27 t156.length co27)) (fun _ hk => hk.2) (.slice none 0 0)) (fun _ hk => trivial)⟩, ⟨by first | exact Kd.R_nil _ _ _ _ _ | exact Kd.N_nil _ _ _ _ _ | exact Kd.V_nil _ _ _ _ _ | exact Kd.Q_nil _ _ _ _ _ | exact Kd.S_nil _ _ _ _ _⟩, ⟨by (with_reducible repeat (first | refine kN ?_ _ | refine kD ?_ | refine kA ?_ _)); refine kF ?_ NB146_162.out _; (with_reducible repeat (first | refine kN ?_ _ | refine kD ?_ | refine kA ?_ _)); refine kF ?_ NB146_162.out _; (with_reducible repeat (first | refine kN ?_ _ | refine kD ?_ | refine kA ?_ _)); refine kF ?_ NB146_162.out _; (with_reducible repeat (first | refine kN ?_ _ | refine kD ?_ | refine kA ?_ _)); refine kF ?_ NB146_162.out _; (with_reducible repeat (first | refine kN ?_ _ | refine kD ?_ | refine kA ?_ _)); exact BK146.out⟩, ⟨by (with_reducible repeat (first | refine kN ?_ _ | refine kD ?_ | refine kA ?_ _)); refine blk_put (cs := #[.int .i64 (rd t151 0), .int .i64 (rd t151 1), .slice Ao27 t156.length co27, .slice none 0 0]) ?_ 3 _ rfl; (with_reducible repeat (first | refine kN ?_ _ | refine kD ?_ | refine kA ?_ _)); refine blk_put (cs := #[.int .i64 (rd t151 0), .int .i64 (rd t151 1), .slice none 0 0, .slice none 0 0]) ?_ 2 _ rfl; (with_reducible repeat (first | refine kN ?_ _ | refine kD ?_ | refine kA ?_ _)); refine blk_put (cs := #[.int .i64 (rd t151 0), .int .i64 0, .slice none 0 0, .slice none 0 0]) ?_ 1 _ rfl; (with_reducible repeat (first | refine kN ?_ _ | refine kD ?_ | refine kA ?_ _)); refine blk_put (cs := #[.int .i64 0, .int .i64 0, .slice none 0 0, .slice none 0 0]) ?_ 0 _ rfl; (with_reducible repeat (first | refine kN ?_ _ | refine kD ?_ | refine kA ?_ _)); exact BK162.out⟩, ⟨by repeat (first | (with_reducible first | exact HB.out | apply bA | apply bN | apply bD | refine bS ?_ GE146.out | refine bS ?_ GE162.out) | exact HB.out)⟩⟩
         case round =>
          clear H'
          try clear c1
          try clear p1
          try clear q1
          try clear hx1
          try clear qi1
          try clear c2
          try clear p2
          try clear c3
          try clear c3b0
          try clear c3b1
          try clear c8
          try clear c8b0
          try clear c8b1
          try clear c10
          try clear c10b0
          try clear c10b1
          try clear c13
          try clear p15
          try clear q15
          try clear hx15
          try clear qi15
          try clear p16
          try clear q16
          try clear hx16
          try clear qi16
          try clear c18
          try clear c19
          try clear c21
          try clear c23
          try clear c23b0
          try clear c23b1
          try clear c24
          try clear c24b0
          try clear c24b1
          try clear hcz22_0
          try clear hcz22_1
          try clear hcz22_2
          try clear hcz22_3
          try clear hcz7_0
          try clear hcz7_1
          try clear hcz7_2
          try clear hcz7_3
          try clear hfz22_0
          try clear hfz22_1
          try clear hfz22_2
          try clear hfz22_3
          try clear hfz7_0
          try clear hfz7_1
          try clear hfz7_2
          try clear hfz7_3
          try clear hx150_0
          try clear hx155_0
          try clear hx160_0
          try clear hx161_0
          try clear p1
          try clear p15
          try clear p150
          try clear p155
          try clear p160
          try clear p161
          try clear p2
          try clear q1
          try clear q15
          try clear q150
          try clear q155
          try clear q160
          try clear q161
          obtain ⟨x10_2, x147000_2, x147001_2, x163003_2, u163003, rfl, HA, HK2, HO_4, HO_163002, HO_163003, BK146, BK162, HB⟩ := hrel
          cases gk with
          | zero => exact absurd HA.out (by simp [spec_ReadGrammar.l0])
          | succ k2 =>
           have H := HA.out
           clear HA
           simp only [spec_ReadGrammar.l0] at H
           by_cases c33 : x10_2 < (t147.length : Int)
           ·rw [if_pos c33] at H
            have c33b0 : decide (x10_2 < (t147.length : Int)) = true := decide_eq_true c33
            clear c33
            by_cases c34 : 0 ≤ x10_2
            ·rw [if_pos c34] at H
             have c34b0 : decide (0 ≤ x10_2) = true := decide_eq_true c34
             clear c34
             replace H := Option.bind_eq_some_iff.mp H
             obtain ⟨⟨t164, t165⟩, A350, H⟩ := H
             replace H : (if t165 = true then (if (t164.length : Int) = 3 then (if 0 < (t164.length : Int) then (if 1 < (t164.length : Int) then (if 2 < (t164.length : Int) then (if x163003_2.length < 5864062014805 then (spec_ReadGrammar.l0 k2 t147 (wrap64 (x10_2 + 1)) (rd t151 0) (rd t151 1) t156 (x163003_2 ++ [(⟨rd t164 0, rd t164 1, rd t164 2⟩ : S63)])) else (none)) else (none)) else (none)) else (none)) else (some (0, 0, ([] : List Int), ([] : List (S63)), false))) else (some (0, 0, ([] : List Int), ([] : List (S63)), false))) = some (r1, r2, r3, r4, r5) := H
             have A35 := Aside0.mk A350
             clear A350
             by_cases c36 : t165 = true
             ·subst c36
              have H1 : (if (t164.length : Int) = 3 then (if 0 < (t164.length : Int) then (if 1 < (t164.length : Int) then (if 2 < (t164.length : Int) then (if x163003_2.length < 5864062014805 then (spec_ReadGrammar.l0 k2 t147 (wrap64 (x10_2 + 1)) (rd t151 0) (rd t151 1) t156 (x163003_2 ++ [(⟨rd t164 0, rd t164 1, rd t164 2⟩ : S63)])) else (none)) else (none)) else (none)) else (none)) else (some (0, 0, ([] : List Int), ([] : List (S63)), false))) = some (r1, r2, r3, r4, r5) := by rw [if_pos rfl] at H; exact H
              clear H
              have H := H1
              clear H1
              by_cases c37 : (t164.length : Int) = 3
              ·rw [if_pos c37] at H
               have c37b0 : ((t164.length : Int) == 3) = true := beq_iff_eq.mpr c37
               have c37b1 : ((t164.length : Int) != 3) = false := bne_eq_false_iff_eq.mpr c37
               clear c37
               by_cases c38 : 0 < (t164.length : Int)
               ·rw [if_pos c38] at H
                have c38b0 : decide (0 < (t164.length : Int)) = true := decide_eq_true c38
                have c38b1 : decide (0 < t164.length) = true := decide_eq_true (by omega)
                clear c38
                by_cases c39 : 1 < (t164.length : Int)
                ·rw [if_pos c39] at H
                 have c39b0 : decide (1 < (t164.length : Int)) = true := decide_eq_true c39
                 have c39b1 : decide (1 < t164.length) = true := decide_eq_true (by omega)
                 clear c39
                 by_cases c40 : 2 < (t164.length : Int)
                 ·rw [if_pos c40] at H
                  have c40b0 : decide (2 < (t164.length : Int)) = true := decide_eq_true c40
                  have c40b1 : decide (2 < t164.length) = true := decide_eq_true (by omega)
                  clear c40
                  by_cases c41 : x163003_2.length < 5864062014805
                  ·rw [if_pos c41] at H
                   have LMc41 := Aside0.mk c41
                   clear c41
                   obtain ⟨y171, hy171⟩ : ∃ y_ : List (S63), y_ = (x163003_2 ++ [(⟨rd t164 0, rd t164 1, rd t164 2⟩ : S63)]) := ⟨_, rfl⟩
                   replace H : (spec_ReadGrammar.l0 k2 t147 (wrap64 (x10_2 + 1)) (rd t151 0) (rd t151 1) t156 y171) = some (r1, r2, r3, r4, r5) := by first | (rw [hy171]; with_reducible exact H) | (have H2_ := (Option.bind_some _ _).symm.trans H; rw [hy171]; with_reducible exact H2_) | (have H2_ := (Option.bind_some _ _).symm.trans H; with_reducible exact H2_) | with_reducible exact H | (rw [hy171]; exact H) | exact H
                   have Ny171 := Aside0.mk hy171
                   clear hy171
                   have H' := Aside0.mk H
                   clear H
                   have p163 : 0 ≤ (x10_2 : Int) := oT
                   have q163 : x10_2 < (t147.length : Int) := oT
                   obtain ⟨ad163, e163, hx163_0⟩ := Kd.at_string (Kd.R_reads' HO_4.out).2.2 x10_2 p163 q163
                   obtain rfl : ad150 = ad163 := (by injection e163)
                   replace p163 := eq_true p163
                   replace q163 := eq_true q163
                   try go_wp2_with (first | ((with_reducible refine gC (f := 38) rfl ?_); refine goesL_ (some 64) rfl rfl Tryd.func38 (by kernel_rfl) rfl #[.string (rdOf ByteArray.empty t147 x10_2)] rfl lQ ?_; (with_reducible refine (spec_ReadList.calls k2 (rdOf ByteArray.empty t147 x10_2) t164 true _ A35.out).mono ?_); rintro e w42 ⟨v166, rfl, ho0, hb⟩; refine ⟨_, rfl, ?_⟩; have z_ := bX hb (by repeat (first | (with_reducible first | exact HB.out | apply bA | apply bN | apply bD | refine bS ?_ GE146.out | refine bS ?_ GE162.out) | exact HB.out)); have n0_ := Aside0.mk (rB (rQ HO_4) hb); have n1_ := Aside0.mk (rE (rQ HO_163002) (Kd.R_base ho0) hb); have n2_ := Aside0.mk (rB (rQ HO_163003) hb); have n3_ := Aside0.mk (rL (rW ho0 (rT (rQ HO_163002))) (bZ z_)); have n4_ := Aside0.mk (kB (kQ BK146) hb); have n5_ := Aside0.mk (kB (kQ BK162) hb); have n6_ := Aside0.mk (bP z_ hb); clear HO_4; clear HO_163002; clear HO_163003; clear BK146; clear BK162; clear HB; have HO_4 := n0_; have HO_163002 := n1_; have HO_163003 := n2_; have HO167 := n3_; have BK146 := n4_; have BK162 := n5_; have HB := n6_; clear z_ n0_ n1_ n2_ n3_ n4_ n5_ n6_; (try clear hb); (try clear hb2); (try clear hk); (try clear hi); (try clear ho0); obtain ⟨Ao43, co43, eo43⟩ := Kd.R_slice HO167.out; subst eo43))
                   have n0_ := Aside0.mk (rD HO_4.out)
                   have n1_ := Aside0.mk (rD HO_163002.out)
                   have n2_ := Aside0.mk (rD HO_163003.out)
                   have n3_ := Aside0.mk (rD HO167.out)
                   have n4_ := Aside0.mk (kD BK146.out)
                   have n5_ := Aside0.mk (kD BK162.out)
                   have n6_ := Aside0.mk (bD HB.out)
                   clear HO_4
                   clear HO_163002
                   clear HO_163003
                   clear HO167
                   clear BK146
                   clear BK162
                   clear HB
                   have HO_4 := n0_
                   have HO_163002 := n1_
                   have HO_163003 := n2_
                   have HO167 := n3_
                   have BK146 := n4_
                   have BK162 := n5_
                   have HB := n6_
                   clear n0_ n1_ n2_ n3_ n4_ n5_ n6_
                   have p168 : 0 ≤ (0 : Int) := (by omega)
                   have q168 : 0 < (t164.length : Int) := oT
                   obtain ⟨ad168, e168, hx168_0⟩ := Kd.at_int (Kd.R_reads' HO167.out).2.2 0 p168 q168
                   cases e168
                   have qi168 : (0 < t164.length) = True := eq_true (by omega)
                   (try rw [t00] at hx168_0)
                   (try rw [Addr.add_zero'] at hx168_0)
                   replace p168 := eq_true p168
                   replace q168 := eq_true q168
                   have p169 : 0 ≤ (1 : Int) := (by omega)
                   have q169 : 1 < (t164.length : Int) := oT
                   obtain ⟨ad169, e169, hx169_0⟩ := Kd.at_int (Kd.R_reads' HO167.out).2.2 1 p169 q169
                   obtain rfl : ad168 = ad169 := (by injection e169)
                   (try simp only [show (1 : Int).toNat = 1 from rfl, Nat.reduceMul, Nat.reduceEqDiff, Go.Addr.add, ↓reduceIte] at hx169_0)
                   have qi169 : (1 < t164.length) = True := eq_true (by omega)
                   (try rw [show ((1 : Int)).toNat = 1 from rfl] at hx169_0)
                   replace p169 := eq_true p169
                   replace q169 := eq_true q169
                   have p170 : 0 ≤ (2 : Int) := (by omega)
                   have q170 : 2 < (t164.length : Int) := oT
                   obtain ⟨ad170, e170, hx170_0⟩ := Kd.at_int (Kd.R_reads' HO167.out).2.2 2 p170 q170
                   obtain rfl : ad168 = ad170 := (by injection e170)
                   (try simp only [show (2 : Int).toNat = 2 from rfl, Nat.reduceMul, Nat.reduceEqDiff, Go.Addr.add, ↓reduceIte] at hx170_0)
                   have qi170 : (2 < t164.length) = True := eq_true (by omega)
                   (try rw [show ((2 : Int)).toNat = 2 from rfl] at hx170_0)
                   replace p170 := eq_true p170
                   replace q170 := eq_true q170
                   refine start_ (n := 16) (S := fun w' => w'.cell? ⟨gb162, 0, none⟩ = some (.int .i64 (rd t151 0)) ∧ w'.cell? ⟨gb162, 1, none⟩ = some (.int .i64 (rd t151 1)) ∧ w'.cell? ⟨gb162, 2, none⟩ = some (.slice Ao27 t156.length co27) ∧ w'.cell? ⟨gb162, 3, none⟩ = some (u163003) ∧ w'.cell? ad168 = some (.int .i64 (rd t164 0)) ∧ w'.cell? ⟨ad168.block, ad168.off + 1, none⟩ = some (.int .i64 (rd t164 1)) ∧ w'.cell? ⟨ad168.block, ad168.off + 2, none⟩ = some (.int .i64 (rd t164 2))) (ds := [13, 15]) #[F,F,F,F,F,F,F,F,F,F,F,F,F,F,F,F] (by kernel_rfl) rfl rfl ⟨(kC BK162.out 0).trans rfl, (kC BK162.out 1).trans rfl, (kC BK162.out 2).trans rfl, (kC BK162.out 3).trans rfl, hx168_0, hx169_0, hx170_0⟩ (fun hHeld => ?_); refine with_tabW spec_ReadGrammar.tab15 spec_ReadGrammar.bits15 (fun HT_ HW_ => ?_)
                   generalize w42.drew = w44 at HO_4 HO_163002 HO_163003 HO167 BK146 BK162 HB hx168_0 hx169_0 hx170_0 hHeld ⊢
                   refine pure_ (i := 0) (N := some 75) (v := ?_) (a' := ?_) #[T,F,F,F,F,F,F,F,F,F,F,F,F,F,F,F] rfl rfl (any_of HT_.out (by kernel_rfl)) (fun _ _ _ h => h) (Or.inl ⟨by rfl, ?_⟩) ?_ ?_; rotate_left; (·intro w'; go_simp; with_reducible rfl); rotate_left; (·simp only [Act.put, sI, sZ, sS, iW, jW]; rfl)
                   refine pure_ (i := 2) (N := some 77) (v := ?_) (a' := ?_) #[T,F,T,F,F,F,F,F,F,F,F,F,F,F,F,F] rfl rfl (any_of HT_.out (by kernel_rfl)) (fun _ _ _ h => h) (Or.inl ⟨by rfl, ?_⟩) ?_ ?_; rotate_left; (·intro w'; go_simp; with_reducible rfl); rotate_left; (·simp only [Act.put, sI, sZ, sS, iW, jW]; rfl)
                   refine pure_ (i := 3) (N := some 78) (v := ?_) (a' := ?_) #[T,F,T,T,F,F,F,F,F,F,F,F,F,F,F,F] rfl rfl (any_of HT_.out (by kernel_rfl)) (fun _ _ _ h => h) (Or.inl ⟨by rfl, ?_⟩) ?_ ?_; rotate_left; (·intro w'; go_simp; with_reducible rfl); rotate_left; (·simp only [Act.put, sI, sZ, sS, iW, jW]; rfl)
                   refine pure_ (i := 5) (N := some 80) (v := ?_) (a' := ?_) #[T,F,T,T,F,T,F,F,F,F,F,F,F,F,F,F] rfl rfl (any_of HT_.out (by kernel_rfl)) (fun _ _ _ h => h) (Or.inl ⟨by rfl, ?_⟩) ?_ ?_; rotate_left; (·intro w'; go_simp; with_reducible rfl); rotate_left; (·simp only [Act.put, sI, sZ, sS, iW, jW]; rfl)
                   refine pure_ (i := 6) (N := some 81) (v := ?_) (a' := ?_) #[T,F,T,T,F,T,T,F,F,F,F,F,F,F,F,F] rfl rfl (any_of HT_.out (by kernel_rfl)) (fun _ _ _ h => h) (Or.inl ⟨by rfl, ?_⟩) ?_ ?_; rotate_left; (·intro w'; go_simp; with_reducible rfl); rotate_left; (·simp only [Act.put, sI, sZ, sS, iW, jW]; rfl)
                   refine pure_ (i := 8) (N := some 83) (v := ?_) (a' := ?_) #[T,F,T,T,F,T,T,F,T,F,F,F,F,F,F,F] rfl rfl (any_of HT_.out (by kernel_rfl)) (fun _ _ _ h => h) (Or.inl ⟨by rfl, ?_⟩) ?_ ?_; rotate_left; (·intro w'; go_simp; with_reducible rfl); rotate_left; (·simp only [Act.put, sI, sZ, sS, iW, jW]; rfl)
                   refine pure_ (i := 9) (N := some 84) (v := ?_) (a' := ?_) #[T,F,T,T,F,T,T,F,T,T,F,F,F,F,F,F] rfl rfl (any_of HT_.out (by kernel_rfl)) (fun _ _ _ h => h) (Or.inl ⟨by rfl, ?_⟩) ?_ ?_; rotate_left; (·intro w'; go_simp; with_reducible rfl); rotate_left; (·simp only [Act.put, sI, sZ, sS, iW, jW]; rfl)
                   refine take_ (i := 1) (N := some 76) (v := ?_) (a' := ?_) #[T,T,T,T,F,T,T,F,T,T,F,F,F,F,F,F] rfl rfl (tW HT_.out HW_.out (by kernel_rfl)) (fun _ _ _ h => h) (Or.inl ⟨by rfl, ?_⟩) hHeld ?_ ?_; rotate_left; (·rintro w' ⟨s0, s1, s2, s3, s4, s5, s6⟩; go_simp; with_reducible rfl); rotate_left; (·simp only [Act.put, sI, sZ, sS, iW, jW]; rfl)
                   refine take_ (i := 4) (N := some 79) (v := ?_) (a' := ?_) #[T,T,T,T,T,T,T,F,T,T,F,F,F,F,F,F] rfl rfl (tW HT_.out HW_.out (by kernel_rfl)) (fun _ _ _ h => h) (Or.inl ⟨by rfl, ?_⟩) hHeld ?_ ?_; rotate_left; (·rintro w' ⟨s0, s1, s2, s3, s4, s5, s6⟩; go_simp; with_reducible rfl); rotate_left; (·simp only [Act.put, sI, sZ, sS, iW, jW]; rfl)
                   refine take_ (i := 7) (N := some 82) (v := ?_) (a' := ?_) #[T,T,T,T,T,T,T,T,T,T,F,F,F,F,F,F] rfl rfl (tW HT_.out HW_.out (by kernel_rfl)) (fun _ _ _ h => h) (Or.inl ⟨by rfl, ?_⟩) hHeld ?_ ?_; rotate_left; (·rintro w' ⟨s0, s1, s2, s3, s4, s5, s6⟩; go_simp; with_reducible rfl); rotate_left; (·simp only [Act.put, sI, sZ, sS, iW, jW]; rfl)
                   refine take_ (i := 10) (N := some 85) (v := ?_) (a' := ?_) #[T,T,T,T,T,T,T,T,T,T,T,F,F,F,F,F] rfl rfl (tW HT_.out HW_.out (by kernel_rfl)) (fun _ _ _ h => h) (Or.inl ⟨by rfl, ?_⟩) hHeld ?_ ?_; rotate_left; (·rintro w' ⟨s0, s1, s2, s3, s4, s5, s6⟩; go_simp; with_reducible rfl); rotate_left; (·simp only [Act.put, sI, sZ, sS, iW, jW]; rfl)
                   refine pure_ (i := 11) (N := some 86) (v := ?_) (a' := ?_) #[T,T,T,T,T,T,T,T,T,T,T,T,F,F,F,F] rfl rfl (any_of HT_.out (by kernel_rfl)) (fun _ _ _ h => h) (Or.inl ⟨by rfl, ?_⟩) ?_ ?_; rotate_left; (·intro w'; go_simp; with_reducible rfl); rotate_left; (·simp only [Act.put, sI, sZ, sS, iW, jW]; rfl)
                   refine one_ (i := 12) (N := some 87) #[T,T,T,T,T,T,T,T,T,T,T,T,T,F,F,F] rfl rfl (oO HT_.out (by kernel_rfl)) (by decide) (fun K hK => ?_)
                   refine value_ (w1 := ?_) (v := ?_) (by rfl) rfl ?_ ?_
                   rotate_left 2
                   ·go_simp
                    constructor
                    ·rfl
                    ·rfl
                   refine hK.out _ _ ⟨(kC (kA BK162.out _) 0).trans rfl, (kC (kA BK162.out _) 1).trans rfl, (kC (kA BK162.out _) 2).trans rfl, (kC (kA BK162.out _) 3).trans rfl, (World.cell?_alloc_lt _ _ _ (World.block_lt_of_cell? _ _ (hHeld.2.2.2.2.1))).trans (hHeld.2.2.2.2.1), (World.cell?_alloc_lt _ _ _ (World.block_lt_of_cell? _ _ (hHeld.2.2.2.2.2.1))).trans (hHeld.2.2.2.2.2.1), (World.cell?_alloc_lt _ _ _ (World.block_lt_of_cell? _ _ (hHeld.2.2.2.2.2.2))).trans (hHeld.2.2.2.2.2.2)⟩ (fun hHeld => ?_)
                   clear hK K
                   refine norm_ (a' := ?_) ?_ ?_
                   rotate_left
                   ·show Act.put _ (some 87) _ = _
                    simp only [Act.put, sI, sZ, sS, iW, jW]
                    rfl
                   refine last_ (i := 13) (N := some 88) #[T,T,T,T,T,T,T,T,T,T,T,T,T,T,F,F] rfl rfl (oO HT_.out (by kernel_rfl)) (by decide) (fun K hK => ?_)
                   refine Kd.R_append_step k63 (w0 := w) w.heap.size (by rfl) (.tmp 76) (.tmp 87) 29 63 (.agg #[(.int .i64 0), (.int .i64 0), (.int .i64 0)]) 24 rfl Tryd.underlying29 info63 rfl (by decide) (by omega) u163003 x163003_2 (⟨rd t164 0, rd t164 1, rd t164 2⟩ : S63) [.int .i64 (rd t164 0), .int .i64 (rd t164 1), .int .i64 (rd t164 2)] (fun _ => True) (fun _ => False) rfl rfl ?aP (fun _ hk => hk.elim) ?aF ?aO ?aB ?aS ?aL ?_
                   (case aP => exact k63_mkM _ _ _ (⟨rd t164 0, rd t164 1, rd t164 2⟩ : S63))
                   (case aB => exact (by repeat (first | (with_reducible first | exact HB.out | apply bA | apply bN | apply bD | refine bS ?_ GE146.out | refine bS ?_ GE162.out) | exact HB.out)))
                   (case aF => exact (fun _ _ => trivial))
                   (case aO => exact (rQ HO_163003))
                   (case aS => exact (bZ (by repeat (first | (with_reducible first | exact HB.out | apply bA | apply bN | apply bD | refine bS ?_ GE146.out | refine bS ?_ GE162.out) | exact HB.out))))
                   (case aL => have := LMc41.out; omega)
                   intro v172 w45 ho hb hg hat
                   rw [← Ny171.out] at ho
                   have n0_ := Aside0.mk (Kd.R_over' (rQ HO_4) (Kd.R_typed (rQ HO_163003)) (by decide) hg)
                   have n1_ := Aside0.mk (Kd.R_over' (rQ HO_163002) (Kd.R_typed (rQ HO_163003)) (by decide) hg)
                   have n2_ := Aside0.mk (blk_grown (kQ BK146) hg (Kd.R_ne HO_163003.out BK146.out (by decide)))
                   have n3_ := Aside0.mk (blk_grown (kQ BK162) hg (Kd.R_ne HO_163003.out BK162.out (by decide)))
                   have n4_ := Aside0.mk (Kd.R_over' (rQ HO167) (Kd.R_typed (rQ HO_163003)) (by decide) hg)
                   have n5_ := Aside0.mk (hb)
                   have n6_ := Aside0.mk (ho)
                   clear HO_4
                   clear HO_163002
                   clear BK146
                   clear BK162
                   clear HO167
                   clear HB
                   clear HO_163003
                   have HO_4 := n0_
                   have HO_163002 := n1_
                   have BK146 := n2_
                   have BK162 := n3_
                   have HO167 := n4_
                   have HB := n5_
                   have HO173 := n6_
                   clear n0_ n1_ n2_ n3_ n4_ n5_ n6_
                   clear ho hb hg hat
                   obtain ⟨Ao46, co46, eo46⟩ := Kd.R_slice HO173.out
                   (first | subst eo46 | (injection eo46 with f1_ f2_ f3_; have f4_ := f1_.symm; have f5_ := f3_.symm; clear f1_ f2_ f3_; subst f4_; subst f5_))
                   refine hK.out _ _ ?_
                   clear hK K
                   refine norm_ (a' := ?_) ?_ ?_
                   rotate_left
                   ·show Act.put _ (some 88) _ = _
                    simp only [Act.put, sI, sZ, sS, iW, jW]
                    rfl
                   refine pure_ (i := 14) (N := some 89) (v := ?_) (a' := ?_) #[T,T,T,T,T,T,T,T,T,T,T,T,T,T,T,F] rfl rfl (any_of HT_.out (by kernel_rfl)) (fun _ _ _ h => h) (Or.inl ⟨by rfl, ?_⟩) ?_ ?_; rotate_left; (·intro w'; go_simp; with_reducible rfl); rotate_left; (·simp only [Act.put, sI, sZ, sS, iW, jW]; rfl)
                   refine last_ (i := 15) (N := none) #[T,T,T,T,T,T,T,T,T,T,T,T,T,T,T,T] rfl rfl (oO HT_.out (by kernel_rfl)) (by decide) (fun K hK => ?_)
                   have hs47 : w45.cell? ⟨gb162, 3, none⟩ = some (u163003) := (kC BK162.out 3).trans rfl
                   have hfs47 := blk_frozen BK162.out 3
                   have hns47_0 := NB146_162.out
                   have hms47_0 := NB162_146.out
                   refine skip_ (w1 := ?_) (by rfl) rfl ?_ ?_
                   rotate_left
                   ·go_simp
                    rfl
                   refine hK.out _ _ ?_
                   clear hK K
                   refine done_ (done_of HT_.out (by kernel_rfl)) ?_
                   try go_wp2
                   go_roundg k2
                   case measure => have := HJ11.out; have := HK2.out; omega
                   case rel => exact ⟨(wrap64 (x10_2 + 1)), (x147000_2), (x147001_2), (y171), (.slice Ao46 y171.length co46), eT, H', ⟨by have := HJ11.out; have := HK2.out; omega⟩, ⟨by (with_reducible repeat (first | apply rA | apply rN | apply rD)); exact rM (Kd.R_far (p := ⟨gb162, 3, none⟩) (Kd.R_types HO_4.out BK162.out (by decide)) (fun _ hk => hk.2) (.slice Ao46 y171.length co46)) (fun _ hk => trivial)⟩, ⟨by (with_reducible repeat (first | apply rA | apply rN | apply rD)); exact rM (Kd.R_far (p := ⟨gb162, 3, none⟩) (Kd.R_types HO_163002.out BK162.out (by decide)) (fun _ hk => hk.2) (.slice Ao46 y171.length co46)) (fun _ hk => trivial)⟩, ⟨by (with_reducible repeat (first | apply rA | apply rN | apply rD)); exact rM (Kd.R_far (p := ⟨gb162, 3, none⟩) (Kd.R_types HO173.out BK162.out (by decide)) (fun _ hk => hk.2) (.slice Ao46 y171.length co46)) (fun _ hk => trivial)⟩, ⟨by (with_reducible repeat (first | refine kN ?_ _ | refine kD ?_ | refine kA ?_ _)); refine kF ?_ NB146_162.out _; (with_reducible repeat (first | refine kN ?_ _ | refine kD ?_ | refine kA ?_ _)); exact BK146.out⟩, ⟨by (with_reducible repeat (first | refine kN ?_ _ | refine kD ?_ | refine kA ?_ _)); refine blk_put (cs := #[.int .i64 (rd t151 0), .int .i64 (rd t151 1), .slice Ao27 t156.length co27, u163003]) ?_ 3 _ rfl; (with_reducible repeat (first | refine kN ?_ _ | refine kD ?_ | refine kA ?_ _)); exact BK162.out⟩, ⟨by repeat (first | (with_reducible first | exact HB.out | apply bA | apply bN | apply bD | refine bS ?_ GE146.out | refine bS ?_ GE162.out) | exact HB.out)⟩⟩
                  ·rw [if_neg c41] at H
                   exact absurd H (by simp)
                 ·rw [if_neg c40] at H
                  exact absurd H (by simp)
                ·rw [if_neg c39] at H
                 exact absurd H (by simp)
               ·rw [if_neg c38] at H
                exact absurd H (by simp)
              ·rw [if_neg c37] at H
               have c37b0 : ((t164.length : Int) == 3) = false := beq_eq_false_iff_ne.mpr c37
               have c37b1 : ((t164.length : Int) != 3) = true := bne_iff_ne.mpr c37
               simp only [Option.some.injEq, Prod.mk.injEq] at H
               obtain ⟨rfl, rfl, rfl, rfl, rfl⟩ := H
               have p163 : 0 ≤ (x10_2 : Int) := oT
               have q163 : x10_2 < (t147.length : Int) := oT
               obtain ⟨ad163, e163, hx163_0⟩ := Kd.at_string (Kd.R_reads' HO_4.out).2.2 x10_2 p163 q163
               obtain rfl : ad150 = ad163 := (by injection e163)
               replace p163 := eq_true p163
               replace q163 := eq_true q163
               go_wp2_with (first | ((with_reducible refine gC (f := 38) rfl ?_); refine goesL_ (some 64) rfl rfl Tryd.func38 (by kernel_rfl) rfl #[.string (rdOf ByteArray.empty t147 x10_2)] rfl lQ ?_; (with_reducible refine (spec_ReadList.calls k2 (rdOf ByteArray.empty t147 x10_2) t164 true _ A35.out).mono ?_); rintro e w48 ⟨v166, rfl, ho0, hb⟩; refine ⟨_, rfl, ?_⟩; have z_ := bX hb (by repeat (first | (with_reducible first | exact HB.out | apply bA | apply bN | apply bD | refine bS ?_ GE146.out | refine bS ?_ GE162.out) | exact HB.out)); have n0_ := Aside0.mk (rB (rQ HO_4) hb); have n1_ := Aside0.mk (rE (rQ HO_163002) (Kd.R_base ho0) hb); have n2_ := Aside0.mk (rB (rQ HO_163003) hb); have n3_ := Aside0.mk (rL (rW ho0 (rT (rQ HO_163002))) (bZ z_)); have n4_ := Aside0.mk (kB (kQ BK146) hb); have n5_ := Aside0.mk (kB (kQ BK162) hb); have n6_ := Aside0.mk (bP z_ hb); clear HO_4; clear HO_163002; clear HO_163003; clear BK146; clear BK162; clear HB; have HO_4 := n0_; have HO_163002 := n1_; have HO_163003 := n2_; have HO167 := n3_; have BK146 := n4_; have BK162 := n5_; have HB := n6_; clear z_ n0_ n1_ n2_ n3_ n4_ n5_ n6_; (try clear hb); (try clear hb2); (try clear hk); (try clear hi); (try clear ho0); obtain ⟨Ao49, co49, eo49⟩ := Kd.R_slice HO167.out; subst eo49; have hnb50 := NB146_162.out; have hnc50 := NB162_146.out; obtain ⟨hcz51_0, hcz51_1, hcz51_2, hcz51_3⟩ := cZ4 BK146.out; obtain ⟨hfz51_0, hfz51_1, hfz51_2, hfz51_3⟩ := fZ4 BK146.out))
               refine bodyPost_ret (results_ct rfl _ _ gb146 31 #[.int .i64 0, .int .i64 0, .slice none 0 0, .slice none 0 0] (0, 0) _ rfl (by (with_reducible repeat (first | refine kN ?_ _ | refine kD ?_ | refine kA ?_ _)); refine blk_put (cs := #[.int .i64 0, .int .i64 0, .slice none 0 0, .slice none 0 0]) ?_ 3 _ rfl; (with_reducible repeat (first | refine kN ?_ _ | refine kD ?_ | refine kA ?_ _)); refine blk_put (cs := #[.int .i64 0, .int .i64 0, .slice none 0 0, .slice none 0 0]) ?_ 2 _ rfl; (with_reducible repeat (first | refine kN ?_ _ | refine kD ?_ | refine kA ?_ _)); refine blk_put (cs := #[.int .i64 0, .int .i64 x147001_2, .slice none 0 0, .slice none 0 0]) ?_ 1 _ rfl; (with_reducible repeat (first | refine kN ?_ _ | refine kD ?_ | refine kA ?_ _)); refine blk_put (cs := #[.int .i64 x147000_2, .int .i64 x147001_2, .slice none 0 0, .slice none 0 0]) ?_ 0 _ rfl; (with_reducible repeat (first | refine kN ?_ _ | refine kD ?_ | refine kA ?_ _)); exact BK146.out) Tryd.underlying31 rfl (by kernel_rfl)) rfl ?_
               exact ⟨_, _, by first | rfl | (simp [errW_none, errW_some] <;> rfl) | (simp [*, errW_none, errW_some] <;> rfl), by first | exact Kd.R_nil _ _ _ _ _ | exact Kd.N_nil _ _ _ _ _ | exact Kd.V_nil _ _ _ _ _ | exact Kd.Q_nil _ _ _ _ _ | exact Kd.S_nil _ _ _ _ _, by first | exact Kd.R_nil _ _ _ _ _ | exact Kd.N_nil _ _ _ _ _ | exact Kd.V_nil _ _ _ _ _ | exact Kd.Q_nil _ _ _ _ _ | exact Kd.S_nil _ _ _ _ _, by repeat (first | (with_reducible first | exact HB.out | apply bA | apply bN | apply bD | refine bS ?_ GE146.out | refine bS ?_ GE162.out) | exact HB.out)⟩
             ·replace c36 := Bool.eq_false_iff.mpr c36
              subst c36
              have H1 : (some (0, 0, ([] : List Int), ([] : List (S63)), false)) = some (r1, r2, r3, r4, r5) := by rw [if_neg (show ¬ (false = true) by decide)] at H; exact H
              clear H
              have H := H1
              clear H1
              simp only [Option.some.injEq, Prod.mk.injEq] at H
              obtain ⟨rfl, rfl, rfl, rfl, rfl⟩ := H
              have p163 : 0 ≤ (x10_2 : Int) := oT
              have q163 : x10_2 < (t147.length : Int) := oT
              obtain ⟨ad163, e163, hx163_0⟩ := Kd.at_string (Kd.R_reads' HO_4.out).2.2 x10_2 p163 q163
              obtain rfl : ad150 = ad163 := (by injection e163)
              replace p163 := eq_true p163
              replace q163 := eq_true q163
              go_wp2_with (first | ((with_reducible refine gC (f := 38) rfl ?_); refine goesL_ (some 64) rfl rfl Tryd.func38 (by kernel_rfl) rfl #[.string (rdOf ByteArray.empty t147 x10_2)] rfl lQ ?_; (with_reducible refine (spec_ReadList.calls k2 (rdOf ByteArray.empty t147 x10_2) t164 false _ A35.out).mono ?_); rintro e w52 ⟨v166, rfl, ho0, hb⟩; refine ⟨_, rfl, ?_⟩; have z_ := bX hb (by repeat (first | (with_reducible first | exact HB.out | apply bA | apply bN | apply bD | refine bS ?_ GE146.out | refine bS ?_ GE162.out) | exact HB.out)); have n0_ := Aside0.mk (rB (rQ HO_4) hb); have n1_ := Aside0.mk (rE (rQ HO_163002) (Kd.R_base ho0) hb); have n2_ := Aside0.mk (rB (rQ HO_163003) hb); have n3_ := Aside0.mk (rL (rW ho0 (rT (rQ HO_163002))) (bZ z_)); have n4_ := Aside0.mk (kB (kQ BK146) hb); have n5_ := Aside0.mk (kB (kQ BK162) hb); have n6_ := Aside0.mk (bP z_ hb); clear HO_4; clear HO_163002; clear HO_163003; clear BK146; clear BK162; clear HB; have HO_4 := n0_; have HO_163002 := n1_; have HO_163003 := n2_; have HO167 := n3_; have BK146 := n4_; have BK162 := n5_; have HB := n6_; clear z_ n0_ n1_ n2_ n3_ n4_ n5_ n6_; (try clear hb); (try clear hb2); (try clear hk); (try clear hi); (try clear ho0); have hnb53 := NB146_162.out; have hnc53 := NB162_146.out; obtain ⟨hcz54_0, hcz54_1, hcz54_2, hcz54_3⟩ := cZ4 BK146.out; obtain ⟨hfz54_0, hfz54_1, hfz54_2, hfz54_3⟩ := fZ4 BK146.out))
              refine bodyPost_ret (results_ct rfl _ _ gb146 31 #[.int .i64 0, .int .i64 0, .slice none 0 0, .slice none 0 0] (0, 0) _ rfl (by (with_reducible repeat (first | refine kN ?_ _ | refine kD ?_ | refine kA ?_ _)); refine blk_put (cs := #[.int .i64 0, .int .i64 0, .slice none 0 0, .slice none 0 0]) ?_ 3 _ rfl; (with_reducible repeat (first | refine kN ?_ _ | refine kD ?_ | refine kA ?_ _)); refine blk_put (cs := #[.int .i64 0, .int .i64 0, .slice none 0 0, .slice none 0 0]) ?_ 2 _ rfl; (with_reducible repeat (first | refine kN ?_ _ | refine kD ?_ | refine kA ?_ _)); refine blk_put (cs := #[.int .i64 0, .int .i64 x147001_2, .slice none 0 0, .slice none 0 0]) ?_ 1 _ rfl; (with_reducible repeat (first | refine kN ?_ _ | refine kD ?_ | refine kA ?_ _)); refine blk_put (cs := #[.int .i64 x147000_2, .int .i64 x147001_2, .slice none 0 0, .slice none 0 0]) ?_ 0 _ rfl; (with_reducible repeat (first | refine kN ?_ _ | refine kD ?_ | refine kA ?_ _)); exact BK146.out) Tryd.underlying31 rfl (by kernel_rfl)) rfl ?_
              exact ⟨_, _, by first | rfl | (simp [errW_none, errW_some] <;> rfl) | (simp [*, errW_none, errW_some] <;> rfl), by first | exact Kd.R_nil _ _ _ _ _ | exact Kd.N_nil _ _ _ _ _ | exact Kd.V_nil _ _ _ _ _ | exact Kd.Q_nil _ _ _ _ _ | exact Kd.S_nil _ _ _ _ _, by first | exact Kd.R_nil _ _ _ _ _ | exact Kd.N_nil _ _ _ _ _ | exact Kd.V_nil _ _ _ _ _ | exact Kd.Q_nil _ _ _ _ _ | exact Kd.S_nil _ _ _ _ _, by repeat (first | (with_reducible first | exact HB.out | apply bA | apply bN | apply bD | refine bS ?_ GE146.out | refine bS ?_ GE162.out) | exact HB.out)⟩
            ·rw [if_neg c34] at H
             exact absurd H (by simp)
           ·rw [if_neg c33] at H
            have c33b0 : decide (x10_2 < (t147.length : Int)) = false := decide_eq_false c33
            clear c33
            replace H := Option.bind_eq_some_iff.mp H
            obtain ⟨t174, A550, H⟩ := H
            replace H : (if t174 = true then (some ((rd t151 0), (rd t151 1), t156, x163003_2, true)) else (some (0, 0, ([] : List Int), ([] : List (S63)), false))) = some (r1, r2, r3, r4, r5) := H
            have A55 := Aside0.mk A550
            clear A550
            by_cases c56 : t174 = true
            ·subst c56
             have H1 : (some ((rd t151 0), (rd t151 1), t156, x163003_2, true)) = some (r1, r2, r3, r4, r5) := by rw [if_pos rfl] at H; exact H
             clear H
             have H := H1
             clear H1
             simp only [Option.some.injEq, Prod.mk.injEq] at H
             obtain ⟨rfl, rfl, rfl, rfl, rfl⟩ := H
             obtain ⟨Ao61, co61, eo61⟩ : ∃ A_ c_, u163003 = (.slice A_ x163003_2.length c_ : Value) := by first | exact Kd.R_slice HO_163003.out | exact Kd.S_slice HO_163003.out
             subst eo61
             go_wp2_with (first | ((with_reducible refine gC (f := 39) rfl ?_); refine goesL_ (some 90) rfl rfl Tryd.func39 (by kernel_rfl) rfl #[.pointer (some ⟨gb162, 0, none⟩)] rfl lQ ?_; (with_reducible refine (spec_l07Ok.calls k2 ⟨gb162, 0, none⟩ (rd t151 0) (rd t151 1) t156 x163003_2 true _ ?side1 A55.out).mono ?_); (case side1 => exact C_box (t := 31) (show _ from kQ BK162) (k31_mk _ (⟨(rd t151 0), (rd t151 1), t156, x163003_2⟩ : S31) (by exact (Kd.R_reads' HO_163002.out).2.1) (by repeat (first | exact (Kd.R_reads' HO_163002.out).2.2 | (with_reducible refine cA ?_ _) | (with_reducible refine cN ?_ _) | (with_reducible refine cD ?_))) (by exact (Kd.R_reads' HO_163003.out).2.1) (by repeat (first | exact (Kd.R_reads' HO_163003.out).2.2 | (with_reducible refine cA ?_ _) | (with_reducible refine cN ?_ _) | (with_reducible refine cD ?_))))); rintro e w57 ⟨rfl, hb⟩; refine ⟨_, rfl, ?_⟩; have n0_ := Aside0.mk (rB (rQ HO_4) hb); have n1_ := Aside0.mk (rB (rQ HO_163002) hb); have n2_ := Aside0.mk (rB (rQ HO_163003) hb); have n3_ := Aside0.mk (kB (kQ BK146) hb); have n4_ := Aside0.mk (kB (kQ BK162) hb); have n5_ := Aside0.mk (bP (by repeat (first | (with_reducible first | exact HB.out | apply bA | apply bN | apply bD | refine bS ?_ GE146.out | refine bS ?_ GE162.out) | exact HB.out)) hb); clear HO_4; clear HO_163002; clear HO_163003; clear BK146; clear BK162; clear HB; have HO_4 := n0_; have HO_163002 := n1_; have HO_163003 := n2_; have BK146 := n3_; have BK162 := n4_; have HB := n5_; clear n0_ n1_ n2_ n3_ n4_ n5_; (try clear hb); (try clear hb2); (try clear hk); (try clear hi); have hnb58 := NB162_146.out; have hnc58 := NB146_162.out; obtain ⟨hcz59_0, hcz59_1, hcz59_2, hcz59_3⟩ := cZ4 BK162.out; obtain ⟨hfz59_0, hfz59_1, hfz59_2, hfz59_3⟩ := fZ4 BK162.out; obtain ⟨hcz60_0, hcz60_1, hcz60_2, hcz60_3⟩ := cZ4 BK146.out; obtain ⟨hfz60_0, hfz60_1, hfz60_2, hfz60_3⟩ := fZ4 BK146.out))
             refine bodyPost_ret (results_ct rfl _ _ gb146 31 #[.int .i64 (rd t151 0), .int .i64 (rd t151 1), .slice Ao27 t156.length co27, .slice Ao61 x163003_2.length co61] (0, 0) _ rfl (by (with_reducible repeat (first | refine kN ?_ _ | refine kD ?_ | refine kA ?_ _)); refine blk_put (cs := #[.int .i64 (rd t151 0), .int .i64 (rd t151 1), .slice Ao27 t156.length co27, .slice none 0 0]) ?_ 3 _ rfl; (with_reducible repeat (first | refine kN ?_ _ | refine kD ?_ | refine kA ?_ _)); refine blk_put (cs := #[.int .i64 (rd t151 0), .int .i64 (rd t151 1), .slice none 0 0, .slice none 0 0]) ?_ 2 _ rfl; (with_reducible repeat (first | refine kN ?_ _ | refine kD ?_ | refine kA ?_ _)); refine blk_put (cs := #[.int .i64 (rd t151 0), .int .i64 x147001_2, .slice none 0 0, .slice none 0 0]) ?_ 1 _ rfl; (with_reducible repeat (first | refine kN ?_ _ | refine kD ?_ | refine kA ?_ _)); refine blk_put (cs := #[.int .i64 x147000_2, .int .i64 x147001_2, .slice none 0 0, .slice none 0 0]) ?_ 0 _ rfl; (with_reducible repeat (first | refine kN ?_ _ | refine kD ?_ | refine kA ?_ _)); exact BK146.out) Tryd.underlying31 rfl (by kernel_rfl)) rfl ?_
             exact ⟨_, _, by first | rfl | (simp [errW_none, errW_some] <;> rfl) | (simp [*, errW_none, errW_some] <;> rfl), by (with_reducible repeat (first | apply rA | apply rN | apply rD)); exact rM (Kd.R_far (p := ⟨gb146, 3, none⟩) (Kd.R_far (p := ⟨gb146, 2, none⟩) (Kd.R_far (p := ⟨gb146, 1, none⟩) (Kd.R_far (p := ⟨gb146, 0, none⟩) (Kd.R_types HO_163002.out BK146.out (by decide)) (fun _ hk => hk.2) (.int .i64 (rd t151 0))) (fun _ hk => hk.2) (.int .i64 (rd t151 1))) (fun _ hk => hk.2) (.slice Ao27 t156.length co27)) (fun _ hk => hk.2) (.slice Ao61 x163003_2.length co61)) (fun _ hk => trivial), by (with_reducible repeat (first | apply rA | apply rN | apply rD)); exact rM (Kd.R_far (p := ⟨gb146, 3, none⟩) (Kd.R_far (p := ⟨gb146, 2, none⟩) (Kd.R_far (p := ⟨gb146, 1, none⟩) (Kd.R_far (p := ⟨gb146, 0, none⟩) (Kd.R_types HO_163003.out BK146.out (by decide)) (fun _ hk => hk.2) (.int .i64 (rd t151 0))) (fun _ hk => hk.2) (.int .i64 (rd t151 1))) (fun _ hk => hk.2) (.slice Ao27 t156.length co27)) (fun _ hk => hk.2) (.slice Ao61 x163003_2.length co61)) (fun _ hk => trivial), by repeat (first | (with_reducible first | exact HB.out | apply bA | apply bN | apply bD | refine bS ?_ GE146.out | refine bS ?_ GE162.out) | exact HB.out)⟩
            ·replace c56 := Bool.eq_false_iff.mpr c56
             subst c56
             have H1 : (some (0, 0, ([] : List Int), ([] : List (S63)), false)) = some (r1, r2, r3, r4, r5) := by rw [if_neg (show ¬ (false = true) by decide)] at H; exact H
             clear H
             have H := H1
             clear H1
             simp only [Option.some.injEq, Prod.mk.injEq] at H
             obtain ⟨rfl, rfl, rfl, rfl, rfl⟩ := H
             obtain ⟨Ao7163003, co7163003, eo7163003⟩ : ∃ A_ c_, u163003 = (.slice A_ x163003_2.length c_ : Value) := by first | exact Kd.R_slice HO_163003.out | exact Kd.S_slice HO_163003.out
             subst eo7163003
             go_wp2_with (first | ((with_reducible refine gC (f := 39) rfl ?_); refine goesL_ (some 90) rfl rfl Tryd.func39 (by kernel_rfl) rfl #[.pointer (some ⟨gb162, 0, none⟩)] rfl lQ ?_; (with_reducible refine (spec_l07Ok.calls k2 ⟨gb162, 0, none⟩ (rd t151 0) (rd t151 1) t156 x163003_2 false _ ?side1 A55.out).mono ?_); (case side1 => exact C_box (t := 31) (show _ from kQ BK162) (k31_mk _ (⟨(rd t151 0), (rd t151 1), t156, x163003_2⟩ : S31) (by exact (Kd.R_reads' HO_163002.out).2.1) (by repeat (first | exact (Kd.R_reads' HO_163002.out).2.2 | (with_reducible refine cA ?_ _) | (with_reducible refine cN ?_ _) | (with_reducible refine cD ?_))) (by exact (Kd.R_reads' HO_163003.out).2.1) (by repeat (first | exact (Kd.R_reads' HO_163003.out).2.2 | (with_reducible refine cA ?_ _) | (with_reducible refine cN ?_ _) | (with_reducible refine cD ?_))))); rintro e w62 ⟨rfl, hb⟩; refine ⟨_, rfl, ?_⟩; have n0_ := Aside0.mk (rB (rQ HO_4) hb); have n1_ := Aside0.mk (rB (rQ HO_163002) hb); have n2_ := Aside0.mk (rB (rQ HO_163003) hb); have n3_ := Aside0.mk (kB (kQ BK146) hb); have n4_ := Aside0.mk (kB (kQ BK162) hb); have n5_ := Aside0.mk (bP (by repeat (first | (with_reducible first | exact HB.out | apply bA | apply bN | apply bD | refine bS ?_ GE146.out | refine bS ?_ GE162.out) | exact HB.out)) hb); clear HO_4; clear HO_163002; clear HO_163003; clear BK146; clear BK162; clear HB; have HO_4 := n0_; have HO_163002 := n1_; have HO_163003 := n2_; have BK146 := n3_; have BK162 := n4_; have HB := n5_; clear n0_ n1_ n2_ n3_ n4_ n5_; (try clear hb); (try clear hb2); (try clear hk); (try clear hi); have hnb63 := NB146_162.out; have hnc63 := NB162_146.out; obtain ⟨hcz64_0, hcz64_1, hcz64_2, hcz64_3⟩ := cZ4 BK146.out; obtain ⟨hfz64_0, hfz64_1, hfz64_2, hfz64_3⟩ := fZ4 BK146.out))
             refine bodyPost_ret (results_ct rfl _ _ gb146 31 #[.int .i64 0, .int .i64 0, .slice none 0 0, .slice none 0 0] (0, 0) _ rfl (by (with_reducible repeat (first | refine kN ?_ _ | refine kD ?_ | refine kA ?_ _)); refine blk_put (cs := #[.int .i64 0, .int .i64 0, .slice none 0 0, .slice none 0 0]) ?_ 3 _ rfl; (with_reducible repeat (first | refine kN ?_ _ | refine kD ?_ | refine kA ?_ _)); refine blk_put (cs := #[.int .i64 0, .int .i64 0, .slice none 0 0, .slice none 0 0]) ?_ 2 _ rfl; (with_reducible repeat (first | refine kN ?_ _ | refine kD ?_ | refine kA ?_ _)); refine blk_put (cs := #[.int .i64 0, .int .i64 x147001_2, .slice none 0 0, .slice none 0 0]) ?_ 1 _ rfl; (with_reducible repeat (first | refine kN ?_ _ | refine kD ?_ | refine kA ?_ _)); refine blk_put (cs := #[.int .i64 x147000_2, .int .i64 x147001_2, .slice none 0 0, .slice none 0 0]) ?_ 0 _ rfl; (with_reducible repeat (first | refine kN ?_ _ | refine kD ?_ | refine kA ?_ _)); exact BK146.out) Tryd.underlying31 rfl (by kernel_rfl)) rfl ?_
             exact ⟨_, _, by first | rfl | (simp [errW_none, errW_some] <;> rfl) | (simp [*, errW_none, errW_some] <;> rfl), by first | exact Kd.R_nil _ _ _ _ _ | exact Kd.N_nil _ _ _ _ _ | exact Kd.V_nil _ _ _ _ _ | exact Kd.Q_nil _ _ _ _ _ | exact Kd.S_nil _ _ _ _ _, by first | exact Kd.R_nil _ _ _ _ _ | exact Kd.N_nil _ _ _ _ _ | exact Kd.V_nil _ _ _ _ _ | exact Kd.Q_nil _ _ _ _ _ | exact Kd.S_nil _ _ _ _ _, by repeat (first | (with_reducible first | exact HB.out | apply bA | apply bN | apply bD | refine bS ?_ GE146.out | refine bS ?_ GE162.out) | exact HB.out)⟩
        ·rw [if_neg c24] at H
         exact absurd H (by simp)
       ·rw [if_neg c23] at H
        exact absurd H (by simp)
   ·rw [if_neg c10] at H
    exact absurd H (by simp)
  ·rw [if_neg c8] at H
   exact absurd H (by simp)

end Go.Proofs.YtlmeijlandogaaaDoor.R
-- shrunk
-- tight
-- tight2
-- tight3
