/- What functions of the given program compute, as plain Lean functions, and that the code comes to just that; by a program of this session over the kit's print. No condition. -/
import Derived.Test.YtbebcnnibjkclaaDoorRx0
import Derived.Test.YtbebcnnibjkclaaDoorRx1
import Derived.Test.YtbebcnnibjkclaaDoorRx3
import Derived.Test.YtbebcnnibjkclaaDoorRx4
import Derived.Test.YtbebcnnibjkclaaDoorRx9
namespace Go.Proofs.YtbebcnnibjkclaaDoor.R
open Go.RowKit Go.Proofs.YtbebcnnibjkclaaDoorW.PrintWords Go.Proofs.YtbebcnnibjkclaaDoorW.PrintLast Go.Proofs.YtbebcnnibjkclaaDoorW.PrintMore
open Go.Proofs.YtbebcnnibjkclaaDoorW.PrintWords renaming below_alloc → bA, pw_below_drewN → bN, below_drew1 → bD, below_set → bS, blk_drewN → kN, blk_drew → kD, blk_alloc → kA, blk_below → kB, below_size → bZ, below_step → bP, blk_far → kF, blk_lt → kL, gate_callee → gC, box_event → bE, blk_cell → kC
open Go.Proofs.YtbebcnnibjkclaaDoorW.PrintLast renaming take_ofW → tW, one_of → oO, i64_w → iW, i32_w → jW
open Go.Proofs.YtbebcnnibjkclaaDoorW.PrintWords.Kd renaming R_alloc → rA, R_drewN → rN, R_drew → rD, C_alloc → cA, C_drewN → cN, C_drew → cD, R_lower → rL, R_below → rB, R_elder' → rE, R_new' → rW, R_lt → rT, R_mono → rM
open List renaming setIfInBounds_toArray → sI, set_cons_zero → sZ, set_cons_succ → sS
open Bool renaming true → T, false → F
attribute [local go_sem] max2_int min2_int max_two min_two max_three min_three max_four min_four   -- for this text's walks alone
set_option linter.unusedVariables false
set_option linter.unusedSimpArgs false

/-! ### spec_l05Read: function 9 -/
mutual
def spec_l05Read.j0 : Nat → List ByteArray → List Int → List Int → List Int → Bool → Option (ByteArray × List Int × List Int × Int × Int × (List (List Int)) × Bool)
 | 0, _, _, _, _, _ => none
 | k + 1, x4, x5, x7, x9, x51 => if x51 = true then (some ((⟨#[]⟩ : ByteArray), ([] : List Int), ([] : List Int), 0, 0, ([] : List (List Int)), false)) else (if 0 < (x4.length : Int) then (if 0 < (x9.length : Int) then (if 1 < (x9.length : Int) then (spec_l05Read.l0 k x4 4 (rdOf ByteArray.empty x4 0) x5 x7 (rd x9 0) (rd x9 1) ([] : List (List Int))) else (none)) else (none)) else (none))
def spec_l05Read.l0 : Nat → List ByteArray → Int → ByteArray → List Int → List Int → Int → Int → List (List Int) → Option (ByteArray × List Int × List Int × Int × Int × (List (List Int)) × Bool)
 | 0, _, _, _, _, _, _, _, _ => none
 | k + 1, x4, x12, x168000, x168001, x168002, x168003, x168004, x168005 => if x12 < (x4.length : Int) then (if 0 ≤ x12 then ((spec_l05Two.f k (rdOf ByteArray.empty x4 x12)).bind fun bt169 => (if bt169.2 = true then (if x168005.length < 5864062014805 then (spec_l05Read.l0 k x4 (wrap64 (x12 + 1)) x168000 x168001 x168002 x168003 x168004 (x168005 ++ [bt169.1])) else (none)) else (some ((⟨#[]⟩ : ByteArray), ([] : List Int), ([] : List Int), 0, 0, ([] : List (List Int)), false)))) else (none)) else ((spec_l05Ok.f k x168000 x168001 x168002 x168003 x168004 x168005).bind fun t176 => (if t176 = true then (some (x168000, x168001, x168002, x168003, x168004, x168005, true)) else (some ((⟨#[]⟩ : ByteArray), ([] : List Int), ([] : List Int), 0, 0, ([] : List (List Int)), false))))
end
def spec_l05Read.f (k : Nat) (a0 : ByteArray) : Option (ByteArray × List Int × List Int × Int × Int × (List (List Int)) × Bool) := (spec_l01Split.f k a0 32).bind fun t146 => (if (t146.length : Int) < 4 then (some ((⟨#[]⟩ : ByteArray), ([] : List Int), ([] : List Int), 0, 0, ([] : List (List Int)), false)) else (if 1 < (t146.length : Int) then ((spec_l03Read.f k (rdOf ByteArray.empty t146 1)).bind fun bt150 => (if 2 < (t146.length : Int) then ((spec_l03Read.f k (rdOf ByteArray.empty t146 2)).bind fun bt155 => (if 3 < (t146.length : Int) then ((spec_l05Two.f k (rdOf ByteArray.empty t146 3)).bind fun bt160 => (if bt150.2 = true then (if bt155.2 = true then (spec_l05Read.j0 k t146 bt150.1 bt155.1 bt160.1 (!bt160.2)) else (spec_l05Read.j0 k t146 bt150.1 bt155.1 bt160.1 true)) else (spec_l05Read.j0 k t146 bt150.1 bt155.1 bt160.1 true))) else (none))) else (none))) else (none)))
theorem spec_l05Read.mono_l : ∀ k, (∀ y0 y1 y2 y3 y4, LeO (spec_l05Read.j0 k y0 y1 y2 y3 y4) (spec_l05Read.j0 (k + 1) y0 y1 y2 y3 y4)) ∧ (∀ y0 y1 y2 y3 y4 y5 y6 y7, LeO (spec_l05Read.l0 k y0 y1 y2 y3 y4 y5 y6 y7) (spec_l05Read.l0 (k + 1) y0 y1 y2 y3 y4 y5 y6 y7))
 | 0 => ⟨fun _ _ _ _ _ r h => by simp [spec_l05Read.j0] at h, fun _ _ _ _ _ _ _ _ r h => by simp [spec_l05Read.l0] at h⟩
 | k + 1 => by
  obtain ⟨ih0, ih1⟩ := spec_l05Read.mono_l k
  refine ⟨?_, ?_⟩
  ·intro y0 y1 y2 y3 y4
   unfold spec_l05Read.j0
   repeat' first
   | (with_reducible exact ih0 _ _ _ _ _)
   | (with_reducible exact ih1 _ _ _ _ _ _ _ _)
   | (with_reducible exact spec_l01Split.mono _ _ _)
   | (with_reducible exact spec_l03Read.mono _ _)
   | (with_reducible exact spec_l05Ok.mono _ _ _ _ _ _ _)
   | (with_reducible exact spec_l05Two.mono _ _)
   | (with_reducible exact LeO.refl _)
   | (with_reducible exact LeO.none _)
   | (with_reducible refine LeO.ite ?_ ?_)
   | (with_reducible refine LeO.bind ?_ (fun _ => ?_))
   | exact ih0 _ _ _ _ _
   | exact ih1 _ _ _ _ _ _ _ _
   | exact spec_l01Split.mono _ _ _
   | exact spec_l03Read.mono _ _
   | exact spec_l05Ok.mono _ _ _ _ _ _ _
   | exact spec_l05Two.mono _ _
   | exact LeO.none _
   | refine LeO.ite ?_ ?_
   | refine LeO.bind ?_ (fun _ => ?_)
  ·intro y0 y1 y2 y3 y4 y5 y6 y7
   unfold spec_l05Read.l0
   repeat' first
   | (with_reducible exact ih0 _ _ _ _ _)
   | (with_reducible exact ih1 _ _ _ _ _ _ _ _)
   | (with_reducible exact spec_l01Split.mono _ _ _)
   | (with_reducible exact spec_l03Read.mono _ _)
   | (with_reducible exact spec_l05Ok.mono _ _ _ _ _ _ _)
   | (with_reducible exact spec_l05Two.mono _ _)
   | (with_reducible exact LeO.refl _)
   | (with_reducible exact LeO.none _)
   | (with_reducible refine LeO.ite ?_ ?_)
   | (with_reducible refine LeO.bind ?_ (fun _ => ?_))
   | exact ih0 _ _ _ _ _
   | exact ih1 _ _ _ _ _ _ _ _
   | exact spec_l01Split.mono _ _ _
   | exact spec_l03Read.mono _ _
   | exact spec_l05Ok.mono _ _ _ _ _ _ _
   | exact spec_l05Two.mono _ _
   | exact LeO.none _
   | refine LeO.ite ?_ ?_
   | refine LeO.bind ?_ (fun _ => ?_)
theorem spec_l05Read.mono : ∀ a0 k, LeO (spec_l05Read.f k a0) (spec_l05Read.f (k + 1) a0) := by
 intro a0 k
 obtain ⟨ih0, ih1⟩ := spec_l05Read.mono_l k
 unfold spec_l05Read.f
 repeat' first
   | (with_reducible exact ih0 _ _ _ _ _)
   | (with_reducible exact ih1 _ _ _ _ _ _ _ _)
   | (with_reducible exact spec_l01Split.mono _ _ _)
   | (with_reducible exact spec_l03Read.mono _ _)
   | (with_reducible exact spec_l05Ok.mono _ _ _ _ _ _ _)
   | (with_reducible exact spec_l05Two.mono _ _)
   | (with_reducible exact LeO.refl _)
   | (with_reducible exact LeO.none _)
   | (with_reducible refine LeO.ite ?_ ?_)
   | (with_reducible refine LeO.bind ?_ (fun _ => ?_))
   | exact ih0 _ _ _ _ _
   | exact ih1 _ _ _ _ _ _ _ _
   | exact spec_l01Split.mono _ _ _
   | exact spec_l03Read.mono _ _
   | exact spec_l05Ok.mono _ _ _ _ _ _ _
   | exact spec_l05Two.mono _ _
   | exact LeO.none _
   | refine LeO.ite ?_ ?_
   | refine LeO.bind ?_ (fun _ => ?_)
def spec_l05Read.T9 : Bool × List (List Nat × List Nat) := (true, [([], []), ([0], [0]), ([1], [1]), ([], []), ([], []), ([], []), ([5], [5]), ([6], [6]), ([], []), ([8], [8]), ([9], [9]), ([2, 3, 4, 7, 10], [2, 3, 4, 7, 10]), ([], []), ([12, 11, 0, 1, 2, 3, 4, 5, 6, 7, 8, 9, 10, 11, 12], [11, 12])])
def spec_l05Read.B9 : List Nat := [0, 1, 3, 0, 0, 0, 32, 96, 0, 256, 768, 2047, 0, 8191]
theorem spec_l05Read.tab9 : rtab .any (opsOf Tryd.f9 9) = spec_l05Read.T9 := by kernel_rfl
theorem spec_l05Read.bits9 : waitsOk spec_l05Read.T9.2 spec_l05Read.B9 = true := by kernel_rfl
set_option maxHeartbeats 8000000 in
set_option maxRecDepth 100000 in
theorem spec_l05Read.calls (k : Nat) (a0 : ByteArray) (r1 : ByteArray) (r2 : List Int) (r3 : List Int) (r4 : Int) (r5 : Int) (r6 : List (List Int)) (r7 : Bool) (w : World) (h : spec_l05Read.f k a0 = some (r1, r2, r3, r4, r5, r6, r7)) :
  Calls Tryd.prog 9 #[.string a0] w fun e w' => ∃ v1_ v2_ v5_ : Value, e = .returned (.tuple #[.agg #[.string r1, v1_, v2_, .int .i64 r4, .int .i64 r5, v5_], .bool r7]) ∧ Kd.R (Kd.int .i64) 2 w' w.heap.size (fun k_ => some k_ ≠ (v2_ : Value).ownBlock) v1_ r2 ∧ Kd.R (Kd.int .i64) 2 w' w.heap.size (fun k_ => some k_ ≠ (v1_ : Value).ownBlock) v2_ r3 ∧ Kd.S (Kd.slice 2 (Kd.int .i64)) 22 w' w.heap.size (fun k_ => some k_ ≠ (v1_ : Value).ownBlock ∧ some k_ ≠ (v2_ : Value).ownBlock) v5_ r6 ∧ Below w.heap.size w w' := by
 have hu25 := Tryd.underlying25
 have HB := Aside0.mk (Below.refl w.heap.size w)
 have H : ((spec_l01Split.f k a0 32).bind fun t146 => (if (t146.length : Int) < 4 then (some ((⟨#[]⟩ : ByteArray), ([] : List Int), ([] : List Int), 0, 0, ([] : List (List Int)), false)) else (if 1 < (t146.length : Int) then ((spec_l03Read.f k (rdOf ByteArray.empty t146 1)).bind fun bt150 => (if 2 < (t146.length : Int) then ((spec_l03Read.f k (rdOf ByteArray.empty t146 2)).bind fun bt155 => (if 3 < (t146.length : Int) then ((spec_l05Two.f k (rdOf ByteArray.empty t146 3)).bind fun bt160 => (if bt150.2 = true then (if bt155.2 = true then (spec_l05Read.j0 k t146 bt150.1 bt155.1 bt160.1 (!bt160.2)) else (spec_l05Read.j0 k t146 bt150.1 bt155.1 bt160.1 true)) else (spec_l05Read.j0 k t146 bt150.1 bt155.1 bt160.1 true))) else (none))) else (none))) else (none)))) = some (r1, r2, r3, r4, r5, r6, r7) := h
 clear h
 replace H := Option.bind_eq_some_iff.mp H
 obtain ⟨t146, A20, H⟩ := H
 replace H : (if (t146.length : Int) < 4 then (some ((⟨#[]⟩ : ByteArray), ([] : List Int), ([] : List Int), 0, 0, ([] : List (List Int)), false)) else (if 1 < (t146.length : Int) then ((spec_l03Read.f k (rdOf ByteArray.empty t146 1)).bind fun bt150 => (if 2 < (t146.length : Int) then ((spec_l03Read.f k (rdOf ByteArray.empty t146 2)).bind fun bt155 => (if 3 < (t146.length : Int) then ((spec_l05Two.f k (rdOf ByteArray.empty t146 3)).bind fun bt160 => (if bt150.2 = true then (if bt155.2 = true then (spec_l05Read.j0 k t146 bt150.1 bt155.1 bt160.1 (!bt160.2)) else (spec_l05Read.j0 k t146 bt150.1 bt155.1 bt160.1 true)) else (spec_l05Read.j0 k t146 bt150.1 bt155.1 bt160.1 true))) else (none))) else (none))) else (none))) = some (r1, r2, r3, r4, r5, r6, r7) := H
 have A2 := Aside0.mk A20
 clear A20
 by_cases c3 : (t146.length : Int) < 4
 ·rw [if_pos c3] at H
  have c3b0 : decide ((t146.length : Int) < 4) = true := decide_eq_true c3
  have c3b1 : decide (t146.length < 4) = true := decide_eq_true (by omega)
  clear c3
  simp only [Option.some.injEq, Prod.mk.injEq] at H
  obtain ⟨rfl, rfl, rfl, rfl, rfl, rfl, rfl⟩ := H
  go_enter Tryd.func9, Tryd.ntmps9
  go_wp2_with (first | ((with_reducible refine gate_dst (N := 2) rfl ?_); refine bE ?hg (N := 2) ?hd (cs := #[.string (⟨#[]⟩ : ByteArray), .slice none 0 0, .slice none 0 0, .int .i64 0, .int .i64 0, .slice none 0 0]) (t := 25) ?hr ?_; (case hd => rfl); (case hg => rfl); (case hr => first | (go_simp; done) | (go_simp; rfl)); intro gb145 hg w4 hbox hb; have n0_ := Aside0.mk (bP (by repeat (first | (with_reducible first | exact HB.out | apply bA | apply bN | apply bD) | exact HB.out)) hb); have n1_ := Aside0.mk (hbox); have n2_ := Aside0.mk ((by rw [hg]; exact (bZ (by repeat (first | (with_reducible first | exact HB.out | apply bA | apply bN | apply bD) | exact HB.out))) : w.heap.size ≤ gb145)); have n3_ := Aside0.mk ((by rw [hg]; exact (bZ (by repeat (first | (with_reducible first | exact HB.out | apply bA | apply bN | apply bD) | exact HB.out))) : w.heap.size ≤ gb145)); clear HB; have HB := n0_; have BK145 := n1_; have GW145 := n2_; have GE145 := n3_; clear n0_ n1_ n2_ n3_; clear hb hbox hg) | ((with_reducible refine gC (f := 21) rfl ?_); refine goesL_ (some 16) rfl rfl Tryd.func21 (by kernel_rfl) rfl #[.string a0, .int .u8 32] rfl (by (try simp only [List.map_toArray, List.map_cons, List.map_nil]); first | done | rfl | (simp only [List.length_drop, List.length_take]; rfl)) ?_; (with_reducible refine (spec_l01Split.calls k a0 32 t146 _ A2.out).mono ?_); rintro e w5 ⟨v147, rfl, ho0, hb⟩; refine ⟨_, rfl, ?_⟩; have n0_ := Aside0.mk (rL ho0 (bZ (by repeat (first | (with_reducible first | exact HB.out | apply bA | apply bN | apply bD | refine bS ?_ GE145.out) | exact HB.out)))); have n1_ := Aside0.mk (kB (g := gb145) (o := .cells #[.string (⟨#[]⟩ : ByteArray), .slice none 0 0, .slice none 0 0, .int .i64 0, .int .i64 0, .slice none 0 0] 25 (0, 0)) (by (with_reducible repeat (first | refine kN ?_ _ | refine kD ?_ | refine kA ?_ _)); exact BK145.out) hb); have n2_ := Aside0.mk (bP (by repeat (first | (with_reducible first | exact HB.out | apply bA | apply bN | apply bD | refine bS ?_ GE145.out) | exact HB.out)) hb); clear BK145; clear HB; have HO148 := n0_; have BK145 := n1_; have HB := n2_; clear n0_ n1_ n2_; (try clear hb); (try clear hb2); (try clear hk); (try clear hi); (try clear ho0); obtain ⟨Ao6, co6, eo6⟩ := Kd.R_slice HO148.out; subst eo6; have hcz7_0 : w5.cell? ⟨gb145, 0, none⟩ = some (.string (⟨#[]⟩ : ByteArray)) := (kC BK145.out 0).trans rfl; have hcz7_1 : w5.cell? ⟨gb145, 1, none⟩ = some (.slice none 0 0) := (kC BK145.out 1).trans rfl; have hcz7_2 : w5.cell? ⟨gb145, 2, none⟩ = some (.slice none 0 0) := (kC BK145.out 2).trans rfl; have hcz7_3 : w5.cell? ⟨gb145, 3, none⟩ = some (.int .i64 0) := (kC BK145.out 3).trans rfl; have hcz7_4 : w5.cell? ⟨gb145, 4, none⟩ = some (.int .i64 0) := (kC BK145.out 4).trans rfl; have hcz7_5 : w5.cell? ⟨gb145, 5, none⟩ = some (.slice none 0 0) := (kC BK145.out 5).trans rfl; have hfz7_0 := blk_frozen BK145.out 0; have hfz7_1 := blk_frozen BK145.out 1; have hfz7_2 := blk_frozen BK145.out 2; have hfz7_3 := blk_frozen BK145.out 3; have hfz7_4 := blk_frozen BK145.out 4; have hfz7_5 := blk_frozen BK145.out 5))
  refine bodyPost_ret (results_ct rfl _ _ gb145 25 #[.string (⟨#[]⟩ : ByteArray), .slice none 0 0, .slice none 0 0, .int .i64 0, .int .i64 0, .slice none 0 0] (0, 0) _ rfl (by (with_reducible repeat (first | refine kN ?_ _ | refine kD ?_ | refine kA ?_ _)); refine blk_put (cs := #[.string (⟨#[]⟩ : ByteArray), .slice none 0 0, .slice none 0 0, .int .i64 0, .int .i64 0, .slice none 0 0]) ?_ 5 _ rfl; (with_reducible repeat (first | refine kN ?_ _ | refine kD ?_ | refine kA ?_ _)); refine blk_put (cs := #[.string (⟨#[]⟩ : ByteArray), .slice none 0 0, .slice none 0 0, .int .i64 0, .int .i64 0, .slice none 0 0]) ?_ 4 _ rfl; (with_reducible repeat (first | refine kN ?_ _ | refine kD ?_ | refine kA ?_ _)); refine blk_put (cs := #[.string (⟨#[]⟩ : ByteArray), .slice none 0 0, .slice none 0 0, .int .i64 0, .int .i64 0, .slice none 0 0]) ?_ 3 _ rfl; (with_reducible repeat (first | refine kN ?_ _ | refine kD ?_ | refine kA ?_ _)); refine blk_put (cs := #[.string (⟨#[]⟩ : ByteArray), .slice none 0 0, .slice none 0 0, .int .i64 0, .int .i64 0, .slice none 0 0]) ?_ 2 _ rfl; (with_reducible repeat (first | refine kN ?_ _ | refine kD ?_ | refine kA ?_ _)); refine blk_put (cs := #[.string (⟨#[]⟩ : ByteArray), .slice none 0 0, .slice none 0 0, .int .i64 0, .int .i64 0, .slice none 0 0]) ?_ 1 _ rfl; (with_reducible repeat (first | refine kN ?_ _ | refine kD ?_ | refine kA ?_ _)); refine blk_put (cs := #[.string (⟨#[]⟩ : ByteArray), .slice none 0 0, .slice none 0 0, .int .i64 0, .int .i64 0, .slice none 0 0]) ?_ 0 _ rfl; (with_reducible repeat (first | refine kN ?_ _ | refine kD ?_ | refine kA ?_ _)); exact BK145.out) Tryd.underlying25 rfl (by kernel_rfl)) rfl ?_
  exact ⟨_, _, _, by first | rfl | (simp [errW_none, errW_some] <;> rfl) | (simp [*, errW_none, errW_some] <;> rfl), by first | exact Kd.R_nil _ _ _ _ _ | exact Kd.N_nil _ _ _ _ _ | exact Kd.V_nil _ _ _ _ _ | exact Kd.Q_nil _ _ _ _ _ | exact Kd.S_nil _ _ _ _ _, by first | exact Kd.R_nil _ _ _ _ _ | exact Kd.N_nil _ _ _ _ _ | exact Kd.V_nil _ _ _ _ _ | exact Kd.Q_nil _ _ _ _ _ | exact Kd.S_nil _ _ _ _ _, by first | exact Kd.S_nil _ _ _ _ _ | exact Kd.N_nil _ _ _ _ _ | exact Kd.V_nil _ _ _ _ _ | exact Kd.Q_nil _ _ _ _ _ | exact Kd.R_nil _ _ _ _ _, by repeat (first | (with_reducible first | exact HB.out | apply bA | apply bN | apply bD | refine bS ?_ GE145.out) | exact HB.out)⟩
 ·rw [if_neg c3] at H
  have c3b0 : decide ((t146.length : Int) < 4) = false := decide_eq_false c3
  have c3b1 : decide (t146.length < 4) = false := decide_eq_false (by omega)
  clear c3
  by_cases c8 : 1 < (t146.length : Int)
  ·rw [if_pos c8] at H
   have c8b0 : decide (1 < (t146.length : Int)) = true := decide_eq_true c8
   have c8b1 : decide (1 < t146.length) = true := decide_eq_true (by omega)
   clear c8
   replace H := Option.bind_eq_some_iff.mp H
   obtain ⟨⟨t150, t151⟩, A90, H⟩ := H
   replace H : (if 2 < (t146.length : Int) then ((spec_l03Read.f k (rdOf ByteArray.empty t146 2)).bind fun bt155 => (if 3 < (t146.length : Int) then ((spec_l05Two.f k (rdOf ByteArray.empty t146 3)).bind fun bt160 => (if t151 = true then (if bt155.2 = true then (spec_l05Read.j0 k t146 t150 bt155.1 bt160.1 (!bt160.2)) else (spec_l05Read.j0 k t146 t150 bt155.1 bt160.1 true)) else (spec_l05Read.j0 k t146 t150 bt155.1 bt160.1 true))) else (none))) else (none)) = some (r1, r2, r3, r4, r5, r6, r7) := H
   have A9 := Aside0.mk A90
   clear A90
   by_cases c10 : 2 < (t146.length : Int)
   ·rw [if_pos c10] at H
    have c10b0 : decide (2 < (t146.length : Int)) = true := decide_eq_true c10
    have c10b1 : decide (2 < t146.length) = true := decide_eq_true (by omega)
    clear c10
    replace H := Option.bind_eq_some_iff.mp H
    obtain ⟨⟨t155, t156⟩, A110, H⟩ := H
    replace H : (if 3 < (t146.length : Int) then ((spec_l05Two.f k (rdOf ByteArray.empty t146 3)).bind fun bt160 => (if t151 = true then (if t156 = true then (spec_l05Read.j0 k t146 t150 t155 bt160.1 (!bt160.2)) else (spec_l05Read.j0 k t146 t150 t155 bt160.1 true)) else (spec_l05Read.j0 k t146 t150 t155 bt160.1 true))) else (none)) = some (r1, r2, r3, r4, r5, r6, r7) := H
    have A11 := Aside0.mk A110
    clear A110
    by_cases c12 : 3 < (t146.length : Int)
    ·rw [if_pos c12] at H
     have c12b0 : decide (3 < (t146.length : Int)) = true := decide_eq_true c12
     have c12b1 : decide (3 < t146.length) = true := decide_eq_true (by omega)
     clear c12
     replace H := Option.bind_eq_some_iff.mp H
     obtain ⟨⟨t160, t161⟩, A130, H⟩ := H
     replace H : (if t151 = true then (if t156 = true then (spec_l05Read.j0 k t146 t150 t155 t160 (!t161)) else (spec_l05Read.j0 k t146 t150 t155 t160 true)) else (spec_l05Read.j0 k t146 t150 t155 t160 true)) = some (r1, r2, r3, r4, r5, r6, r7) := H
     have A13 := Aside0.mk A130
     clear A130
     have HC14 := Aside0.mk H
     clear H
     go_enter Tryd.func9, Tryd.ntmps9
     go_upto_region 7 with (first | ((with_reducible refine gate_dst (N := 2) rfl ?_); refine bE ?hg (N := 2) ?hd (cs := #[.string (⟨#[]⟩ : ByteArray), .slice none 0 0, .slice none 0 0, .int .i64 0, .int .i64 0, .slice none 0 0]) (t := 25) ?hr ?_; (case hd => rfl); (case hg => rfl); (case hr => first | (go_simp; done) | (go_simp; rfl)); intro gb145 hg w15 hbox hb; have n0_ := Aside0.mk (bP (by repeat (first | (with_reducible first | exact HB.out | apply bA | apply bN | apply bD) | exact HB.out)) hb); have n1_ := Aside0.mk (hbox); have n2_ := Aside0.mk ((by rw [hg]; exact (bZ (by repeat (first | (with_reducible first | exact HB.out | apply bA | apply bN | apply bD) | exact HB.out))) : w.heap.size ≤ gb145)); have n3_ := Aside0.mk ((by rw [hg]; exact (bZ (by repeat (first | (with_reducible first | exact HB.out | apply bA | apply bN | apply bD) | exact HB.out))) : w.heap.size ≤ gb145)); clear HB; have HB := n0_; have BK145 := n1_; have GW145 := n2_; have GE145 := n3_; clear n0_ n1_ n2_ n3_; clear hb hbox hg) | ((with_reducible refine gC (f := 21) rfl ?_); refine goesL_ (some 16) rfl rfl Tryd.func21 (by kernel_rfl) rfl #[.string a0, .int .u8 32] rfl (by (try simp only [List.map_toArray, List.map_cons, List.map_nil]); first | done | rfl | (simp only [List.length_drop, List.length_take]; rfl)) ?_; (with_reducible refine (spec_l01Split.calls k a0 32 t146 _ A2.out).mono ?_); rintro e w16 ⟨v147, rfl, ho0, hb⟩; refine ⟨_, rfl, ?_⟩; have n0_ := Aside0.mk (rL ho0 (bZ (by repeat (first | (with_reducible first | exact HB.out | apply bA | apply bN | apply bD | refine bS ?_ GE145.out) | exact HB.out)))); have n1_ := Aside0.mk (kB (g := gb145) (o := .cells #[.string (⟨#[]⟩ : ByteArray), .slice none 0 0, .slice none 0 0, .int .i64 0, .int .i64 0, .slice none 0 0] 25 (0, 0)) (by (with_reducible repeat (first | refine kN ?_ _ | refine kD ?_ | refine kA ?_ _)); exact BK145.out) hb); have n2_ := Aside0.mk (bP (by repeat (first | (with_reducible first | exact HB.out | apply bA | apply bN | apply bD | refine bS ?_ GE145.out) | exact HB.out)) hb); clear BK145; clear HB; have HO148 := n0_; have BK145 := n1_; have HB := n2_; clear n0_ n1_ n2_; (try clear hb); (try clear hb2); (try clear hk); (try clear hi); (try clear ho0); obtain ⟨Ao17, co17, eo17⟩ := Kd.R_slice HO148.out; subst eo17; have p149 : 0 ≤ (1 : Int) := (by omega); have q149 : 1 < (t146.length : Int) := of_decide_eq_true (by first | (with_reducible assumption) | assumption); obtain ⟨ad149, e149, hx149_0⟩ := Kd.at_string (Kd.R_reads' HO148.out).2.2 1 p149 q149; cases e149; (try simp only [show (1 : Int).toNat = 1 from rfl, Nat.reduceMul, Nat.reduceEqDiff, Go.Addr.add, ↓reduceIte] at hx149_0); have qi149 : (1 < t146.length) = True := eq_true (by omega); (try rw [show ((1 : Int)).toNat = 1 from rfl] at hx149_0); replace p149 := eq_true p149; replace q149 := eq_true q149) | ((with_reducible refine gC (f := 22) rfl ?_); refine goesL_ (some 25) rfl rfl Tryd.func22 (by kernel_rfl) rfl #[.string (rdOf ByteArray.empty t146 1)] rfl (by (try simp only [List.map_toArray, List.map_cons, List.map_nil]); first | done | rfl | (simp only [List.length_drop, List.length_take]; rfl)) ?_; (with_reducible refine (spec_l03Read.calls k (rdOf ByteArray.empty t146 1) t150 t151 _ A9.out).mono ?_); rintro e w18 ⟨v152, rfl, ho0, hb⟩; refine ⟨_, rfl, ?_⟩; have n0_ := Aside0.mk (rB (by (with_reducible repeat (first | apply rA | apply rN | apply rD)); exact HO148.out) hb); have n1_ := Aside0.mk (rL ho0 (bZ (by repeat (first | (with_reducible first | exact HB.out | apply bA | apply bN | apply bD | refine bS ?_ GE145.out) | exact HB.out)))); have n2_ := Aside0.mk (kB (g := gb145) (o := .cells #[.string (⟨#[]⟩ : ByteArray), .slice none 0 0, .slice none 0 0, .int .i64 0, .int .i64 0, .slice none 0 0] 25 (0, 0)) (by (with_reducible repeat (first | refine kN ?_ _ | refine kD ?_ | refine kA ?_ _)); exact BK145.out) hb); have n3_ := Aside0.mk (bP (by repeat (first | (with_reducible first | exact HB.out | apply bA | apply bN | apply bD | refine bS ?_ GE145.out) | exact HB.out)) hb); clear HO148; clear BK145; clear HB; have HO148 := n0_; have HO153 := n1_; have BK145 := n2_; have HB := n3_; clear n0_ n1_ n2_ n3_; (try clear hb); (try clear hb2); (try clear hk); (try clear hi); (try clear ho0); have p154 : 0 ≤ (2 : Int) := (by omega); have q154 : 2 < (t146.length : Int) := of_decide_eq_true (by first | (with_reducible assumption) | assumption); obtain ⟨ad154, e154, hx154_0⟩ := Kd.at_string (Kd.R_reads' HO148.out).2.2 2 p154 q154; obtain rfl : ad149 = ad154 := (by injection e154); (try simp only [show (2 : Int).toNat = 2 from rfl, Nat.reduceMul, Nat.reduceEqDiff, Go.Addr.add, ↓reduceIte] at hx154_0); have qi154 : (2 < t146.length) = True := eq_true (by omega); (try rw [show ((2 : Int)).toNat = 2 from rfl] at hx154_0); replace p154 := eq_true p154; replace q154 := eq_true q154) | ((with_reducible refine gC (f := 22) rfl ?_); refine goesL_ (some 32) rfl rfl Tryd.func22 (by kernel_rfl) rfl #[.string (rdOf ByteArray.empty t146 2)] rfl (by (try simp only [List.map_toArray, List.map_cons, List.map_nil]); first | done | rfl | (simp only [List.length_drop, List.length_take]; rfl)) ?_; (with_reducible refine (spec_l03Read.calls k (rdOf ByteArray.empty t146 2) t155 t156 _ A11.out).mono ?_); rintro e w19 ⟨v157, rfl, ho0, hb⟩; refine ⟨_, rfl, ?_⟩; have n0_ := Aside0.mk (rB (by (with_reducible repeat (first | apply rA | apply rN | apply rD)); exact HO148.out) hb); have n1_ := Aside0.mk (rE (by (with_reducible repeat (first | apply rA | apply rN | apply rD)); exact HO153.out) (Kd.R_base ho0) hb); have n2_ := Aside0.mk (rL (rW ho0 (rT (by (with_reducible repeat (first | apply rA | apply rN | apply rD)); exact HO153.out))) (bZ (by repeat (first | (with_reducible first | exact HB.out | apply bA | apply bN | apply bD | refine bS ?_ GE145.out) | exact HB.out)))); have n3_ := Aside0.mk (kB (g := gb145) (o := .cells #[.string (⟨#[]⟩ : ByteArray), .slice none 0 0, .slice none 0 0, .int .i64 0, .int .i64 0, .slice none 0 0] 25 (0, 0)) (by (with_reducible repeat (first | refine kN ?_ _ | refine kD ?_ | refine kA ?_ _)); exact BK145.out) hb); have n4_ := Aside0.mk (bP (by repeat (first | (with_reducible first | exact HB.out | apply bA | apply bN | apply bD | refine bS ?_ GE145.out) | exact HB.out)) hb); clear HO148; clear HO153; clear BK145; clear HB; have HO148 := n0_; have HO153 := n1_; have HO158 := n2_; have BK145 := n3_; have HB := n4_; clear n0_ n1_ n2_ n3_ n4_; (try clear hb); (try clear hb2); (try clear hk); (try clear hi); (try clear ho0); have p159 : 0 ≤ (3 : Int) := (by omega); have q159 : 3 < (t146.length : Int) := of_decide_eq_true (by first | (with_reducible assumption) | assumption); obtain ⟨ad159, e159, hx159_0⟩ := Kd.at_string (Kd.R_reads' HO148.out).2.2 3 p159 q159; obtain rfl : ad149 = ad159 := (by injection e159); (try simp only [show (3 : Int).toNat = 3 from rfl, Nat.reduceMul, Nat.reduceEqDiff, Go.Addr.add, ↓reduceIte] at hx159_0); have qi159 : (3 < t146.length) = True := eq_true (by omega); (try rw [show ((3 : Int)).toNat = 3 from rfl] at hx159_0); replace p159 := eq_true p159; replace q159 := eq_true q159) | ((with_reducible refine gC (f := 23) rfl ?_); refine goesL_ (some 39) rfl rfl Tryd.func23 (by kernel_rfl) rfl #[.string (rdOf ByteArray.empty t146 3)] rfl (by (try simp only [List.map_toArray, List.map_cons, List.map_nil]); first | done | rfl | (simp only [List.length_drop, List.length_take]; rfl)) ?_; (with_reducible refine (spec_l05Two.calls k (rdOf ByteArray.empty t146 3) t160 t161 _ A13.out).mono ?_); rintro e w20 ⟨v162, rfl, ho0, hb⟩; refine ⟨_, rfl, ?_⟩; have n0_ := Aside0.mk (rB (by (with_reducible repeat (first | apply rA | apply rN | apply rD)); exact HO148.out) hb); have n1_ := Aside0.mk (rE (by (with_reducible repeat (first | apply rA | apply rN | apply rD)); exact HO153.out) (Kd.R_base ho0) hb); have n2_ := Aside0.mk (rE (by (with_reducible repeat (first | apply rA | apply rN | apply rD)); exact HO158.out) (Kd.R_base ho0) hb); have n3_ := Aside0.mk (rL (rW (rW ho0 (rT (by (with_reducible repeat (first | apply rA | apply rN | apply rD)); exact HO153.out))) (rT (by (with_reducible repeat (first | apply rA | apply rN | apply rD)); exact HO158.out))) (bZ (by repeat (first | (with_reducible first | exact HB.out | apply bA | apply bN | apply bD | refine bS ?_ GE145.out) | exact HB.out)))); have n4_ := Aside0.mk (kB (g := gb145) (o := .cells #[.string (⟨#[]⟩ : ByteArray), .slice none 0 0, .slice none 0 0, .int .i64 0, .int .i64 0, .slice none 0 0] 25 (0, 0)) (by (with_reducible repeat (first | refine kN ?_ _ | refine kD ?_ | refine kA ?_ _)); exact BK145.out) hb); have n5_ := Aside0.mk (bP (by repeat (first | (with_reducible first | exact HB.out | apply bA | apply bN | apply bD | refine bS ?_ GE145.out) | exact HB.out)) hb); clear HO148; clear HO153; clear HO158; clear BK145; clear HB; have HO148 := n0_; have HO153 := n1_; have HO158 := n2_; have HO163 := n3_; have BK145 := n4_; have HB := n5_; clear n0_ n1_ n2_ n3_ n4_ n5_; (try clear hb); (try clear hb2); (try clear hk); (try clear hi); (try clear ho0)))
     (try simp only [Act.put, sI, sZ, sS])
     go_cut [51] (fun v51 wc => ∃ (kq : Nat) (x51_13 : Bool), v51 = .bool x51_13 ∧ Aside0 (spec_l05Read.j0 kq t146 t150 t155 t160 x51_13 = some (r1, r2, r3, r4, r5, r6, r7)) ∧ Aside0 (kq ≤ k) ∧ Aside0 (Kd.R Kd.string 9 wc w.heap.size (fun _ => True) (.slice (some ad149) t146.length co17) t146) ∧ Aside0 (Kd.R (Kd.int .i64) 2 wc w.heap.size (fun k_ => some k_ ≠ (v157 : Value).ownBlock ∧ some k_ ≠ (v162 : Value).ownBlock) v152 t150) ∧ Aside0 (Kd.R (Kd.int .i64) 2 wc w.heap.size (fun k_ => some k_ ≠ (v152 : Value).ownBlock ∧ some k_ ≠ (v162 : Value).ownBlock) v157 t155) ∧ Aside0 (Kd.R (Kd.int .i64) 2 wc w.heap.size (fun k_ => some k_ ≠ (v152 : Value).ownBlock ∧ some k_ ≠ (v157 : Value).ownBlock) v162 t160) ∧ Aside0 (wc.heap[gb145]? = some (.cells #[.string (⟨#[]⟩ : ByteArray), (.slice none 0 0), (.slice none 0 0), .int .i64 0, .int .i64 0, (.slice none 0 0)] 25 (0, 0))) ∧ Aside0 (Below w.heap.size w wc))
     case first =>
      have H := HC14.out
      clear HC14
      by_cases c21 : t151 = true
      ·subst c21
       have H1 : (if t156 = true then (spec_l05Read.j0 k t146 t150 t155 t160 (!t161)) else (spec_l05Read.j0 k t146 t150 t155 t160 true)) = some (r1, r2, r3, r4, r5, r6, r7) := by rw [if_pos rfl] at H; exact H
       clear H
       have H := H1
       clear H1
       by_cases c22 : t156 = true
       ·subst c22
        have H1 : (spec_l05Read.j0 k t146 t150 t155 t160 (!t161)) = some (r1, r2, r3, r4, r5, r6, r7) := by rw [if_pos rfl] at H; exact H
        clear H
        have H := H1
        clear H1
        have H' := Aside0.mk H
        clear H
        go_wp2
        go_meet
        case rel => exact ⟨_, (!t161), (by first | rfl | (simp; done) | (simp [*]; done)), H', ⟨by first | omega | exact Nat.le_refl _⟩, ⟨by (with_reducible repeat (first | apply rA | apply rN | apply rD)); exact HO148.out⟩, ⟨by (with_reducible repeat (first | apply rA | apply rN | apply rD)); exact rM HO153.out (fun _ hk => ⟨hk.1.2, hk.2⟩)⟩, ⟨by (with_reducible repeat (first | apply rA | apply rN | apply rD)); exact rM HO158.out (fun _ hk => ⟨hk.1.2, hk.2⟩)⟩, ⟨by (with_reducible repeat (first | apply rA | apply rN | apply rD)); exact rM HO163.out (fun _ hk => ⟨hk.1.2, hk.2⟩)⟩, ⟨by (with_reducible repeat (first | refine kN ?_ _ | refine kD ?_ | refine kA ?_ _)); exact BK145.out⟩, ⟨by repeat (first | (with_reducible first | exact HB.out | apply bA | apply bN | apply bD | refine bS ?_ GE145.out) | exact HB.out)⟩⟩
       ·replace c22 := Bool.eq_false_iff.mpr c22
        subst c22
        have H1 : (spec_l05Read.j0 k t146 t150 t155 t160 true) = some (r1, r2, r3, r4, r5, r6, r7) := by rw [if_neg (show ¬ (false = true) by decide)] at H; exact H
        clear H
        have H := H1
        clear H1
        have H' := Aside0.mk H
        clear H
        go_wp2
        go_meet
        case rel => exact ⟨_, (true), (by first | rfl | (simp; done) | (simp [*]; done)), H', ⟨by first | omega | exact Nat.le_refl _⟩, ⟨by (with_reducible repeat (first | apply rA | apply rN | apply rD)); exact HO148.out⟩, ⟨by (with_reducible repeat (first | apply rA | apply rN | apply rD)); exact rM HO153.out (fun _ hk => ⟨hk.1.2, hk.2⟩)⟩, ⟨by (with_reducible repeat (first | apply rA | apply rN | apply rD)); exact rM HO158.out (fun _ hk => ⟨hk.1.2, hk.2⟩)⟩, ⟨by (with_reducible repeat (first | apply rA | apply rN | apply rD)); exact rM HO163.out (fun _ hk => ⟨hk.1.2, hk.2⟩)⟩, ⟨by (with_reducible repeat (first | refine kN ?_ _ | refine kD ?_ | refine kA ?_ _)); exact BK145.out⟩, ⟨by repeat (first | (with_reducible first | exact HB.out | apply bA | apply bN | apply bD | refine bS ?_ GE145.out) | exact HB.out)⟩⟩
      ·replace c21 := Bool.eq_false_iff.mpr c21
       subst c21
       have H1 : (spec_l05Read.j0 k t146 t150 t155 t160 true) = some (r1, r2, r3, r4, r5, r6, r7) := by rw [if_neg (show ¬ (false = true) by decide)] at H; exact H
       clear H
       have H := H1
       clear H1
       have H' := Aside0.mk H
       clear H
       go_wp2
       go_meet
       case rel => exact ⟨_, (true), (by first | rfl | (simp; done) | (simp [*]; done)), H', ⟨by first | omega | exact Nat.le_refl _⟩, ⟨by (with_reducible repeat (first | apply rA | apply rN | apply rD)); exact HO148.out⟩, ⟨by (with_reducible repeat (first | apply rA | apply rN | apply rD)); exact rM HO153.out (fun _ hk => ⟨hk.1.2, hk.2⟩)⟩, ⟨by (with_reducible repeat (first | apply rA | apply rN | apply rD)); exact rM HO158.out (fun _ hk => ⟨hk.1.2, hk.2⟩)⟩, ⟨by (with_reducible repeat (first | apply rA | apply rN | apply rD)); exact rM HO163.out (fun _ hk => ⟨hk.1.2, hk.2⟩)⟩, ⟨by (with_reducible repeat (first | refine kN ?_ _ | refine kD ?_ | refine kA ?_ _)); exact BK145.out⟩, ⟨by repeat (first | (with_reducible first | exact HB.out | apply bA | apply bN | apply bD | refine bS ?_ GE145.out) | exact HB.out)⟩⟩
     case rest =>
      clear HC14
      try clear c1
      try clear p1
      try clear q1
      try clear hx1
      try clear qi1
      try clear c2
      try clear p2
      try clear c3
      try clear c3b0
      try clear c3b1
      try clear c8
      try clear c8b0
      try clear c8b1
      try clear c9
      try clear c10
      try clear c10b0
      try clear c10b1
      try clear c12
      try clear c12b0
      try clear c12b1
      try clear p14
      try clear q14
      try clear hx14
      try clear qi14
      try clear p15
      try clear q15
      try clear hx15
      try clear qi15
      try clear c21
      try clear c22
      try clear hcz7_0
      try clear hcz7_1
      try clear hcz7_2
      try clear hcz7_3
      try clear hcz7_4
      try clear hcz7_5
      try clear hfz7_0
      try clear hfz7_1
      try clear hfz7_2
      try clear hfz7_3
      try clear hfz7_4
      try clear hfz7_5
      try clear hx149_0
      try clear hx154_0
      try clear hx159_0
      try clear p149
      try clear p154
      try clear p159
      try clear q149
      try clear q154
      try clear q159
      obtain ⟨kq, x51_13, rfl, HA, HJ13, HO_4, HO_5, HO_7, HO_9, BK145, HB⟩ := hcut
      cases kq with
      | zero => exact absurd HA.out (by simp [spec_l05Read.j0])
      | succ kj13 =>
       have H := HA.out
       clear HA
       simp only [spec_l05Read.j0] at H
       by_cases c23 : x51_13 = true
       ·subst c23
        have H1 : (some ((⟨#[]⟩ : ByteArray), ([] : List Int), ([] : List Int), 0, 0, ([] : List (List Int)), false)) = some (r1, r2, r3, r4, r5, r6, r7) := by rw [if_pos rfl] at H; exact H
        clear H
        have H := H1
        clear H1
        simp only [Option.some.injEq, Prod.mk.injEq] at H
        obtain ⟨rfl, rfl, rfl, rfl, rfl, rfl, rfl⟩ := H
        have hcz24_0 : wc.cell? ⟨gb145, 0, none⟩ = some (.string (⟨#[]⟩ : ByteArray)) := (kC BK145.out 0).trans rfl
        have hcz24_1 : wc.cell? ⟨gb145, 1, none⟩ = some (.slice none 0 0) := (kC BK145.out 1).trans rfl
        have hcz24_2 : wc.cell? ⟨gb145, 2, none⟩ = some (.slice none 0 0) := (kC BK145.out 2).trans rfl
        have hcz24_3 : wc.cell? ⟨gb145, 3, none⟩ = some (.int .i64 0) := (kC BK145.out 3).trans rfl
        have hcz24_4 : wc.cell? ⟨gb145, 4, none⟩ = some (.int .i64 0) := (kC BK145.out 4).trans rfl
        have hcz24_5 : wc.cell? ⟨gb145, 5, none⟩ = some (.slice none 0 0) := (kC BK145.out 5).trans rfl
        have hfz24_0 := blk_frozen BK145.out 0
        have hfz24_1 := blk_frozen BK145.out 1
        have hfz24_2 := blk_frozen BK145.out 2
        have hfz24_3 := blk_frozen BK145.out 3
        have hfz24_4 := blk_frozen BK145.out 4
        have hfz24_5 := blk_frozen BK145.out 5
        go_wp2
        refine bodyPost_ret (results_ct rfl _ _ gb145 25 #[.string (⟨#[]⟩ : ByteArray), .slice none 0 0, .slice none 0 0, .int .i64 0, .int .i64 0, .slice none 0 0] (0, 0) _ rfl (by (with_reducible repeat (first | refine kN ?_ _ | refine kD ?_ | refine kA ?_ _)); refine blk_put (cs := #[.string (⟨#[]⟩ : ByteArray), .slice none 0 0, .slice none 0 0, .int .i64 0, .int .i64 0, .slice none 0 0]) ?_ 5 _ rfl; (with_reducible repeat (first | refine kN ?_ _ | refine kD ?_ | refine kA ?_ _)); refine blk_put (cs := #[.string (⟨#[]⟩ : ByteArray), .slice none 0 0, .slice none 0 0, .int .i64 0, .int .i64 0, .slice none 0 0]) ?_ 4 _ rfl; (with_reducible repeat (first | refine kN ?_ _ | refine kD ?_ | refine kA ?_ _)); refine blk_put (cs := #[.string (⟨#[]⟩ : ByteArray), .slice none 0 0, .slice none 0 0, .int .i64 0, .int .i64 0, .slice none 0 0]) ?_ 3 _ rfl; (with_reducible repeat (first | refine kN ?_ _ | refine kD ?_ | refine kA ?_ _)); refine blk_put (cs := #[.string (⟨#[]⟩ : ByteArray), .slice none 0 0, .slice none 0 0, .int .i64 0, .int .i64 0, .slice none 0 0]) ?_ 2 _ rfl; (with_reducible repeat (first | refine kN ?_ _ | refine kD ?_ | refine kA ?_ _)); refine blk_put (cs := #[.string (⟨#[]⟩ : ByteArray), .slice none 0 0, .slice none 0 0, .int .i64 0, .int .i64 0, .slice none 0 0]) ?_ 1 _ rfl; (with_reducible repeat (first | refine kN ?_ _ | refine kD ?_ | refine kA ?_ _)); refine blk_put (cs := #[.string (⟨#[]⟩ : ByteArray), .slice none 0 0, .slice none 0 0, .int .i64 0, .int .i64 0, .slice none 0 0]) ?_ 0 _ rfl; (with_reducible repeat (first | refine kN ?_ _ | refine kD ?_ | refine kA ?_ _)); exact BK145.out) Tryd.underlying25 rfl (by kernel_rfl)) rfl ?_
        exact ⟨_, _, _, by first | rfl | (simp [errW_none, errW_some] <;> rfl) | (simp [*, errW_none, errW_some] <;> rfl), by first | exact Kd.R_nil _ _ _ _ _ | exact Kd.N_nil _ _ _ _ _ | exact Kd.V_nil _ _ _ _ _ | exact Kd.Q_nil _ _ _ _ _ | exact Kd.S_nil _ _ _ _ _, by first | exact Kd.R_nil _ _ _ _ _ | exact Kd.N_nil _ _ _ _ _ | exact Kd.V_nil _ _ _ _ _ | exact Kd.Q_nil _ _ _ _ _ | exact Kd.S_nil _ _ _ _ _, by first | exact Kd.S_nil _ _ _ _ _ | exact Kd.N_nil _ _ _ _ _ | exact Kd.V_nil _ _ _ _ _ | exact Kd.Q_nil _ _ _ _ _ | exact Kd.R_nil _ _ _ _ _, by repeat (first | (with_reducible first | exact HB.out | apply bA | apply bN | apply bD | refine bS ?_ GE145.out) | exact HB.out)⟩
       ·replace c23 := Bool.eq_false_iff.mpr c23
        subst c23
        have H1 : (if 0 < (t146.length : Int) then (if 0 < (t160.length : Int) then (if 1 < (t160.length : Int) then (spec_l05Read.l0 kj13 t146 4 (rdOf ByteArray.empty t146 0) t150 t155 (rd t160 0) (rd t160 1) ([] : List (List Int))) else (none)) else (none)) else (none)) = some (r1, r2, r3, r4, r5, r6, r7) := by rw [if_neg (show ¬ (false = true) by decide)] at H; exact H
        clear H
        have H := H1
        clear H1
        by_cases c25 : 0 < (t146.length : Int)
        ·rw [if_pos c25] at H
         have c25b0 : decide (0 < (t146.length : Int)) = true := decide_eq_true c25
         have c25b1 : decide (0 < t146.length) = true := decide_eq_true (by omega)
         clear c25
         by_cases c26 : 0 < (t160.length : Int)
         ·rw [if_pos c26] at H
          have c26b0 : decide (0 < (t160.length : Int)) = true := decide_eq_true c26
          have c26b1 : decide (0 < t160.length) = true := decide_eq_true (by omega)
          clear c26
          by_cases c27 : 1 < (t160.length : Int)
          ·rw [if_pos c27] at H
           have c27b0 : decide (1 < (t160.length : Int)) = true := decide_eq_true c27
           have c27b1 : decide (1 < t160.length) = true := decide_eq_true (by omega)
           clear c27
           have H' := Aside0.mk H
           clear H
           try go_wp2
           have n0_ := Aside0.mk (rD HO_4.out)
           have n1_ := Aside0.mk (rD HO_5.out)
           have n2_ := Aside0.mk (rD HO_7.out)
           have n3_ := Aside0.mk (rD HO_9.out)
           have n4_ := Aside0.mk (kD BK145.out)
           have n5_ := Aside0.mk (bD HB.out)
           clear HO_4
           clear HO_5
           clear HO_7
           clear HO_9
           clear BK145
           clear HB
           have HO_4 := n0_
           have HO_5 := n1_
           have HO_7 := n2_
           have HO_9 := n3_
           have BK145 := n4_
           have HB := n5_
           clear n0_ n1_ n2_ n3_ n4_ n5_
           have p164 : 0 ≤ (0 : Int) := (by omega)
           have q164 : 0 < (t146.length : Int) := of_decide_eq_true (by first | (with_reducible assumption) | assumption)
           obtain ⟨ad164, e164, hx164_0⟩ := Kd.at_string (Kd.R_reads' HO_4.out).2.2 0 p164 q164
           obtain rfl : ad149 = ad164 := (by injection e164)
           have qi164 : (0 < t146.length) = True := eq_true (by omega)
           (try rw [show ((0 : Int)).toNat = 0 from rfl] at hx164_0)
           (try rw [Addr.add_zero'] at hx164_0)
           replace p164 := eq_true p164
           replace q164 := eq_true q164
           obtain ⟨Ao29, co29, eo29⟩ := Kd.R_slice HO_9.out
           (first | subst eo29 | (injection eo29 with f1_ f2_ f3_; have f4_ := f1_.symm; have f5_ := f3_.symm; clear f1_ f2_ f3_; subst f4_; subst f5_))
           have p165 : 0 ≤ (0 : Int) := (by omega)
           have q165 : 0 < (t160.length : Int) := of_decide_eq_true (by first | (with_reducible assumption) | assumption)
           obtain ⟨ad165, e165, hx165_0⟩ := Kd.at_int (Kd.R_reads' HO_9.out).2.2 0 p165 q165
           cases e165
           have qi165 : (0 < t160.length) = True := eq_true (by omega)
           (try rw [show ((0 : Int)).toNat = 0 from rfl] at hx165_0)
           (try rw [Addr.add_zero'] at hx165_0)
           replace p165 := eq_true p165
           replace q165 := eq_true q165
           have p166 : 0 ≤ (1 : Int) := (by omega)
           have q166 : 1 < (t160.length : Int) := of_decide_eq_true (by first | (with_reducible assumption) | assumption)
           obtain ⟨ad166, e166, hx166_0⟩ := Kd.at_int (Kd.R_reads' HO_9.out).2.2 1 p166 q166
           obtain rfl : ad165 = ad166 := (by injection e166)
           (try simp only [show (1 : Int).toNat = 1 from rfl, Nat.reduceMul, Nat.reduceEqDiff, Go.Addr.add, ↓reduceIte] at hx166_0)
           have qi166 : (1 < t160.length) = True := eq_true (by omega)
           (try rw [show ((1 : Int)).toNat = 1 from rfl] at hx166_0)
           replace p166 := eq_true p166
           replace q166 := eq_true q166
           obtain ⟨Ao30, co30, eo30⟩ := Kd.R_slice HO_7.out
           (first | subst eo30 | (injection eo30 with f1_ f2_ f3_; have f4_ := f1_.symm; have f5_ := f3_.symm; clear f1_ f2_ f3_; subst f4_; subst f5_))
           obtain ⟨Ao31, co31, eo31⟩ := Kd.R_slice HO_5.out
           (first | subst eo31 | (injection eo31 with f1_ f2_ f3_; have f4_ := f1_.symm; have f5_ := f3_.symm; clear f1_ f2_ f3_; subst f4_; subst f5_))
           refine start_ (n := 14) (S := fun w' => w'.cell? ad149 = some (.string (rdOf ByteArray.empty t146 0)) ∧ w'.cell? ad165 = some (.int .i64 (rd t160 0)) ∧ w'.cell? ⟨ad165.block, ad165.off + 1, none⟩ = some (.int .i64 (rd t160 1))) (ds := []) #[F,F,F,F,F,F,F,F,F,F,F,F,F,F] (by kernel_rfl) rfl rfl ⟨hx164_0, hx165_0, hx166_0⟩ (fun hHeld => ?_); refine with_tabW spec_l05Read.tab9 spec_l05Read.bits9 (fun HT_ HW_ => ?_)
           generalize wc.drew = w28 at HO_4 HO_5 HO_7 HO_9 BK145 HB hx164_0 hx165_0 hx166_0 hHeld ⊢
           refine pure_ (i := 0) (N := some 53) (v := ?_) (a' := ?_) #[T,F,F,F,F,F,F,F,F,F,F,F,F,F] rfl rfl (any_of HT_.out (by kernel_rfl)) (fun _ _ _ h => h) (Or.inl ⟨by rfl, ?_⟩) ?_ ?_; rotate_left; (·intro w'; go_simp; with_reducible rfl); rotate_left; (·simp only [Act.put, sI, sZ, sS, iW, jW]; rfl)
           refine pure_ (i := 1) (N := some 54) (v := ?_) (a' := ?_) #[T,T,F,F,F,F,F,F,F,F,F,F,F,F] rfl rfl (any_of HT_.out (by kernel_rfl)) (fun _ _ _ h => h) (Or.inl ⟨by rfl, ?_⟩) ?_ ?_; rotate_left; (·intro w'; go_simp; with_reducible rfl); rotate_left; (·simp only [Act.put, sI, sZ, sS, iW, jW]; rfl)
           refine pure_ (i := 3) (N := some 56) (v := ?_) (a' := ?_) #[T,T,F,T,F,F,F,F,F,F,F,F,F,F] rfl rfl (any_of HT_.out (by kernel_rfl)) (fun _ _ _ h => h) (Or.inl ⟨by rfl, ?_⟩) ?_ ?_; rotate_left; (·intro w'; go_simp; with_reducible rfl); rotate_left; (·simp only [Act.put, sI, sZ, sS, iW, jW]; rfl)
           refine pure_ (i := 4) (N := some 57) (v := ?_) (a' := ?_) #[T,T,F,T,T,F,F,F,F,F,F,F,F,F] rfl rfl (any_of HT_.out (by kernel_rfl)) (fun _ _ _ h => h) (Or.inl ⟨by rfl, ?_⟩) ?_ ?_; rotate_left; (·intro w'; go_simp; with_reducible rfl); rotate_left; (·simp only [Act.put, sI, sZ, sS, iW, jW]; rfl)
           refine pure_ (i := 5) (N := some 58) (v := ?_) (a' := ?_) #[T,T,F,T,T,T,F,F,F,F,F,F,F,F] rfl rfl (any_of HT_.out (by kernel_rfl)) (fun _ _ _ h => h) (Or.inl ⟨by rfl, ?_⟩) ?_ ?_; rotate_left; (·intro w'; go_simp; with_reducible rfl); rotate_left; (·simp only [Act.put, sI, sZ, sS, iW, jW]; rfl)
           refine pure_ (i := 6) (N := some 59) (v := ?_) (a' := ?_) #[T,T,F,T,T,T,T,F,F,F,F,F,F,F] rfl rfl (any_of HT_.out (by kernel_rfl)) (fun _ _ _ h => h) (Or.inl ⟨by rfl, ?_⟩) ?_ ?_; rotate_left; (·intro w'; go_simp; with_reducible rfl); rotate_left; (·simp only [Act.put, sI, sZ, sS, iW, jW]; rfl)
           refine pure_ (i := 8) (N := some 61) (v := ?_) (a' := ?_) #[T,T,F,T,T,T,T,F,T,F,F,F,F,F] rfl rfl (any_of HT_.out (by kernel_rfl)) (fun _ _ _ h => h) (Or.inl ⟨by rfl, ?_⟩) ?_ ?_; rotate_left; (·intro w'; go_simp; with_reducible rfl); rotate_left; (·simp only [Act.put, sI, sZ, sS, iW, jW]; rfl)
           refine pure_ (i := 9) (N := some 62) (v := ?_) (a' := ?_) #[T,T,F,T,T,T,T,F,T,T,F,F,F,F] rfl rfl (any_of HT_.out (by kernel_rfl)) (fun _ _ _ h => h) (Or.inl ⟨by rfl, ?_⟩) ?_ ?_; rotate_left; (·intro w'; go_simp; with_reducible rfl); rotate_left; (·simp only [Act.put, sI, sZ, sS, iW, jW]; rfl)
           refine take_ (i := 2) (N := some 55) (v := ?_) (a' := ?_) #[T,T,T,T,T,T,T,F,T,T,F,F,F,F] rfl rfl (tW HT_.out HW_.out (by kernel_rfl)) (fun _ _ _ h => h) (Or.inl ⟨by rfl, ?_⟩) hHeld ?_ ?_; rotate_left; (·rintro w' ⟨s0, s1, s2⟩; go_simp; with_reducible rfl); rotate_left; (·simp only [Act.put, sI, sZ, sS, iW, jW]; rfl)
           refine take_ (i := 7) (N := some 60) (v := ?_) (a' := ?_) #[T,T,T,T,T,T,T,T,T,T,F,F,F,F] rfl rfl (tW HT_.out HW_.out (by kernel_rfl)) (fun _ _ _ h => h) (Or.inl ⟨by rfl, ?_⟩) hHeld ?_ ?_; rotate_left; (·rintro w' ⟨s0, s1, s2⟩; go_simp; with_reducible rfl); rotate_left; (·simp only [Act.put, sI, sZ, sS, iW, jW]; rfl)
           refine take_ (i := 10) (N := some 63) (v := ?_) (a' := ?_) #[T,T,T,T,T,T,T,T,T,T,T,F,F,F] rfl rfl (tW HT_.out HW_.out (by kernel_rfl)) (fun _ _ _ h => h) (Or.inl ⟨by rfl, ?_⟩) hHeld ?_ ?_; rotate_left; (·rintro w' ⟨s0, s1, s2⟩; go_simp; with_reducible rfl); rotate_left; (·simp only [Act.put, sI, sZ, sS, iW, jW]; rfl)
           refine pure_ (i := 11) (N := some 64) (v := ?_) (a' := ?_) #[T,T,T,T,T,T,T,T,T,T,T,T,F,F] rfl rfl (any_of HT_.out (by kernel_rfl)) (fun _ _ _ h => h) (Or.inl ⟨by rfl, ?_⟩) ?_ ?_; rotate_left; (·intro w'; go_simp; with_reducible rfl); rotate_left; (·simp only [Act.put, sI, sZ, sS, iW, jW]; rfl)
           refine one_ (i := 12) (N := some 11) #[T,T,T,T,T,T,T,T,T,T,T,T,T,F] rfl rfl (oO HT_.out (by kernel_rfl)) (by decide) (fun K hK => ?_)
           refine box_step ?hg (N := 11) ?hd (cs := #[.string (⟨#[]⟩ : ByteArray), .slice none 0 0, .slice none 0 0, .int .i64 0, .int .i64 0, .slice none 0 0]) (t := 25) ?hr ?_; (case hd => rfl); (case hg => rfl); (case hr => first | (go_simp; done) | (go_simp; rfl))
           intro gb167 hg w32 hbox hb
           have HS0_ := (hb.cell (World.block_lt_of_cell? _ _ (hHeld.1))).trans (hHeld.1)
           have HS1_ := (hb.cell (World.block_lt_of_cell? _ _ (hHeld.2.1))).trans (hHeld.2.1)
           have HS2_ := (hb.cell (World.block_lt_of_cell? _ _ (hHeld.2.2))).trans (hHeld.2.2)
           have n0_ := Aside0.mk (rB (by (with_reducible repeat (first | apply rA | apply rN | apply rD)); exact HO_4.out) hb)
           have n1_ := Aside0.mk (rB (by (with_reducible repeat (first | apply rA | apply rN | apply rD)); exact HO_5.out) hb)
           have n2_ := Aside0.mk (rB (by (with_reducible repeat (first | apply rA | apply rN | apply rD)); exact HO_7.out) hb)
           have n3_ := Aside0.mk (rB (by (with_reducible repeat (first | apply rA | apply rN | apply rD)); exact HO_9.out) hb)
           have n4_ := Aside0.mk (kB (g := gb145) (o := .cells #[.string (⟨#[]⟩ : ByteArray), .slice none 0 0, .slice none 0 0, .int .i64 0, .int .i64 0, .slice none 0 0] 25 (0, 0)) (by (with_reducible repeat (first | refine kN ?_ _ | refine kD ?_ | refine kA ?_ _)); exact BK145.out) hb)
           have n5_ := Aside0.mk (bP (by repeat (first | (with_reducible first | exact HB.out | apply bA | apply bN | apply bD | refine bS ?_ GE145.out) | exact HB.out)) hb)
           have n6_ := Aside0.mk (hbox)
           have n7_ := Aside0.mk ((by rw [hg]; exact (bZ (by repeat (first | (with_reducible first | exact HB.out | apply bA | apply bN | apply bD | refine bS ?_ GE145.out) | exact HB.out))) : w.heap.size ≤ gb167))
           have n8_ := Aside0.mk ((by rw [hg]; exact (bZ (by repeat (first | (with_reducible first | exact HB.out | apply bA | apply bN | apply bD | refine bS ?_ GE145.out) | exact HB.out))) : w.heap.size ≤ gb167))
           have n9_ := Aside0.mk ((by rw [hg]; exact Nat.ne_of_lt (kL (g := gb145) (o := .cells #[.string (⟨#[]⟩ : ByteArray), .slice none 0 0, .slice none 0 0, .int .i64 0, .int .i64 0, .slice none 0 0] 25 (0, 0)) (by (with_reducible repeat (first | refine kN ?_ _ | refine kD ?_ | refine kA ?_ _)); exact BK145.out)) : gb145 ≠ gb167))
           have n10_ := Aside0.mk ((by rw [hg]; exact Nat.ne_of_gt (kL (g := gb145) (o := .cells #[.string (⟨#[]⟩ : ByteArray), .slice none 0 0, .slice none 0 0, .int .i64 0, .int .i64 0, .slice none 0 0] 25 (0, 0)) (by (with_reducible repeat (first | refine kN ?_ _ | refine kD ?_ | refine kA ?_ _)); exact BK145.out)) : gb167 ≠ gb145))
           clear HO_4
           clear HO_5
           clear HO_7
           clear HO_9
           clear BK145
           clear HB
           have HO_4 := n0_
           have HO_5 := n1_
           have HO_7 := n2_
           have HO_9 := n3_
           have BK145 := n4_
           have HB := n5_
           have BK167 := n6_
           have GW167 := n7_
           have GE167 := n8_
           have NB145_167 := n9_
           have NB167_145 := n10_
           clear n0_ n1_ n2_ n3_ n4_ n5_ n6_ n7_ n8_ n9_ n10_
           clear hb hbox hg
           refine hK.out _ _ ⟨HS0_, HS1_, HS2_⟩ (fun hHeld => ?_)
           clear hK K
           refine norm_ (a' := ?_) ?_ ?_
           rotate_left
           ·show Act.put _ (some 11) _ = _
            simp only [Act.put, sI, sZ, sS, iW, jW]
            rfl
           refine one_ (i := 13) (N := none) #[T,T,T,T,T,T,T,T,T,T,T,T,T,T] rfl rfl (oO HT_.out (by kernel_rfl)) (by decide) (fun K hK => ?_)
           have hs33 : w32.cell? ⟨gb167, 0, none⟩ = some (.string (⟨#[]⟩ : ByteArray)) := (kC BK167.out 0).trans rfl
           have hfs33 := blk_frozen BK167.out 0
           have hns33_0 := NB145_167.out
           have hms33_0 := NB167_145.out
           have hs34 : w32.cell? ⟨gb167, 1, none⟩ = some (.slice none 0 0) := (kC BK167.out 1).trans rfl
           have hfs34 := blk_frozen BK167.out 1
           have hns34_0 := NB145_167.out
           have hms34_0 := NB167_145.out
           have hs35 : w32.cell? ⟨gb167, 2, none⟩ = some (.slice none 0 0) := (kC BK167.out 2).trans rfl
           have hfs35 := blk_frozen BK167.out 2
           have hns35_0 := NB145_167.out
           have hms35_0 := NB167_145.out
           have hs36 : w32.cell? ⟨gb167, 3, none⟩ = some (.int .i64 0) := (kC BK167.out 3).trans rfl
           have hfs36 := blk_frozen BK167.out 3
           have hns36_0 := NB145_167.out
           have hms36_0 := NB167_145.out
           have hs37 : w32.cell? ⟨gb167, 4, none⟩ = some (.int .i64 0) := (kC BK167.out 4).trans rfl
           have hfs37 := blk_frozen BK167.out 4
           have hns37_0 := NB145_167.out
           have hms37_0 := NB167_145.out
           have hs38 : w32.cell? ⟨gb167, 5, none⟩ = some (.slice none 0 0) := (kC BK167.out 5).trans rfl
           have hfs38 := blk_frozen BK167.out 5
           have hns38_0 := NB145_167.out
           have hms38_0 := NB167_145.out
           refine skip_ (w1 := ?_) (by rfl) rfl ?_ ?_
           rotate_left
           ·go_simp
            rfl
           refine hK.out _ _ ⟨ (by refine (cell_far (p := ⟨gb167, _, none⟩) (by first | ((try rw [add_block]); (try dsimp only); exact Kd.own_blk (Kd.R_ne HO_4.out BK167.out (by decide))) | exact Kd.own_blk (Kd.R_ne HO_4.out BK167.out (by decide)) | (show (Addr.add _ _).block ≠ _; rw [add_block]; exact Kd.own_blk (Kd.R_ne HO_4.out BK167.out (by decide))) | (dsimp only; exact Kd.own_blk (Kd.R_ne HO_4.out BK167.out (by decide)))) _).trans ?_; refine (cell_far (p := ⟨gb167, _, none⟩) (by first | ((try rw [add_block]); (try dsimp only); exact Kd.own_blk (Kd.R_ne HO_4.out BK167.out (by decide))) | exact Kd.own_blk (Kd.R_ne HO_4.out BK167.out (by decide)) | (show (Addr.add _ _).block ≠ _; rw [add_block]; exact Kd.own_blk (Kd.R_ne HO_4.out BK167.out (by decide))) | (dsimp only; exact Kd.own_blk (Kd.R_ne HO_4.out BK167.out (by decide)))) _).trans ?_; refine (cell_far (p := ⟨gb167, _, none⟩) (by first | ((try rw [add_block]); (try dsimp only); exact Kd.own_blk (Kd.R_ne HO_4.out BK167.out (by decide))) | exact Kd.own_blk (Kd.R_ne HO_4.out BK167.out (by decide)) | (show (Addr.add _ _).block ≠ _; rw [add_block]; exact Kd.own_blk (Kd.R_ne HO_4.out BK167.out (by decide))) | (dsimp only; exact Kd.own_blk (Kd.R_ne HO_4.out BK167.out (by decide)))) _).trans ?_; refine (cell_far (p := ⟨gb167, _, none⟩) (by first | ((try rw [add_block]); (try dsimp only); exact Kd.own_blk (Kd.R_ne HO_4.out BK167.out (by decide))) | exact Kd.own_blk (Kd.R_ne HO_4.out BK167.out (by decide)) | (show (Addr.add _ _).block ≠ _; rw [add_block]; exact Kd.own_blk (Kd.R_ne HO_4.out BK167.out (by decide))) | (dsimp only; exact Kd.own_blk (Kd.R_ne HO_4.out BK167.out (by decide)))) _).trans ?_; refine (cell_far (p := ⟨gb167, _, none⟩) (by first | ((try rw [add_block]); (try dsimp only); exact Kd.own_blk (Kd.R_ne HO_4.out BK167.out (by decide))) | exact Kd.own_blk (Kd.R_ne HO_4.out BK167.out (by decide)) | (show (Addr.add _ _).block ≠ _; rw [add_block]; exact Kd.own_blk (Kd.R_ne HO_4.out BK167.out (by decide))) | (dsimp only; exact Kd.own_blk (Kd.R_ne HO_4.out BK167.out (by decide)))) _).trans ?_; refine (cell_far (p := ⟨gb167, _, none⟩) (by first | ((try rw [add_block]); (try dsimp only); exact Kd.own_blk (Kd.R_ne HO_4.out BK167.out (by decide))) | exact Kd.own_blk (Kd.R_ne HO_4.out BK167.out (by decide)) | (show (Addr.add _ _).block ≠ _; rw [add_block]; exact Kd.own_blk (Kd.R_ne HO_4.out BK167.out (by decide))) | (dsimp only; exact Kd.own_blk (Kd.R_ne HO_4.out BK167.out (by decide)))) _).trans ?_; exact hHeld.1), (by refine (cell_far (p := ⟨gb167, _, none⟩) (by first | ((try rw [add_block]); (try dsimp only); exact Kd.own_blk (Kd.R_ne HO_9.out BK167.out (by decide))) | exact Kd.own_blk (Kd.R_ne HO_9.out BK167.out (by decide)) | (show (Addr.add _ _).block ≠ _; rw [add_block]; exact Kd.own_blk (Kd.R_ne HO_9.out BK167.out (by decide))) | (dsimp only; exact Kd.own_blk (Kd.R_ne HO_9.out BK167.out (by decide)))) _).trans ?_; refine (cell_far (p := ⟨gb167, _, none⟩) (by first | ((try rw [add_block]); (try dsimp only); exact Kd.own_blk (Kd.R_ne HO_9.out BK167.out (by decide))) | exact Kd.own_blk (Kd.R_ne HO_9.out BK167.out (by decide)) | (show (Addr.add _ _).block ≠ _; rw [add_block]; exact Kd.own_blk (Kd.R_ne HO_9.out BK167.out (by decide))) | (dsimp only; exact Kd.own_blk (Kd.R_ne HO_9.out BK167.out (by decide)))) _).trans ?_; refine (cell_far (p := ⟨gb167, _, none⟩) (by first | ((try rw [add_block]); (try dsimp only); exact Kd.own_blk (Kd.R_ne HO_9.out BK167.out (by decide))) | exact Kd.own_blk (Kd.R_ne HO_9.out BK167.out (by decide)) | (show (Addr.add _ _).block ≠ _; rw [add_block]; exact Kd.own_blk (Kd.R_ne HO_9.out BK167.out (by decide))) | (dsimp only; exact Kd.own_blk (Kd.R_ne HO_9.out BK167.out (by decide)))) _).trans ?_; refine (cell_far (p := ⟨gb167, _, none⟩) (by first | ((try rw [add_block]); (try dsimp only); exact Kd.own_blk (Kd.R_ne HO_9.out BK167.out (by decide))) | exact Kd.own_blk (Kd.R_ne HO_9.out BK167.out (by decide)) | (show (Addr.add _ _).block ≠ _; rw [add_block]; exact Kd.own_blk (Kd.R_ne HO_9.out BK167.out (by decide))) | (dsimp only; exact Kd.own_blk (Kd.R_ne HO_9.out BK167.out (by decide)))) _).trans ?_; refine (cell_far (p := ⟨gb167, _, none⟩) (by first | ((try rw [add_block]); (try dsimp only); exact Kd.own_blk (Kd.R_ne HO_9.out BK167.out (by decide))) | exact Kd.own_blk (Kd.R_ne HO_9.out BK167.out (by decide)) | (show (Addr.add _ _).block ≠ _; rw [add_block]; exact Kd.own_blk (Kd.R_ne HO_9.out BK167.out (by decide))) | (dsimp only; exact Kd.own_blk (Kd.R_ne HO_9.out BK167.out (by decide)))) _).trans ?_; refine (cell_far (p := ⟨gb167, _, none⟩) (by first | ((try rw [add_block]); (try dsimp only); exact Kd.own_blk (Kd.R_ne HO_9.out BK167.out (by decide))) | exact Kd.own_blk (Kd.R_ne HO_9.out BK167.out (by decide)) | (show (Addr.add _ _).block ≠ _; rw [add_block]; exact Kd.own_blk (Kd.R_ne HO_9.out BK167.out (by decide))) | (dsimp only; exact Kd.own_blk (Kd.R_ne HO_9.out BK167.out (by decide)))) _).trans ?_; exact hHeld.2.1), (by refine (cell_far (p := ⟨gb167, _, none⟩) (by first | ((try rw [add_block]); (try dsimp only); exact Kd.own_blk (Kd.R_ne HO_9.out BK167.out (by decide))) | exact Kd.own_blk (Kd.R_ne HO_9.out BK167.out (by decide)) | (show (Addr.add _ _).block ≠ _; rw [add_block]; exact Kd.own_blk (Kd.R_ne HO_9.out BK167.out (by decide))) | (dsimp only; exact Kd.own_blk (Kd.R_ne HO_9.out BK167.out (by decide)))) _).trans ?_; refine (cell_far (p := ⟨gb167, _, none⟩) (by first | ((try rw [add_block]); (try dsimp only); exact Kd.own_blk (Kd.R_ne HO_9.out BK167.out (by decide))) | exact Kd.own_blk (Kd.R_ne HO_9.out BK167.out (by decide)) | (show (Addr.add _ _).block ≠ _; rw [add_block]; exact Kd.own_blk (Kd.R_ne HO_9.out BK167.out (by decide))) | (dsimp only; exact Kd.own_blk (Kd.R_ne HO_9.out BK167.out (by decide)))) _).trans ?_; refine (cell_far (p := ⟨gb167, _, none⟩) (by first | ((try rw [add_block]); (try dsimp only); exact Kd.own_blk (Kd.R_ne HO_9.out BK167.out (by decide))) | exact Kd.own_blk (Kd.R_ne HO_9.out BK167.out (by decide)) | (show (Addr.add _ _).block ≠ _; rw [add_block]; exact Kd.own_blk (Kd.R_ne HO_9.out BK167.out (by decide))) | (dsimp only; exact Kd.own_blk (Kd.R_ne HO_9.out BK167.out (by decide)))) _).trans ?_; refine (cell_far (p := ⟨gb167, _, none⟩) (by first | ((try rw [add_block]); (try dsimp only); exact Kd.own_blk (Kd.R_ne HO_9.out BK167.out (by decide))) | exact Kd.own_blk (Kd.R_ne HO_9.out BK167.out (by decide)) | (show (Addr.add _ _).block ≠ _; rw [add_block]; exact Kd.own_blk (Kd.R_ne HO_9.out BK167.out (by decide))) | (dsimp only; exact Kd.own_blk (Kd.R_ne HO_9.out BK167.out (by decide)))) _).trans ?_; refine (cell_far (p := ⟨gb167, _, none⟩) (by first | ((try rw [add_block]); (try dsimp only); exact Kd.own_blk (Kd.R_ne HO_9.out BK167.out (by decide))) | exact Kd.own_blk (Kd.R_ne HO_9.out BK167.out (by decide)) | (show (Addr.add _ _).block ≠ _; rw [add_block]; exact Kd.own_blk (Kd.R_ne HO_9.out BK167.out (by decide))) | (dsimp only; exact Kd.own_blk (Kd.R_ne HO_9.out BK167.out (by decide)))) _).trans ?_; refine (cell_far (p := ⟨gb167, _, none⟩) (by first | ((try rw [add_block]); (try dsimp only); exact Kd.own_blk (Kd.R_ne HO_9.out BK167.out (by decide))) | exact Kd.own_blk (Kd.R_ne HO_9.out BK167.out (by decide)) | (show (Addr.add _ _).block ≠ _; rw [add_block]; exact Kd.own_blk (Kd.R_ne HO_9.out BK167.out (by decide))) | (dsimp only; exact Kd.own_blk (Kd.R_ne HO_9.out BK167.out (by decide)))) _).trans ?_; exact hHeld.2.2)⟩ (fun hHeld => ?_)
           clear hK K
           refine done_ (done_of HT_.out (by kernel_rfl)) ?_
           try go_wp2
           go_loopg [12] kj13 (fun kq v12 w' => ∃ (x12_2 : Int) (x146000_2 : ByteArray) (x146003_2 : Int) (x146004_2 : Int) (x168005_2 : List (List Int)) (u168005 : Value), v12 = .int .i64 x12_2 ∧ Aside0 (spec_l05Read.l0 kq t146 x12_2 (rdOf ByteArray.empty t146 0) t150 t155 (rd t160 0) (rd t160 1) x168005_2 = some (r1, r2, r3, r4, r5, r6, r7)) ∧ Aside0 (kq ≤ kj13) ∧ Aside0 (Kd.R Kd.string 9 w' w.heap.size (fun _ => True) (.slice (some ad149) t146.length co17) t146) ∧ Aside0 (Kd.R (Kd.int .i64) 2 w' w.heap.size (fun k_ => some k_ ≠ ((.slice Ao30 t155.length co30) : Value).ownBlock) (.slice Ao31 t150.length co31) t150) ∧ Aside0 (Kd.R (Kd.int .i64) 2 w' w.heap.size (fun k_ => some k_ ≠ ((.slice Ao31 t150.length co31) : Value).ownBlock) (.slice Ao30 t155.length co30) t155) ∧ Aside0 (Kd.S (Kd.slice 2 (Kd.int .i64)) 22 w' w.heap.size (fun k_ => some k_ ≠ ((.slice Ao31 t150.length co31) : Value).ownBlock ∧ some k_ ≠ ((.slice Ao30 t155.length co30) : Value).ownBlock) u168005 x168005_2) ∧ Aside0 (w'.heap[gb145]? = some (.cells #[.string x146000_2, (.slice none 0 0), (.slice none 0 0), .int .i64 x146003_2, .int .i64 x146004_2, (.slice none 0 0)] 25 (0, 0))) ∧ Aside0 (w'.heap[gb167]? = some (.cells #[.string (rdOf ByteArray.empty t146 0), (.slice Ao31 t150.length co31), (.slice Ao30 t155.length co30), .int .i64 (rd t160 0), .int .i64 (rd t160 1), u168005] 25 (0, 0))) ∧ Aside0 (Below w.heap.size w w'))
           case atStart => exact ⟨(4), ((⟨#[]⟩ : ByteArray)), (0), (0), (([] : List (List Int))), (.slice none 0 0), (by first | rfl | (simp; done) | (simp [*]; done)), H', ⟨Nat.le_refl _⟩, ⟨by (with_reducible repeat (first | apply rA | apply rN | apply rD)); exact rM (Kd.R_far (p := ⟨gb167, 5, none⟩) (Kd.R_far (p := ⟨gb167, 4, none⟩) (Kd.R_far (p := ⟨gb167, 3, none⟩) (Kd.R_far (p := ⟨gb167, 2, none⟩) (Kd.R_far (p := ⟨gb167, 1, none⟩) (Kd.R_far (p := ⟨gb167, 0, none⟩) (Kd.R_types HO_4.out BK167.out (by decide)) (fun _ hk => hk.2) (.string (rdOf ByteArray.empty t146 0))) (fun _ hk => hk.2) (.slice Ao31 t150.length co31)) (fun _ hk => hk.2) (.slice Ao30 t155.length co30)) (fun _ hk => hk.2) (.int .i64 (rd t160 0))) (fun _ hk => hk.2) (.int .i64 (rd t160 1))) (fun _ hk => hk.2) (.slice none 0 0)) (fun _ hk => trivial)⟩, ⟨by (with_reducible repeat (first | apply rA | apply rN | apply rD)); exact rM (Kd.R_far (p := ⟨gb167, 5, none⟩) (Kd.R_far (p := ⟨gb167, 4, none⟩) (Kd.R_far (p := ⟨gb167, 3, none⟩) (Kd.R_far (p := ⟨gb167, 2, none⟩) (Kd.R_far (p := ⟨gb167, 1, none⟩) (Kd.R_far (p := ⟨gb167, 0, none⟩) (Kd.R_types HO_5.out BK167.out (by decide)) (fun _ hk => hk.2) (.string (rdOf ByteArray.empty t146 0))) (fun _ hk => hk.2) (.slice Ao31 t150.length co31)) (fun _ hk => hk.2) (.slice Ao30 t155.length co30)) (fun _ hk => hk.2) (.int .i64 (rd t160 0))) (fun _ hk => hk.2) (.int .i64 (rd t160 1))) (fun _ hk => hk.2) (.slice none 0 0)) (fun _ hk => hk.1.1)⟩, ⟨by (with_reducible repeat (first | apply rA | apply rN | apply rD)); exact rM (Kd.R_far (p := ⟨gb167, 5, none⟩) (Kd.R_far (p := ⟨gb167, 4, none⟩) (Kd.R_far (p := ⟨gb167, 3, none⟩) (Kd.R_far (p := ⟨gb167, 2, none⟩) (Kd.R_far (p := ⟨gb167, 1, none⟩) (Kd.R_far (p := ⟨gb167, 0, none⟩) (Kd.R_types HO_7.out BK167.out (by decide)) (fun _ hk => hk.2) (.string (rdOf ByteArray.empty t146 0))) (fun _ hk => hk.2) (.slice Ao31 t150.length co31)) (fun _ hk => hk.2) (.slice Ao30 t155.length co30)) (fun _ hk => hk.2) (.int .i64 (rd t160 0))) (fun _ hk => hk.2) (.int .i64 (rd t160 1))) (fun _ hk => hk.2) (.slice none 0 0)) (fun _ hk => hk.1.1)⟩, ⟨by first | exact Kd.S_nil _ _ _ _ _ | exact Kd.N_nil _ _ _ _ _ | exact Kd.V_nil _ _ _ _ _ | exact Kd.Q_nil _ _ _ _ _ | exact Kd.R_nil _ _ _ _ _⟩, ⟨by (with_reducible repeat (first | refine kN ?_ _ | refine kD ?_ | refine kA ?_ _)); refine kF ?_ NB145_167.out _; (with_reducible repeat (first | refine kN ?_ _ | refine kD ?_ | refine kA ?_ _)); refine kF ?_ NB145_167.out _; (with_reducible repeat (first | refine kN ?_ _ | refine kD ?_ | refine kA ?_ _)); refine kF ?_ NB145_167.out _; (with_reducible repeat (first | refine kN ?_ _ | refine kD ?_ | refine kA ?_ _)); refine kF ?_ NB145_167.out _; (with_reducible repeat (first | refine kN ?_ _ | refine kD ?_ | refine kA ?_ _)); refine kF ?_ NB145_167.out _; (with_reducible repeat (first | refine kN ?_ _ | refine kD ?_ | refine kA ?_ _)); refine kF ?_ NB145_167.out _; (with_reducible repeat (first | refine kN ?_ _ | refine kD ?_ | refine kA ?_ _)); exact BK145.out⟩, ⟨by (with_reducible repeat (first | refine kN ?_ _ | refine kD ?_ | refine kA ?_ _)); refine blk_put (cs := #[.string (rdOf ByteArray.empty t146 0), .slice Ao31 t150.length co31, .slice Ao30 t155.length co30, .int .i64 (rd t160 0), .int .i64 (rd t160 1), .slice none 0 0]) ?_ 5 _ rfl; (with_reducible repeat (first | refine kN ?_ _ | refine kD ?_ | refine kA ?_ _)); refine blk_put (cs := #[.string (rdOf ByteArray.empty t146 0), .slice Ao31 t150.length co31, .slice Ao30 t155.length co30, .int .i64 (rd t160 0), .int .i64 0, .slice none 0 0]) ?_ 4 _ rfl; (with_reducible repeat (first | refine kN ?_ _ | refine kD ?_ | refine kA ?_ _)); refine blk_put (cs := #[.string (rdOf ByteArray.empty t146 0), .slice Ao31 t150.length co31, .slice Ao30 t155.length co30, .int .i64 0, .int .i64 0, .slice none 0 0]) ?_ 3 _ rfl; (with_reducible repeat (first | refine kN ?_ _ | refine kD ?_ | refine kA ?_ _)); refine blk_put (cs := #[.string (rdOf ByteArray.empty t146 0), .slice Ao31 t150.length co31, .slice none 0 0, .int .i64 0, .int .i64 0, .slice none 0 0]) ?_ 2 _ rfl; (with_reducible repeat (first | refine kN ?_ _ | refine kD ?_ | refine kA ?_ _)); refine blk_put (cs := #[.string (rdOf ByteArray.empty t146 0), .slice none 0 0, .slice none 0 0, .int .i64 0, .int .i64 0, .slice none 0 0]) ?_ 1 _ rfl; (with_reducible repeat (first | refine kN ?_ _ | refine kD ?_ | refine kA ?_ _)); refine blk_put (cs := #[.string (⟨#[]⟩ : ByteArray), .slice none 0 0, .slice none 0 0, .int .i64 0, .int .i64 0, .slice none 0 0]) ?_ 0 _ rfl; (with_reducible repeat (first | refine kN ?_ _ | refine kD ?_ | refine kA ?_ _)); exact BK167.out⟩, ⟨by repeat (first | (with_reducible first | exact HB.out | apply bA | apply bN | apply bD | refine bS ?_ GE145.out | refine bS ?_ GE167.out) | exact HB.out)⟩⟩
           case round =>
            clear H'
            try clear c1
            try clear p1
            try clear q1
            try clear hx1
            try clear qi1
            try clear c2
            try clear p2
            try clear c3
            try clear c3b0
            try clear c3b1
            try clear c8
            try clear c8b0
            try clear c8b1
            try clear c9
            try clear c10
            try clear c10b0
            try clear c10b1
            try clear c12
            try clear c12b0
            try clear c12b1
            try clear p14
            try clear q14
            try clear hx14
            try clear qi14
            try clear p15
            try clear q15
            try clear hx15
            try clear qi15
            try clear p16
            try clear q16
            try clear hx16
            try clear qi16
            try clear c21
            try clear c22
            try clear c23
            try clear c25
            try clear c25b0
            try clear c25b1
            try clear c26
            try clear c26b0
            try clear c26b1
            try clear c27
            try clear c27b0
            try clear c27b1
            try clear hcz24_0
            try clear hcz24_1
            try clear hcz24_2
            try clear hcz24_3
            try clear hcz24_4
            try clear hcz24_5
            try clear hcz7_0
            try clear hcz7_1
            try clear hcz7_2
            try clear hcz7_3
            try clear hcz7_4
            try clear hcz7_5
            try clear hfz24_0
            try clear hfz24_1
            try clear hfz24_2
            try clear hfz24_3
            try clear hfz24_4
            try clear hfz24_5
            try clear hfz7_0
            try clear hfz7_1
            try clear hfz7_2
            try clear hfz7_3
            try clear hfz7_4
            try clear hfz7_5
            try clear hx149_0
            try clear hx154_0
            try clear hx159_0
            try clear hx164_0
            try clear hx165_0
            try clear hx166_0
            try clear p1
            try clear p14
            try clear p149
            try clear p15
            try clear p154
            try clear p159
            try clear p164
            try clear p165
            try clear p166
            try clear p2
            try clear q1
            try clear q14
            try clear q149
            try clear q15
            try clear q154
            try clear q159
            try clear q164
            try clear q165
            try clear q166
            obtain ⟨x12_2, x146000_2, x146003_2, x146004_2, x168005_2, u168005, rfl, HA, HK2, HO_4, HO_168001, HO_168002, HO_168005, BK145, BK167, HB⟩ := hrel
            cases gk with
            | zero => exact absurd HA.out (by simp [spec_l05Read.l0])
            | succ k2 =>
             have H := HA.out
             clear HA
             simp only [spec_l05Read.l0] at H
             by_cases c39 : x12_2 < (t146.length : Int)
             ·rw [if_pos c39] at H
              have c39b0 : decide (x12_2 < (t146.length : Int)) = true := decide_eq_true c39
              clear c39
              by_cases c40 : 0 ≤ x12_2
              ·rw [if_pos c40] at H
               have c40b0 : decide (0 ≤ x12_2) = true := decide_eq_true c40
               clear c40
               replace H := Option.bind_eq_some_iff.mp H
               obtain ⟨⟨t169, t170⟩, A410, H⟩ := H
               replace H : (if t170 = true then (if x168005_2.length < 5864062014805 then (spec_l05Read.l0 k2 t146 (wrap64 (x12_2 + 1)) (rdOf ByteArray.empty t146 0) t150 t155 (rd t160 0) (rd t160 1) (x168005_2 ++ [t169])) else (none)) else (some ((⟨#[]⟩ : ByteArray), ([] : List Int), ([] : List Int), 0, 0, ([] : List (List Int)), false))) = some (r1, r2, r3, r4, r5, r6, r7) := H
               have A41 := Aside0.mk A410
               clear A410
               by_cases c42 : t170 = true
               ·subst c42
                have H1 : (if x168005_2.length < 5864062014805 then (spec_l05Read.l0 k2 t146 (wrap64 (x12_2 + 1)) (rdOf ByteArray.empty t146 0) t150 t155 (rd t160 0) (rd t160 1) (x168005_2 ++ [t169])) else (none)) = some (r1, r2, r3, r4, r5, r6, r7) := by rw [if_pos rfl] at H; exact H
                clear H
                have H := H1
                clear H1
                by_cases c43 : x168005_2.length < 5864062014805
                ·rw [if_pos c43] at H
                 have LMc43 := Aside0.mk c43
                 clear c43
                 obtain ⟨y173, hy173⟩ : ∃ y_ : List (List Int), y_ = (x168005_2 ++ [t169]) := ⟨_, rfl⟩
                 replace H : (spec_l05Read.l0 k2 t146 (wrap64 (x12_2 + 1)) (rdOf ByteArray.empty t146 0) t150 t155 (rd t160 0) (rd t160 1) y173) = some (r1, r2, r3, r4, r5, r6, r7) := by first | (rw [hy173]; with_reducible exact H) | (have H2_ := (Option.bind_some _ _).symm.trans H; rw [hy173]; with_reducible exact H2_) | (have H2_ := (Option.bind_some _ _).symm.trans H; with_reducible exact H2_) | with_reducible exact H | (rw [hy173]; exact H) | exact H
                 have Ny173 := Aside0.mk hy173
                 clear hy173
                 have H' := Aside0.mk H
                 clear H
                 have p168 : 0 ≤ (x12_2 : Int) := of_decide_eq_true (by first | (with_reducible assumption) | assumption)
                 have q168 : x12_2 < (t146.length : Int) := of_decide_eq_true (by first | (with_reducible assumption) | assumption)
                 obtain ⟨ad168, e168, hx168_0⟩ := Kd.at_string (Kd.R_reads' HO_4.out).2.2 x12_2 p168 q168
                 obtain rfl : ad149 = ad168 := (by injection e168)
                 replace p168 := eq_true p168
                 replace q168 := eq_true q168
                 go_wp2_with (first | ((with_reducible refine gC (f := 23) rfl ?_); refine goesL_ (some 76) rfl rfl Tryd.func23 (by kernel_rfl) rfl #[.string (rdOf ByteArray.empty t146 x12_2)] rfl (by (try simp only [List.map_toArray, List.map_cons, List.map_nil]); first | done | rfl | (simp only [List.length_drop, List.length_take]; rfl)) ?_; (with_reducible refine (spec_l05Two.calls k2 (rdOf ByteArray.empty t146 x12_2) t169 true _ A41.out).mono ?_); rintro e w44 ⟨v171, rfl, ho0, hb⟩; refine ⟨_, rfl, ?_⟩; have n0_ := Aside0.mk (rB (by (with_reducible repeat (first | apply rA | apply rN | apply rD)); exact HO_4.out) hb); have n1_ := Aside0.mk (rE (by (with_reducible repeat (first | apply rA | apply rN | apply rD)); exact HO_168001.out) (Kd.R_base ho0) hb); have n2_ := Aside0.mk (rE (by (with_reducible repeat (first | apply rA | apply rN | apply rD)); exact HO_168002.out) (Kd.R_base ho0) hb); have n3_ := Aside0.mk (Kd.S_elder' (by (with_reducible repeat (first | apply Kd.S_alloc | apply Kd.S_drewN | apply Kd.S_drew)); exact HO_168005.out) (Kd.R_base ho0) hb); have n4_ := Aside0.mk (rL (rW (rW ho0 (rT (by (with_reducible repeat (first | apply rA | apply rN | apply rD)); exact HO_168001.out))) (rT (by (with_reducible repeat (first | apply rA | apply rN | apply rD)); exact HO_168002.out))) (bZ (by repeat (first | (with_reducible first | exact HB.out | apply bA | apply bN | apply bD | refine bS ?_ GE145.out | refine bS ?_ GE167.out) | exact HB.out)))); have n5_ := Aside0.mk (kB (g := gb145) (o := .cells #[.string x146000_2, .slice none 0 0, .slice none 0 0, .int .i64 x146003_2, .int .i64 x146004_2, .slice none 0 0] 25 (0, 0)) (by (with_reducible repeat (first | refine kN ?_ _ | refine kD ?_ | refine kA ?_ _)); exact BK145.out) hb); have n6_ := Aside0.mk (kB (g := gb167) (o := .cells #[.string (rdOf ByteArray.empty t146 0), .slice Ao31 t150.length co31, .slice Ao30 t155.length co30, .int .i64 (rd t160 0), .int .i64 (rd t160 1), u168005] 25 (0, 0)) (by (with_reducible repeat (first | refine kN ?_ _ | refine kD ?_ | refine kA ?_ _)); exact BK167.out) hb); have n7_ := Aside0.mk (bP (by repeat (first | (with_reducible first | exact HB.out | apply bA | apply bN | apply bD | refine bS ?_ GE145.out | refine bS ?_ GE167.out) | exact HB.out)) hb); clear HO_4; clear HO_168001; clear HO_168002; clear HO_168005; clear BK145; clear BK167; clear HB; have HO_4 := n0_; have HO_168001 := n1_; have HO_168002 := n2_; have HO_168005 := n3_; have HO172 := n4_; have BK145 := n5_; have BK167 := n6_; have HB := n7_; clear n0_ n1_ n2_ n3_ n4_ n5_ n6_ n7_; (try clear hb); (try clear hb2); (try clear hk); (try clear hi); (try clear ho0); have hnb45 := NB167_145.out; have hnc45 := NB145_167.out; have hcz46_0 : w44.cell? ⟨gb167, 0, none⟩ = some (.string (rdOf ByteArray.empty t146 0)) := (kC BK167.out 0).trans rfl; have hcz46_1 : w44.cell? ⟨gb167, 1, none⟩ = some (.slice Ao31 t150.length co31) := (kC BK167.out 1).trans rfl; have hcz46_2 : w44.cell? ⟨gb167, 2, none⟩ = some (.slice Ao30 t155.length co30) := (kC BK167.out 2).trans rfl; have hcz46_3 : w44.cell? ⟨gb167, 3, none⟩ = some (.int .i64 (rd t160 0)) := (kC BK167.out 3).trans rfl; have hcz46_4 : w44.cell? ⟨gb167, 4, none⟩ = some (.int .i64 (rd t160 1)) := (kC BK167.out 4).trans rfl; have hcz46_5 : w44.cell? ⟨gb167, 5, none⟩ = some (u168005) := (kC BK167.out 5).trans rfl; have hfz46_0 := blk_frozen BK167.out 0; have hfz46_1 := blk_frozen BK167.out 1; have hfz46_2 := blk_frozen BK167.out 2; have hfz46_3 := blk_frozen BK167.out 3; have hfz46_4 := blk_frozen BK167.out 4; have hfz46_5 := blk_frozen BK167.out 5; obtain ⟨Ao48, co48, eo48⟩ := Kd.R_slice HO172.out; subst eo48) | ((with_reducible refine gate_builtin (b := .append) (xs := #[.tmp 83, .tmp 85]) rfl ?_); at_builtin; refine Kd.S_append (Kd.slice 2 (Kd.int .i64)) (w0 := w) w.heap.size rfl (.tmp 83) (.tmp 85) 23 22 (.slice none 0 0) 24 rfl Tryd.underlying23 info22 rfl (by decide) (by omega) u168005 x168005_2 t169 [.slice Ao48 t169.length co48] (fun k_ => some k_ ≠ (.slice Ao31 t150.length co31 : Value).ownBlock ∧ some k_ ≠ (.slice Ao30 t155.length co30 : Value).ownBlock) (fun k_ => some k_ = (.slice Ao48 t169.length co48 : Value).ownBlock) rfl rfl ?aP (fun k_ hk_ => ((rM (ok' := fun k_ => ((fun k_ => some k_ ≠ (.slice Ao31 t150.length co31 : Value).ownBlock ∧ some k_ ≠ (.slice Ao30 t155.length co30 : Value).ownBlock)) k_ ∧ some k_ ≠ (u168005 : Value).ownBlock) (Kd.R_apart' (HO172.out) (Kd.S_typed HO_168005.out) (by decide)) (fun k_ hk => ⟨⟨hk.1.1.2, hk.1.2⟩, hk.2⟩))).1 k_ hk_.symm) ?aF ?aO ?aB ?aS ?aL ?_; (case aP => exact Kd.M_row (rM (Kd.R_tight rfl (rM (ok' := fun k_ => ((fun k_ => some k_ ≠ (.slice Ao31 t150.length co31 : Value).ownBlock ∧ some k_ ≠ (.slice Ao30 t155.length co30 : Value).ownBlock)) k_ ∧ some k_ ≠ (u168005 : Value).ownBlock) (Kd.R_apart' (HO172.out) (Kd.S_typed HO_168005.out) (by decide)) (fun k_ hk => ⟨⟨hk.1.1.2, hk.1.2⟩, hk.2⟩))) (fun _ h_ => h_))); (case aB => exact (by repeat (first | (with_reducible first | exact HB.out | apply bA | apply bN | apply bD | refine bS ?_ GE145.out | refine bS ?_ GE167.out) | exact HB.out))); (case aF => exact (fun k_ hk => ⟨Kd.fresh' (rT (by (with_reducible repeat (first | apply rA | apply rN | apply rD)); exact HO_168001.out)) k_ hk, Kd.fresh' (rT (by (with_reducible repeat (first | apply rA | apply rN | apply rD)); exact HO_168002.out)) k_ hk⟩)); (case aO => exact (by (with_reducible repeat (first | apply Kd.S_alloc | apply Kd.S_drewN | apply Kd.S_drew)); exact Kd.S_mono HO_168005.out (fun k_ hk => ⟨⟨hk.1.1, hk.1.2⟩, fun e_ => hk.2 e_⟩))); (case aS => exact (bZ (by repeat (first | (with_reducible first | exact HB.out | apply bA | apply bN | apply bD | refine bS ?_ GE145.out | refine bS ?_ GE167.out) | exact HB.out)))); (case aL => have := LMc43.out; omega); intro v174 w47 ho hb hg hat; rw [← Ny173.out] at ho; have n0_ := Aside0.mk (Kd.R_over' (by (with_reducible repeat (first | apply rA | apply rN | apply rD)); exact HO_4.out) (Kd.S_typed (by (with_reducible repeat (first | apply Kd.S_alloc | apply Kd.S_drewN | apply Kd.S_drew)); exact HO_168005.out)) (by decide) hg); have n1_ := Aside0.mk (Kd.R_over' (by (with_reducible repeat (first | apply rA | apply rN | apply rD)); exact HO_168001.out) (Kd.S_typed (by (with_reducible repeat (first | apply Kd.S_alloc | apply Kd.S_drewN | apply Kd.S_drew)); exact HO_168005.out)) (by decide) hg); have n2_ := Aside0.mk (Kd.R_over' (by (with_reducible repeat (first | apply rA | apply rN | apply rD)); exact HO_168002.out) (Kd.S_typed (by (with_reducible repeat (first | apply Kd.S_alloc | apply Kd.S_drewN | apply Kd.S_drew)); exact HO_168005.out)) (by decide) hg); have n3_ := Aside0.mk (blk_grown (g := gb145) (o := .cells #[.string x146000_2, .slice none 0 0, .slice none 0 0, .int .i64 x146003_2, .int .i64 x146004_2, .slice none 0 0] 25 (0, 0)) (by (with_reducible repeat (first | refine kN ?_ _ | refine kD ?_ | refine kA ?_ _)); exact BK145.out) hg (Kd.S_ne HO_168005.out BK145.out (by decide))); have n4_ := Aside0.mk (blk_grown (g := gb167) (o := .cells #[.string (rdOf ByteArray.empty t146 0), .slice Ao31 t150.length co31, .slice Ao30 t155.length co30, .int .i64 (rd t160 0), .int .i64 (rd t160 1), u168005] 25 (0, 0)) (by (with_reducible repeat (first | refine kN ?_ _ | refine kD ?_ | refine kA ?_ _)); exact BK167.out) hg (Kd.S_ne HO_168005.out BK167.out (by decide))); have n5_ := Aside0.mk (hb); have n6_ := Aside0.mk (ho); clear HO_4; clear HO_168001; clear HO_168002; clear BK145; clear BK167; clear HB; clear HO_168005; clear HO172; have HO_4 := n0_; have HO_168001 := n1_; have HO_168002 := n2_; have BK145 := n3_; have BK167 := n4_; have HB := n5_; have HO175 := n6_; clear n0_ n1_ n2_ n3_ n4_ n5_ n6_; clear ho hb hg hat; obtain ⟨Ao49, co49, eo49⟩ := Kd.S_slice HO175.out; subst eo49; have hcz50_0 : w47.cell? ⟨gb167, 0, none⟩ = some (.string (rdOf ByteArray.empty t146 0)) := (kC BK167.out 0).trans rfl; have hcz50_1 : w47.cell? ⟨gb167, 1, none⟩ = some (.slice Ao31 t150.length co31) := (kC BK167.out 1).trans rfl; have hcz50_2 : w47.cell? ⟨gb167, 2, none⟩ = some (.slice Ao30 t155.length co30) := (kC BK167.out 2).trans rfl; have hcz50_3 : w47.cell? ⟨gb167, 3, none⟩ = some (.int .i64 (rd t160 0)) := (kC BK167.out 3).trans rfl; have hcz50_4 : w47.cell? ⟨gb167, 4, none⟩ = some (.int .i64 (rd t160 1)) := (kC BK167.out 4).trans rfl; have hcz50_5 : w47.cell? ⟨gb167, 5, none⟩ = some (u168005) := (kC BK167.out 5).trans rfl; have hfz50_0 := blk_frozen BK167.out 0; have hfz50_1 := blk_frozen BK167.out 1; have hfz50_2 := blk_frozen BK167.out 2; have hfz50_3 := blk_frozen BK167.out 3; have hfz50_4 := blk_frozen BK167.out 4; have hfz50_5 := blk_frozen BK167.out 5))
                 go_roundg k2
                 case measure => have := HJ13.out; have := HK2.out; omega
                 case rel => exact ⟨(wrap64 (x12_2 + 1)), (x146000_2), (x146003_2), (x146004_2), (y173), (.slice Ao49 y173.length co49), (by first | rfl | (simp; done) | (simp [*]; done)), H', ⟨by have := HJ13.out; have := HK2.out; omega⟩, ⟨by (with_reducible repeat (first | apply rA | apply rN | apply rD)); exact rM (Kd.R_far (p := ⟨gb167, 5, none⟩) (Kd.R_types HO_4.out BK167.out (by decide)) (fun _ hk => hk.2) (.slice Ao49 y173.length co49)) (fun _ hk => trivial)⟩, ⟨by (with_reducible repeat (first | apply rA | apply rN | apply rD)); exact rM (Kd.R_far (p := ⟨gb167, 5, none⟩) (Kd.R_types HO_168001.out BK167.out (by decide)) (fun _ hk => hk.2) (.slice Ao49 y173.length co49)) (fun _ hk => hk.1.1)⟩, ⟨by (with_reducible repeat (first | apply rA | apply rN | apply rD)); exact rM (Kd.R_far (p := ⟨gb167, 5, none⟩) (Kd.R_types HO_168002.out BK167.out (by decide)) (fun _ hk => hk.2) (.slice Ao49 y173.length co49)) (fun _ hk => hk.1.1)⟩, ⟨by (with_reducible repeat (first | apply Kd.S_alloc | apply Kd.S_drewN | apply Kd.S_drew)); exact Kd.S_mono (Kd.S_far (p := ⟨gb167, 5, none⟩) (Kd.S_types HO175.out BK167.out (by decide)) (fun _ hk => hk.2) (.slice Ao49 y173.length co49)) (fun _ hk => ⟨hk.1.1, hk.1.2⟩)⟩, ⟨by (with_reducible repeat (first | refine kN ?_ _ | refine kD ?_ | refine kA ?_ _)); refine kF ?_ NB145_167.out _; (with_reducible repeat (first | refine kN ?_ _ | refine kD ?_ | refine kA ?_ _)); exact BK145.out⟩, ⟨by (with_reducible repeat (first | refine kN ?_ _ | refine kD ?_ | refine kA ?_ _)); refine blk_put (cs := #[.string (rdOf ByteArray.empty t146 0), .slice Ao31 t150.length co31, .slice Ao30 t155.length co30, .int .i64 (rd t160 0), .int .i64 (rd t160 1), u168005]) ?_ 5 _ rfl; (with_reducible repeat (first | refine kN ?_ _ | refine kD ?_ | refine kA ?_ _)); exact BK167.out⟩, ⟨by repeat (first | (with_reducible first | exact HB.out | apply bA | apply bN | apply bD | refine bS ?_ GE145.out | refine bS ?_ GE167.out) | exact HB.out)⟩⟩
                ·rw [if_neg c43] at H
                 exact absurd H (by simp)
               ·replace c42 := Bool.eq_false_iff.mpr c42
                subst c42
                have H1 : (some ((⟨#[]⟩ : ByteArray), ([] : List Int), ([] : List Int), 0, 0, ([] : List (List Int)), false)) = some (r1, r2, r3, r4, r5, r6, r7) := by rw [if_neg (show ¬ (false = true) by decide)] at H; exact H
                clear H
                have H := H1
                clear H1
                simp only [Option.some.injEq, Prod.mk.injEq] at H
                obtain ⟨rfl, rfl, rfl, rfl, rfl, rfl, rfl⟩ := H
                have p168 : 0 ≤ (x12_2 : Int) := of_decide_eq_true (by first | (with_reducible assumption) | assumption)
                have q168 : x12_2 < (t146.length : Int) := of_decide_eq_true (by first | (with_reducible assumption) | assumption)
                obtain ⟨ad168, e168, hx168_0⟩ := Kd.at_string (Kd.R_reads' HO_4.out).2.2 x12_2 p168 q168
                obtain rfl : ad149 = ad168 := (by injection e168)
                replace p168 := eq_true p168
                replace q168 := eq_true q168
                go_wp2_with (first | ((with_reducible refine gC (f := 23) rfl ?_); refine goesL_ (some 76) rfl rfl Tryd.func23 (by kernel_rfl) rfl #[.string (rdOf ByteArray.empty t146 x12_2)] rfl (by (try simp only [List.map_toArray, List.map_cons, List.map_nil]); first | done | rfl | (simp only [List.length_drop, List.length_take]; rfl)) ?_; (with_reducible refine (spec_l05Two.calls k2 (rdOf ByteArray.empty t146 x12_2) t169 false _ A41.out).mono ?_); rintro e w51 ⟨v171, rfl, ho0, hb⟩; refine ⟨_, rfl, ?_⟩; have n0_ := Aside0.mk (rB (by (with_reducible repeat (first | apply rA | apply rN | apply rD)); exact HO_4.out) hb); have n1_ := Aside0.mk (rE (by (with_reducible repeat (first | apply rA | apply rN | apply rD)); exact HO_168001.out) (Kd.R_base ho0) hb); have n2_ := Aside0.mk (rE (by (with_reducible repeat (first | apply rA | apply rN | apply rD)); exact HO_168002.out) (Kd.R_base ho0) hb); have n3_ := Aside0.mk (Kd.S_elder' (by (with_reducible repeat (first | apply Kd.S_alloc | apply Kd.S_drewN | apply Kd.S_drew)); exact HO_168005.out) (Kd.R_base ho0) hb); have n4_ := Aside0.mk (rL (rW (rW ho0 (rT (by (with_reducible repeat (first | apply rA | apply rN | apply rD)); exact HO_168001.out))) (rT (by (with_reducible repeat (first | apply rA | apply rN | apply rD)); exact HO_168002.out))) (bZ (by repeat (first | (with_reducible first | exact HB.out | apply bA | apply bN | apply bD | refine bS ?_ GE145.out | refine bS ?_ GE167.out) | exact HB.out)))); have n5_ := Aside0.mk (kB (g := gb145) (o := .cells #[.string x146000_2, .slice none 0 0, .slice none 0 0, .int .i64 x146003_2, .int .i64 x146004_2, .slice none 0 0] 25 (0, 0)) (by (with_reducible repeat (first | refine kN ?_ _ | refine kD ?_ | refine kA ?_ _)); exact BK145.out) hb); have n6_ := Aside0.mk (kB (g := gb167) (o := .cells #[.string (rdOf ByteArray.empty t146 0), .slice Ao31 t150.length co31, .slice Ao30 t155.length co30, .int .i64 (rd t160 0), .int .i64 (rd t160 1), u168005] 25 (0, 0)) (by (with_reducible repeat (first | refine kN ?_ _ | refine kD ?_ | refine kA ?_ _)); exact BK167.out) hb); have n7_ := Aside0.mk (bP (by repeat (first | (with_reducible first | exact HB.out | apply bA | apply bN | apply bD | refine bS ?_ GE145.out | refine bS ?_ GE167.out) | exact HB.out)) hb); clear HO_4; clear HO_168001; clear HO_168002; clear HO_168005; clear BK145; clear BK167; clear HB; have HO_4 := n0_; have HO_168001 := n1_; have HO_168002 := n2_; have HO_168005 := n3_; have HO172 := n4_; have BK145 := n5_; have BK167 := n6_; have HB := n7_; clear n0_ n1_ n2_ n3_ n4_ n5_ n6_ n7_; (try clear hb); (try clear hb2); (try clear hk); (try clear hi); (try clear ho0); have hnb52 := NB145_167.out; have hnc52 := NB167_145.out; have hcz53_0 : w51.cell? ⟨gb145, 0, none⟩ = some (.string x146000_2) := (kC BK145.out 0).trans rfl; have hcz53_1 : w51.cell? ⟨gb145, 1, none⟩ = some (.slice none 0 0) := (kC BK145.out 1).trans rfl; have hcz53_2 : w51.cell? ⟨gb145, 2, none⟩ = some (.slice none 0 0) := (kC BK145.out 2).trans rfl; have hcz53_3 : w51.cell? ⟨gb145, 3, none⟩ = some (.int .i64 x146003_2) := (kC BK145.out 3).trans rfl; have hcz53_4 : w51.cell? ⟨gb145, 4, none⟩ = some (.int .i64 x146004_2) := (kC BK145.out 4).trans rfl; have hcz53_5 : w51.cell? ⟨gb145, 5, none⟩ = some (.slice none 0 0) := (kC BK145.out 5).trans rfl; have hfz53_0 := blk_frozen BK145.out 0; have hfz53_1 := blk_frozen BK145.out 1; have hfz53_2 := blk_frozen BK145.out 2; have hfz53_3 := blk_frozen BK145.out 3; have hfz53_4 := blk_frozen BK145.out 4; have hfz53_5 := blk_frozen BK145.out 5))
                refine bodyPost_ret (results_ct rfl _ _ gb145 25 #[.string (⟨#[]⟩ : ByteArray), .slice none 0 0, .slice none 0 0, .int .i64 0, .int .i64 0, .slice none 0 0] (0, 0) _ rfl (by (with_reducible repeat (first | refine kN ?_ _ | refine kD ?_ | refine kA ?_ _)); refine blk_put (cs := #[.string (⟨#[]⟩ : ByteArray), .slice none 0 0, .slice none 0 0, .int .i64 0, .int .i64 0, .slice none 0 0]) ?_ 5 _ rfl; (with_reducible repeat (first | refine kN ?_ _ | refine kD ?_ | refine kA ?_ _)); refine blk_put (cs := #[.string (⟨#[]⟩ : ByteArray), .slice none 0 0, .slice none 0 0, .int .i64 0, .int .i64 x146004_2, .slice none 0 0]) ?_ 4 _ rfl; (with_reducible repeat (first | refine kN ?_ _ | refine kD ?_ | refine kA ?_ _)); refine blk_put (cs := #[.string (⟨#[]⟩ : ByteArray), .slice none 0 0, .slice none 0 0, .int .i64 x146003_2, .int .i64 x146004_2, .slice none 0 0]) ?_ 3 _ rfl; (with_reducible repeat (first | refine kN ?_ _ | refine kD ?_ | refine kA ?_ _)); refine blk_put (cs := #[.string (⟨#[]⟩ : ByteArray), .slice none 0 0, .slice none 0 0, .int .i64 x146003_2, .int .i64 x146004_2, .slice none 0 0]) ?_ 2 _ rfl; (with_reducible repeat (first | refine kN ?_ _ | refine kD ?_ | refine kA ?_ _)); refine blk_put (cs := #[.string (⟨#[]⟩ : ByteArray), .slice none 0 0, .slice none 0 0, .int .i64 x146003_2, .int .i64 x146004_2, .slice none 0 0]) ?_ 1 _ rfl; (with_reducible repeat (first | refine kN ?_ _ | refine kD ?_ | refine kA ?_ _)); refine blk_put (cs := #[.string x146000_2, .slice none 0 0, .slice none 0 0, .int .i64 x146003_2, .int .i64 x146004_2, .slice none 0 0]) ?_ 0 _ rfl; (with_reducible repeat (first | refine kN ?_ _ | refine kD ?_ | refine kA ?_ _)); exact BK145.out) Tryd.underlying25 rfl (by kernel_rfl)) rfl ?_
                exact ⟨_, _, _, by first | rfl | (simp [errW_none, errW_some] <;> rfl) | (simp [*, errW_none, errW_some] <;> rfl), by first | exact Kd.R_nil _ _ _ _ _ | exact Kd.N_nil _ _ _ _ _ | exact Kd.V_nil _ _ _ _ _ | exact Kd.Q_nil _ _ _ _ _ | exact Kd.S_nil _ _ _ _ _, by first | exact Kd.R_nil _ _ _ _ _ | exact Kd.N_nil _ _ _ _ _ | exact Kd.V_nil _ _ _ _ _ | exact Kd.Q_nil _ _ _ _ _ | exact Kd.S_nil _ _ _ _ _, by first | exact Kd.S_nil _ _ _ _ _ | exact Kd.N_nil _ _ _ _ _ | exact Kd.V_nil _ _ _ _ _ | exact Kd.Q_nil _ _ _ _ _ | exact Kd.R_nil _ _ _ _ _, by repeat (first | (with_reducible first | exact HB.out | apply bA | apply bN | apply bD | refine bS ?_ GE145.out | refine bS ?_ GE167.out) | exact HB.out)⟩
              ·rw [if_neg c40] at H
               exact absurd H (by simp)
             ·rw [if_neg c39] at H
              have c39b0 : decide (x12_2 < (t146.length : Int)) = false := decide_eq_false c39
              clear c39
              replace H := Option.bind_eq_some_iff.mp H
              obtain ⟨t176, A540, H⟩ := H
              replace H : (if t176 = true then (some ((rdOf ByteArray.empty t146 0), t150, t155, (rd t160 0), (rd t160 1), x168005_2, true)) else (some ((⟨#[]⟩ : ByteArray), ([] : List Int), ([] : List Int), 0, 0, ([] : List (List Int)), false))) = some (r1, r2, r3, r4, r5, r6, r7) := H
              have A54 := Aside0.mk A540
              clear A540
              by_cases c55 : t176 = true
              ·subst c55
               have H1 : (some ((rdOf ByteArray.empty t146 0), t150, t155, (rd t160 0), (rd t160 1), x168005_2, true)) = some (r1, r2, r3, r4, r5, r6, r7) := by rw [if_pos rfl] at H; exact H
               clear H
               have H := H1
               clear H1
               simp only [Option.some.injEq, Prod.mk.injEq] at H
               obtain ⟨rfl, rfl, rfl, rfl, rfl, rfl, rfl⟩ := H
               obtain ⟨Ao59, co59, eo59⟩ := Kd.S_slice HO_168005.out; subst eo59
               go_wp2_with (first | ((with_reducible refine gC (f := 24) rfl ?_); refine goesL_ (some 88) rfl rfl Tryd.func24 (by kernel_rfl) rfl #[.pointer (some ⟨gb167, 0, none⟩)] rfl (by (try simp only [List.map_toArray, List.map_cons, List.map_nil]); first | done | rfl | (simp only [List.length_drop, List.length_take]; rfl)) ?_; (with_reducible refine (spec_l05Ok.calls k2 ⟨gb167, 0, none⟩ (rdOf ByteArray.empty t146 0) t150 t155 (rd t160 0) (rd t160 1) x168005_2 true _ ?side1 A54.out).mono ?_); (case side1 => exact C_box (t := 25) (show _ from by (with_reducible repeat (first | refine kN ?_ _ | refine kD ?_ | refine kA ?_ _)); exact BK167.out) (k25_mk _ (⟨(rdOf ByteArray.empty t146 0), t150, t155, (rd t160 0), (rd t160 1), x168005_2⟩ : S25) (by exact (Kd.R_reads' HO_168001.out).2.1) (by repeat (first | exact (Kd.R_reads' HO_168001.out).2.2 | (with_reducible refine cA ?_ _) | (with_reducible refine cN ?_ _) | (with_reducible refine cD ?_))) (by exact (Kd.R_reads' HO_168002.out).2.1) (by repeat (first | exact (Kd.R_reads' HO_168002.out).2.2 | (with_reducible refine cA ?_ _) | (with_reducible refine cN ?_ _) | (with_reducible refine cD ?_))) (by exact (Kd.S_reads' HO_168005.out).2.1) (by repeat (first | exact (Kd.S_reads' HO_168005.out).2.2 | (with_reducible refine cA ?_ _) | (with_reducible refine cN ?_ _) | (with_reducible refine cD ?_))))); rintro e w' ⟨rfl, ⟨nd, rfl⟩⟩; refine ⟨_, rfl, ?_⟩; (try (rw [drewN_self wr]; generalize hq_ : World.drewN wr _ = wr; have n0_ : Aside0 (Kd.R (Kd.int .i64) 2 wr w.heap.size (fun k_ => some k_ ≠ (.slice Ao30 t155.length co30 : Value).ownBlock) (.slice Ao31 t150.length co31) t150) := ⟨by rw [← hq_]; exact (by (with_reducible repeat (first | apply rA | apply rN | apply rD)); exact HO_168001.out)⟩; have n1_ : Aside0 (Kd.R (Kd.int .i64) 2 wr w.heap.size (fun k_ => some k_ ≠ (.slice Ao31 t150.length co31 : Value).ownBlock) (.slice Ao30 t155.length co30) t155) := ⟨by rw [← hq_]; exact (by (with_reducible repeat (first | apply rA | apply rN | apply rD)); exact HO_168002.out)⟩; have n2_ : Aside0 (Kd.S (Kd.slice 2 (Kd.int .i64)) 22 wr w.heap.size (fun k_ => some k_ ≠ (.slice Ao31 t150.length co31 : Value).ownBlock ∧ some k_ ≠ (.slice Ao30 t155.length co30 : Value).ownBlock) (.slice Ao59 x168005_2.length co59) x168005_2) := ⟨by rw [← hq_]; exact (by (with_reducible repeat (first | apply Kd.S_alloc | apply Kd.S_drewN | apply Kd.S_drew)); exact HO_168005.out)⟩; have n3_ : Aside0 (Kd.R Kd.string 9 wr w.heap.size (fun _ => True) (.slice (some ad149) t146.length co17) t146) := ⟨by rw [← hq_]; exact (by (with_reducible repeat (first | apply rA | apply rN | apply rD)); exact HO_4.out)⟩; have n4_ : Aside0 (wr.heap[gb145]? = some (.cells #[.string x146000_2, .slice none 0 0, .slice none 0 0, .int .i64 x146003_2, .int .i64 x146004_2, .slice none 0 0] 25 (0, 0))) := ⟨by rw [← hq_]; exact (by (with_reducible repeat (first | refine kN ?_ _ | refine kD ?_ | refine kA ?_ _)); exact BK145.out)⟩; have n5_ : Aside0 (wr.heap[gb167]? = some (.cells #[.string (rdOf ByteArray.empty t146 0), .slice Ao31 t150.length co31, .slice Ao30 t155.length co30, .int .i64 (rd t160 0), .int .i64 (rd t160 1), (.slice Ao59 x168005_2.length co59)] 25 (0, 0))) := ⟨by rw [← hq_]; exact (by (with_reducible repeat (first | refine kN ?_ _ | refine kD ?_ | refine kA ?_ _)); exact BK167.out)⟩; have n6_ : Aside0 (Below w.heap.size w wr) := ⟨by rw [← hq_]; exact (by repeat (first | (with_reducible first | exact HB.out | apply bA | apply bN | apply bD | refine bS ?_ GE145.out | refine bS ?_ GE167.out) | exact HB.out))⟩; clear HO_168001 HO_168002 HO_168005 HO_4 BK145 BK167 HB hq_; have HO_168001 := n0_; have HO_168002 := n1_; have HO_168005 := n2_; have HO_4 := n3_; have BK145 := n4_; have BK167 := n5_; have HB := n6_; clear n0_ n1_ n2_ n3_ n4_ n5_ n6_)); have hnb56 := NB167_145.out; have hnc56 := NB145_167.out; have hcz57_0 : wr.cell? ⟨gb167, 0, none⟩ = some (.string (rdOf ByteArray.empty t146 0)) := (kC BK167.out 0).trans rfl; have hcz57_1 : wr.cell? ⟨gb167, 1, none⟩ = some (.slice Ao31 t150.length co31) := (kC BK167.out 1).trans rfl; have hcz57_2 : wr.cell? ⟨gb167, 2, none⟩ = some (.slice Ao30 t155.length co30) := (kC BK167.out 2).trans rfl; have hcz57_3 : wr.cell? ⟨gb167, 3, none⟩ = some (.int .i64 (rd t160 0)) := (kC BK167.out 3).trans rfl; have hcz57_4 : wr.cell? ⟨gb167, 4, none⟩ = some (.int .i64 (rd t160 1)) := (kC BK167.out 4).trans rfl; have hcz57_5 : wr.cell? ⟨gb167, 5, none⟩ = some ((.slice Ao59 x168005_2.length co59)) := (kC BK167.out 5).trans rfl; have hfz57_0 := blk_frozen BK167.out 0; have hfz57_1 := blk_frozen BK167.out 1; have hfz57_2 := blk_frozen BK167.out 2; have hfz57_3 := blk_frozen BK167.out 3; have hfz57_4 := blk_frozen BK167.out 4; have hfz57_5 := blk_frozen BK167.out 5; have hcz58_0 : wr.cell? ⟨gb145, 0, none⟩ = some (.string x146000_2) := (kC BK145.out 0).trans rfl; have hcz58_1 : wr.cell? ⟨gb145, 1, none⟩ = some (.slice none 0 0) := (kC BK145.out 1).trans rfl; have hcz58_2 : wr.cell? ⟨gb145, 2, none⟩ = some (.slice none 0 0) := (kC BK145.out 2).trans rfl; have hcz58_3 : wr.cell? ⟨gb145, 3, none⟩ = some (.int .i64 x146003_2) := (kC BK145.out 3).trans rfl; have hcz58_4 : wr.cell? ⟨gb145, 4, none⟩ = some (.int .i64 x146004_2) := (kC BK145.out 4).trans rfl; have hcz58_5 : wr.cell? ⟨gb145, 5, none⟩ = some (.slice none 0 0) := (kC BK145.out 5).trans rfl; have hfz58_0 := blk_frozen BK145.out 0; have hfz58_1 := blk_frozen BK145.out 1; have hfz58_2 := blk_frozen BK145.out 2; have hfz58_3 := blk_frozen BK145.out 3; have hfz58_4 := blk_frozen BK145.out 4; have hfz58_5 := blk_frozen BK145.out 5))
               refine bodyPost_ret (results_ct rfl _ _ gb145 25 #[.string (rdOf ByteArray.empty t146 0), .slice Ao31 t150.length co31, .slice Ao30 t155.length co30, .int .i64 (rd t160 0), .int .i64 (rd t160 1), .slice Ao59 x168005_2.length co59] (0, 0) _ rfl (by (with_reducible repeat (first | refine kN ?_ _ | refine kD ?_ | refine kA ?_ _)); refine blk_put (cs := #[.string (rdOf ByteArray.empty t146 0), .slice Ao31 t150.length co31, .slice Ao30 t155.length co30, .int .i64 (rd t160 0), .int .i64 (rd t160 1), .slice none 0 0]) ?_ 5 _ rfl; (with_reducible repeat (first | refine kN ?_ _ | refine kD ?_ | refine kA ?_ _)); refine blk_put (cs := #[.string (rdOf ByteArray.empty t146 0), .slice Ao31 t150.length co31, .slice Ao30 t155.length co30, .int .i64 (rd t160 0), .int .i64 x146004_2, .slice none 0 0]) ?_ 4 _ rfl; (with_reducible repeat (first | refine kN ?_ _ | refine kD ?_ | refine kA ?_ _)); refine blk_put (cs := #[.string (rdOf ByteArray.empty t146 0), .slice Ao31 t150.length co31, .slice Ao30 t155.length co30, .int .i64 x146003_2, .int .i64 x146004_2, .slice none 0 0]) ?_ 3 _ rfl; (with_reducible repeat (first | refine kN ?_ _ | refine kD ?_ | refine kA ?_ _)); refine blk_put (cs := #[.string (rdOf ByteArray.empty t146 0), .slice Ao31 t150.length co31, .slice none 0 0, .int .i64 x146003_2, .int .i64 x146004_2, .slice none 0 0]) ?_ 2 _ rfl; (with_reducible repeat (first | refine kN ?_ _ | refine kD ?_ | refine kA ?_ _)); refine blk_put (cs := #[.string (rdOf ByteArray.empty t146 0), .slice none 0 0, .slice none 0 0, .int .i64 x146003_2, .int .i64 x146004_2, .slice none 0 0]) ?_ 1 _ rfl; (with_reducible repeat (first | refine kN ?_ _ | refine kD ?_ | refine kA ?_ _)); refine blk_put (cs := #[.string x146000_2, .slice none 0 0, .slice none 0 0, .int .i64 x146003_2, .int .i64 x146004_2, .slice none 0 0]) ?_ 0 _ rfl; (with_reducible repeat (first | refine kN ?_ _ | refine kD ?_ | refine kA ?_ _)); exact BK145.out) Tryd.underlying25 rfl (by kernel_rfl)) rfl ?_
               exact ⟨_, _, _, by first | rfl | (simp [errW_none, errW_some] <;> rfl) | (simp [*, errW_none, errW_some] <;> rfl), by (with_reducible repeat (first | apply rA | apply rN | apply rD)); exact rM (Kd.R_far (p := ⟨gb145, 5, none⟩) (Kd.R_far (p := ⟨gb145, 4, none⟩) (Kd.R_far (p := ⟨gb145, 3, none⟩) (Kd.R_far (p := ⟨gb145, 2, none⟩) (Kd.R_far (p := ⟨gb145, 1, none⟩) (Kd.R_far (p := ⟨gb145, 0, none⟩) (Kd.R_types HO_168001.out BK145.out (by decide)) (fun _ hk => hk.2) (.string (rdOf ByteArray.empty t146 0))) (fun _ hk => hk.2) (.slice Ao31 t150.length co31)) (fun _ hk => hk.2) (.slice Ao30 t155.length co30)) (fun _ hk => hk.2) (.int .i64 (rd t160 0))) (fun _ hk => hk.2) (.int .i64 (rd t160 1))) (fun _ hk => hk.2) (.slice Ao59 x168005_2.length co59)) (fun _ hk => hk.1), by (with_reducible repeat (first | apply rA | apply rN | apply rD)); exact rM (Kd.R_far (p := ⟨gb145, 5, none⟩) (Kd.R_far (p := ⟨gb145, 4, none⟩) (Kd.R_far (p := ⟨gb145, 3, none⟩) (Kd.R_far (p := ⟨gb145, 2, none⟩) (Kd.R_far (p := ⟨gb145, 1, none⟩) (Kd.R_far (p := ⟨gb145, 0, none⟩) (Kd.R_types HO_168002.out BK145.out (by decide)) (fun _ hk => hk.2) (.string (rdOf ByteArray.empty t146 0))) (fun _ hk => hk.2) (.slice Ao31 t150.length co31)) (fun _ hk => hk.2) (.slice Ao30 t155.length co30)) (fun _ hk => hk.2) (.int .i64 (rd t160 0))) (fun _ hk => hk.2) (.int .i64 (rd t160 1))) (fun _ hk => hk.2) (.slice Ao59 x168005_2.length co59)) (fun _ hk => hk.1), by (with_reducible repeat (first | apply Kd.S_alloc | apply Kd.S_drewN | apply Kd.S_drew)); exact Kd.S_mono (Kd.S_far (p := ⟨gb145, 5, none⟩) (Kd.S_far (p := ⟨gb145, 4, none⟩) (Kd.S_far (p := ⟨gb145, 3, none⟩) (Kd.S_far (p := ⟨gb145, 2, none⟩) (Kd.S_far (p := ⟨gb145, 1, none⟩) (Kd.S_far (p := ⟨gb145, 0, none⟩) (Kd.S_types HO_168005.out BK145.out (by decide)) (fun _ hk => hk.2) (.string (rdOf ByteArray.empty t146 0))) (fun _ hk => hk.2) (.slice Ao31 t150.length co31)) (fun _ hk => hk.2) (.slice Ao30 t155.length co30)) (fun _ hk => hk.2) (.int .i64 (rd t160 0))) (fun _ hk => hk.2) (.int .i64 (rd t160 1))) (fun _ hk => hk.2) (.slice Ao59 x168005_2.length co59)) (fun _ hk => ⟨hk.1.1, hk.1.2⟩), by repeat (first | (with_reducible first | exact HB.out | apply bA | apply bN | apply bD | refine bS ?_ GE145.out | refine bS ?_ GE167.out) | exact HB.out)⟩
              ·replace c55 := Bool.eq_false_iff.mpr c55
               subst c55
               have H1 : (some ((⟨#[]⟩ : ByteArray), ([] : List Int), ([] : List Int), 0, 0, ([] : List (List Int)), false)) = some (r1, r2, r3, r4, r5, r6, r7) := by rw [if_neg (show ¬ (false = true) by decide)] at H; exact H
               clear H
               have H := H1
               clear H1
               simp only [Option.some.injEq, Prod.mk.injEq] at H
               obtain ⟨rfl, rfl, rfl, rfl, rfl, rfl, rfl⟩ := H
               obtain ⟨Ao59, co59, eo59⟩ := Kd.S_slice HO_168005.out; subst eo59
               go_wp2_with (first | ((with_reducible refine gC (f := 24) rfl ?_); refine goesL_ (some 88) rfl rfl Tryd.func24 (by kernel_rfl) rfl #[.pointer (some ⟨gb167, 0, none⟩)] rfl (by (try simp only [List.map_toArray, List.map_cons, List.map_nil]); first | done | rfl | (simp only [List.length_drop, List.length_take]; rfl)) ?_; (with_reducible refine (spec_l05Ok.calls k2 ⟨gb167, 0, none⟩ (rdOf ByteArray.empty t146 0) t150 t155 (rd t160 0) (rd t160 1) x168005_2 false _ ?side1 A54.out).mono ?_); (case side1 => exact C_box (t := 25) (show _ from by (with_reducible repeat (first | refine kN ?_ _ | refine kD ?_ | refine kA ?_ _)); exact BK167.out) (k25_mk _ (⟨(rdOf ByteArray.empty t146 0), t150, t155, (rd t160 0), (rd t160 1), x168005_2⟩ : S25) (by exact (Kd.R_reads' HO_168001.out).2.1) (by repeat (first | exact (Kd.R_reads' HO_168001.out).2.2 | (with_reducible refine cA ?_ _) | (with_reducible refine cN ?_ _) | (with_reducible refine cD ?_))) (by exact (Kd.R_reads' HO_168002.out).2.1) (by repeat (first | exact (Kd.R_reads' HO_168002.out).2.2 | (with_reducible refine cA ?_ _) | (with_reducible refine cN ?_ _) | (with_reducible refine cD ?_))) (by exact (Kd.S_reads' HO_168005.out).2.1) (by repeat (first | exact (Kd.S_reads' HO_168005.out).2.2 | (with_reducible refine cA ?_ _) | (with_reducible refine cN ?_ _) | (with_reducible refine cD ?_))))); rintro e w' ⟨rfl, ⟨nd, rfl⟩⟩; refine ⟨_, rfl, ?_⟩; (try (rw [drewN_self wr]; generalize hq_ : World.drewN wr _ = wr; have n0_ : Aside0 (Kd.R (Kd.int .i64) 2 wr w.heap.size (fun k_ => some k_ ≠ (.slice Ao30 t155.length co30 : Value).ownBlock) (.slice Ao31 t150.length co31) t150) := ⟨by rw [← hq_]; exact (by (with_reducible repeat (first | apply rA | apply rN | apply rD)); exact HO_168001.out)⟩; have n1_ : Aside0 (Kd.R (Kd.int .i64) 2 wr w.heap.size (fun k_ => some k_ ≠ (.slice Ao31 t150.length co31 : Value).ownBlock) (.slice Ao30 t155.length co30) t155) := ⟨by rw [← hq_]; exact (by (with_reducible repeat (first | apply rA | apply rN | apply rD)); exact HO_168002.out)⟩; have n2_ : Aside0 (Kd.S (Kd.slice 2 (Kd.int .i64)) 22 wr w.heap.size (fun k_ => some k_ ≠ (.slice Ao31 t150.length co31 : Value).ownBlock ∧ some k_ ≠ (.slice Ao30 t155.length co30 : Value).ownBlock) (.slice Ao59 x168005_2.length co59) x168005_2) := ⟨by rw [← hq_]; exact (by (with_reducible repeat (first | apply Kd.S_alloc | apply Kd.S_drewN | apply Kd.S_drew)); exact HO_168005.out)⟩; have n3_ : Aside0 (Kd.R Kd.string 9 wr w.heap.size (fun _ => True) (.slice (some ad149) t146.length co17) t146) := ⟨by rw [← hq_]; exact (by (with_reducible repeat (first | apply rA | apply rN | apply rD)); exact HO_4.out)⟩; have n4_ : Aside0 (wr.heap[gb145]? = some (.cells #[.string x146000_2, .slice none 0 0, .slice none 0 0, .int .i64 x146003_2, .int .i64 x146004_2, .slice none 0 0] 25 (0, 0))) := ⟨by rw [← hq_]; exact (by (with_reducible repeat (first | refine kN ?_ _ | refine kD ?_ | refine kA ?_ _)); exact BK145.out)⟩; have n5_ : Aside0 (wr.heap[gb167]? = some (.cells #[.string (rdOf ByteArray.empty t146 0), .slice Ao31 t150.length co31, .slice Ao30 t155.length co30, .int .i64 (rd t160 0), .int .i64 (rd t160 1), (.slice Ao59 x168005_2.length co59)] 25 (0, 0))) := ⟨by rw [← hq_]; exact (by (with_reducible repeat (first | refine kN ?_ _ | refine kD ?_ | refine kA ?_ _)); exact BK167.out)⟩; have n6_ : Aside0 (Below w.heap.size w wr) := ⟨by rw [← hq_]; exact (by repeat (first | (with_reducible first | exact HB.out | apply bA | apply bN | apply bD | refine bS ?_ GE145.out | refine bS ?_ GE167.out) | exact HB.out))⟩; clear HO_168001 HO_168002 HO_168005 HO_4 BK145 BK167 HB hq_; have HO_168001 := n0_; have HO_168002 := n1_; have HO_168005 := n2_; have HO_4 := n3_; have BK145 := n4_; have BK167 := n5_; have HB := n6_; clear n0_ n1_ n2_ n3_ n4_ n5_ n6_)); have hnb60 := NB145_167.out; have hnc60 := NB167_145.out; have hcz61_0 : wr.cell? ⟨gb145, 0, none⟩ = some (.string x146000_2) := (kC BK145.out 0).trans rfl; have hcz61_1 : wr.cell? ⟨gb145, 1, none⟩ = some (.slice none 0 0) := (kC BK145.out 1).trans rfl; have hcz61_2 : wr.cell? ⟨gb145, 2, none⟩ = some (.slice none 0 0) := (kC BK145.out 2).trans rfl; have hcz61_3 : wr.cell? ⟨gb145, 3, none⟩ = some (.int .i64 x146003_2) := (kC BK145.out 3).trans rfl; have hcz61_4 : wr.cell? ⟨gb145, 4, none⟩ = some (.int .i64 x146004_2) := (kC BK145.out 4).trans rfl; have hcz61_5 : wr.cell? ⟨gb145, 5, none⟩ = some (.slice none 0 0) := (kC BK145.out 5).trans rfl; have hfz61_0 := blk_frozen BK145.out 0; have hfz61_1 := blk_frozen BK145.out 1; have hfz61_2 := blk_frozen BK145.out 2; have hfz61_3 := blk_frozen BK145.out 3; have hfz61_4 := blk_frozen BK145.out 4; have hfz61_5 := blk_frozen BK145.out 5))
               refine bodyPost_ret (results_ct rfl _ _ gb145 25 #[.string (⟨#[]⟩ : ByteArray), .slice none 0 0, .slice none 0 0, .int .i64 0, .int .i64 0, .slice none 0 0] (0, 0) _ rfl (by (with_reducible repeat (first | refine kN ?_ _ | refine kD ?_ | refine kA ?_ _)); refine blk_put (cs := #[.string (⟨#[]⟩ : ByteArray), .slice none 0 0, .slice none 0 0, .int .i64 0, .int .i64 0, .slice none 0 0]) ?_ 5 _ rfl; (with_reducible repeat (first | refine kN ?_ _ | refine kD ?_ | refine kA ?_ _)); refine blk_put (cs := #[.string (⟨#[]⟩ : ByteArray), .slice none 0 0, .slice none 0 0, .int .i64 0, .int .i64 x146004_2, .slice none 0 0]) ?_ 4 _ rfl; (with_reducible repeat (first | refine kN ?_ _ | refine kD ?_ | refine kA ?_ _)); refine blk_put (cs := #[.string (⟨#[]⟩ : ByteArray), .slice none 0 0, .slice none 0 0, .int .i64 x146003_2, .int .i64 x146004_2, .slice none 0 0]) ?_ 3 _ rfl; (with_reducible repeat (first | refine kN ?_ _ | refine kD ?_ | refine kA ?_ _)); refine blk_put (cs := #[.string (⟨#[]⟩ : ByteArray), .slice none 0 0, .slice none 0 0, .int .i64 x146003_2, .int .i64 x146004_2, .slice none 0 0]) ?_ 2 _ rfl; (with_reducible repeat (first | refine kN ?_ _ | refine kD ?_ | refine kA ?_ _)); refine blk_put (cs := #[.string (⟨#[]⟩ : ByteArray), .slice none 0 0, .slice none 0 0, .int .i64 x146003_2, .int .i64 x146004_2, .slice none 0 0]) ?_ 1 _ rfl; (with_reducible repeat (first | refine kN ?_ _ | refine kD ?_ | refine kA ?_ _)); refine blk_put (cs := #[.string x146000_2, .slice none 0 0, .slice none 0 0, .int .i64 x146003_2, .int .i64 x146004_2, .slice none 0 0]) ?_ 0 _ rfl; (with_reducible repeat (first | refine kN ?_ _ | refine kD ?_ | refine kA ?_ _)); exact BK145.out) Tryd.underlying25 rfl (by kernel_rfl)) rfl ?_
               exact ⟨_, _, _, by first | rfl | (simp [errW_none, errW_some] <;> rfl) | (simp [*, errW_none, errW_some] <;> rfl), by first | exact Kd.R_nil _ _ _ _ _ | exact Kd.N_nil _ _ _ _ _ | exact Kd.V_nil _ _ _ _ _ | exact Kd.Q_nil _ _ _ _ _ | exact Kd.S_nil _ _ _ _ _, by first | exact Kd.R_nil _ _ _ _ _ | exact Kd.N_nil _ _ _ _ _ | exact Kd.V_nil _ _ _ _ _ | exact Kd.Q_nil _ _ _ _ _ | exact Kd.S_nil _ _ _ _ _, by first | exact Kd.S_nil _ _ _ _ _ | exact Kd.N_nil _ _ _ _ _ | exact Kd.V_nil _ _ _ _ _ | exact Kd.Q_nil _ _ _ _ _ | exact Kd.R_nil _ _ _ _ _, by repeat (first | (with_reducible first | exact HB.out | apply bA | apply bN | apply bD | refine bS ?_ GE145.out | refine bS ?_ GE167.out) | exact HB.out)⟩
          ·rw [if_neg c27] at H
           exact absurd H (by simp)
         ·rw [if_neg c26] at H
          exact absurd H (by simp)
        ·rw [if_neg c25] at H
         exact absurd H (by simp)
    ·rw [if_neg c12] at H
     exact absurd H (by simp)
   ·rw [if_neg c10] at H
    exact absurd H (by simp)
  ·rw [if_neg c8] at H
   exact absurd H (by simp)

end Go.Proofs.YtbebcnnibjkclaaDoor.R
-- shrunk
-- tight
