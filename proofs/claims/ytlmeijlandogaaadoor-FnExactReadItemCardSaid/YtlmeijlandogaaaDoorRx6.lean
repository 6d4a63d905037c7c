/- What functions of the given program compute, as plain Lean functions, and that the code comes to just that; by a program of this session over the kit's print. No condition. -/
import Derived.Test.YtlmeijlandogaaaDoorRx0
import Derived.Test.YtlmeijlandogaaaDoorRx1
import Derived.Test.YtlmeijlandogaaaDoorRx3
import Derived.Test.YtlmeijlandogaaaDoorRx5
namespace Go.Proofs.YtlmeijlandogaaaDoor.R
open Go.RowKit Go.Proofs.YtlmeijlandogaaaDoorW.PrintWords Go.Proofs.YtlmeijlandogaaaDoorW.PrintLast Go.Proofs.YtlmeijlandogaaaDoorW.PrintMore
open Go.Proofs.YtlmeijlandogaaaDoorW.PrintWords renaming below_alloc → bA, pw_below_drewN → bN, below_drew1 → bD, below_set → bS, blk_drewN → kN, blk_drew → kD, blk_alloc → kA, blk_below → kB, below_size → bZ, below_step → bP, blk_far → kF, blk_lt → kL, gate_callee → gC, box_event → bE, blk_cell → kC
open Go.Proofs.YtlmeijlandogaaaDoorW.PrintLast renaming take_ofW → tW, any_of → aO, one_of → oO, i64_w → iW, i32_w → jW
open Go.Proofs.YtlmeijlandogaaaDoorW.PrintWords.Kd renaming R_alloc → rA, R_drewN → rN, R_drew → rD, R_lower → rL, R_below → rB
open List renaming setIfInBounds_toArray → sI, set_cons_zero → sZ, set_cons_succ → sS
open Bool renaming true → T, false → F
attribute [local go_sem] max2_int min2_int max_two min_two max_three min_three max_four min_four   -- for this text's walks alone
set_option linter.unusedVariables false
set_option linter.unusedSimpArgs false

/-! ### spec_l08Read: function 58 -/
def spec_l08Read.j0 : Nat → List ByteArray → List Int → Bool → Option (ByteArray × Int × Int × Int × Int × Int × Bool)
 | 0, _, _, _ => none
 | k + 1, x4, x5, x27 => if x27 = true then (some ((⟨#[]⟩ : ByteArray), 0, 0, 0, 0, 0, false)) else (if 0 < (x4.length : Int) then (if 0 < (x5.length : Int) then (if 1 < (x5.length : Int) then (if 2 < (x5.length : Int) then (if 3 < (x5.length : Int) then (if 4 < (x5.length : Int) then ((spec_l08One.f k (rdOf ByteArray.empty x4 0) (rd x5 0) (rd x5 1) (rd x5 2) (rd x5 3) (rd x5 4)).bind fun t154 => (if t154 = true then (some (rdOf ByteArray.empty x4 0, rd x5 0, rd x5 1, rd x5 2, rd x5 3, rd x5 4, true)) else (some ((⟨#[]⟩ : ByteArray), 0, 0, 0, 0, 0, false)))) else (none)) else (none)) else (none)) else (none)) else (none)) else (none))
def spec_l08Read.f (k : Nat) (a0 : ByteArray) : Option (ByteArray × Int × Int × Int × Int × Int × Bool) := (spec_l01Split.f k a0 32).bind fun t139 => (if (t139.length : Int) = 2 then (if 1 < (t139.length : Int) then ((spec_ReadList.f k (rdOf ByteArray.empty t139 1)).bind fun bt143 => (if bt143.2 = true then (spec_l08Read.j0 k t139 bt143.1 ((bt143.1.length : Int) != 5)) else (spec_l08Read.j0 k t139 bt143.1 true))) else (none)) else (some ((⟨#[]⟩ : ByteArray), 0, 0, 0, 0, 0, false)))
theorem spec_l08Read.mono_l : ∀ k, (∀ y0 y1 y2, LeO (spec_l08Read.j0 k y0 y1 y2) (spec_l08Read.j0 (k + 1) y0 y1 y2))
 | 0 => fun _ _ _ r h => by simp [spec_l08Read.j0] at h
 | k + 1 => by
  have ih0 := spec_l08Read.mono_l k
  ·intro y0 y1 y2
   unfold spec_l08Read.j0
   repeat' first
   | (with_reducible exact ih0 _ _ _)
   | (with_reducible exact spec_ReadList.mono _ _)
   | (with_reducible exact spec_l01Split.mono _ _ _)
   | (with_reducible exact spec_l08One.mono _ _ _ _ _ _ _)
   | (with_reducible exact LeO.refl _)
   | (with_reducible exact LeO.none _)
   | (with_reducible refine LeO.ite ?_ ?_)
   | (with_reducible refine LeO.bind ?_ (fun _ => ?_))
   | exact ih0 _ _ _
   | exact spec_ReadList.mono _ _
   | exact spec_l01Split.mono _ _ _
   | exact spec_l08One.mono _ _ _ _ _ _ _
   | exact LeO.none _
   | refine LeO.ite ?_ ?_
   | refine LeO.bind ?_ (fun _ => ?_)
theorem spec_l08Read.mono : ∀ a0 k, LeO (spec_l08Read.f k a0) (spec_l08Read.f (k + 1) a0) := by
 intro a0 k
 have ih0 := spec_l08Read.mono_l k
 unfold spec_l08Read.f
 repeat' first
   | (with_reducible exact ih0 _ _ _)
   | (with_reducible exact spec_ReadList.mono _ _)
   | (with_reducible exact spec_l01Split.mono _ _ _)
   | (with_reducible exact spec_l08One.mono _ _ _ _ _ _ _)
   | (with_reducible exact LeO.refl _)
   | (with_reducible exact LeO.none _)
   | (with_reducible refine LeO.ite ?_ ?_)
   | (with_reducible refine LeO.bind ?_ (fun _ => ?_))
   | exact ih0 _ _ _
   | exact spec_ReadList.mono _ _
   | exact spec_l01Split.mono _ _ _
   | exact spec_l08One.mono _ _ _ _ _ _ _
   | exact LeO.none _
   | refine LeO.ite ?_ ?_
   | refine LeO.bind ?_ (fun _ => ?_)
def spec_l08Read.T7 : Bool × List (List Nat × List Nat) := (true, [([], []), ([0], [0]), ([1], [1]), ([], []), ([3], [3]), ([4], [4]), ([], []), ([6], [6]), ([7], [7]), ([], []), ([9], [9]), ([10], [10]), ([], []), ([12], [12]), ([13], [13]), ([], []), ([15], [15]), ([16], [16]), ([2, 5, 8, 11, 14, 17], [2, 5, 8, 11, 14, 17]), ([], []), ([19, 18, 0, 1, 2, 3, 4, 5, 6, 7, 8, 9, 10, 11, 12, 13, 14, 15, 16, 17, 18, 19], [18, 19])])
def spec_l08Read.B7 : List Nat := [0, 1, 3, 0, 8, 24, 0, 64, 192, 0, 512, 1536, 0, 4096, 12288, 0, 32768, 98304, 262143, 0, 1048575]
theorem spec_l08Read.tab7 : rtab .any (opsOf Tryd.f58 7) = spec_l08Read.T7 := by kernel_rfl
theorem spec_l08Read.bits7 : waitsOk spec_l08Read.T7.2 spec_l08Read.B7 = true := by kernel_rfl
set_option maxHeartbeats 8000000 in
set_option maxRecDepth 100000 in
theorem spec_l08Read.calls (k : Nat) (a0 : ByteArray) (r1 : ByteArray) (r2 : Int) (r3 : Int) (r4 : Int) (r5 : Int) (r6 : Int) (r7 : Bool) (w : World) (h : spec_l08Read.f k a0 = some (r1, r2, r3, r4, r5, r6, r7)) :
  Calls Tryd.prog 58 #[.string a0] w fun e w' => e = .returned (.tuple #[.agg #[.string r1, .int .i64 r2, .int .i64 r3, .int .i64 r4, .int .i64 r5, .int .i64 r6], .bool r7]) ∧ Below w.heap.size w w' := by
 have hu50 := Tryd.underlying50
 have HB := Aside0.mk (Below.refl w.heap.size w)
 have H : ((spec_l01Split.f k a0 32).bind fun t139 => (if (t139.length : Int) = 2 then (if 1 < (t139.length : Int) then ((spec_ReadList.f k (rdOf ByteArray.empty t139 1)).bind fun bt143 => (if bt143.2 = true then (spec_l08Read.j0 k t139 bt143.1 ((bt143.1.length : Int) != 5)) else (spec_l08Read.j0 k t139 bt143.1 true))) else (none)) else (some ((⟨#[]⟩ : ByteArray), 0, 0, 0, 0, 0, false)))) = some (r1, r2, r3, r4, r5, r6, r7) := h
 clear h
 replace H := Option.bind_eq_some_iff.mp H
 obtain ⟨t139, A20, H⟩ := H
 replace H : (if (t139.length : Int) = 2 then (if 1 < (t139.length : Int) then ((spec_ReadList.f k (rdOf ByteArray.empty t139 1)).bind fun bt143 => (if bt143.2 = true then (spec_l08Read.j0 k t139 bt143.1 ((bt143.1.length : Int) != 5)) else (spec_l08Read.j0 k t139 bt143.1 true))) else (none)) else (some ((⟨#[]⟩ : ByteArray), 0, 0, 0, 0, 0, false))) = some (r1, r2, r3, r4, r5, r6, r7) := H
 have A2 := Aside0.mk A20
 clear A20
 by_cases c3 : (t139.length : Int) = 2
 ·rw [if_pos c3] at H
  have c3b0 : ((t139.length : Int) == 2) = true := beq_iff_eq.mpr c3
  have c3b1 : ((t139.length : Int) != 2) = false := bne_eq_false_iff_eq.mpr c3
  clear c3
  by_cases c4 : 1 < (t139.length : Int)
  ·rw [if_pos c4] at H
   have c4b0 : decide (1 < (t139.length : Int)) = true := decide_eq_true c4
   have c4b1 : decide (1 < t139.length) = true := decide_eq_true (by omega)
   clear c4
   replace H := Option.bind_eq_some_iff.mp H
   obtain ⟨⟨t143, t144⟩, A50, H⟩ := H
   replace H : (if t144 = true then (spec_l08Read.j0 k t139 t143 ((t143.length : Int) != 5)) else (spec_l08Read.j0 k t139 t143 true)) = some (r1, r2, r3, r4, r5, r6, r7) := H
   have A5 := Aside0.mk A50
   clear A50
   have HC6 := Aside0.mk H
   clear H
   go_enter Tryd.func58, Tryd.ntmps58
   go_upto_region 5 with (first | ((with_reducible refine gate_dst (N := 2) rfl ?_); (try (refine gate_guard (by rfl) ?_; dsimp only)); refine bE ?hg (N := 2) ?hd (cs := #[.string (⟨#[]⟩ : ByteArray), .int .i64 0, .int .i64 0, .int .i64 0, .int .i64 0, .int .i64 0]) (t := 50) ?hr ?_; (case hd => rfl); (case hg => rfl); (case hr => first | (go_simp; done) | (go_simp; rfl)); intro gb138 hg w7 hbox hb; have n0_ := Aside0.mk (bP (by repeat (first | (with_reducible first | exact HB.out | apply bA | apply bN | apply bD) | exact HB.out)) hb); have n1_ := Aside0.mk (hbox); have n2_ := Aside0.mk ((by rw [hg]; exact (bZ (by repeat (first | (with_reducible first | exact HB.out | apply bA | apply bN | apply bD) | exact HB.out))) : w.heap.size ≤ gb138)); have n3_ := Aside0.mk ((by rw [hg]; exact (bZ (by repeat (first | (with_reducible first | exact HB.out | apply bA | apply bN | apply bD) | exact HB.out))) : w.heap.size ≤ gb138)); clear HB; have HB := n0_; have BK138 := n1_; have GW138 := n2_; have GE138 := n3_; clear n0_ n1_ n2_ n3_; clear hb hbox hg) | ((with_reducible refine gC (f := 37) rfl ?_); refine goesL_ (some 9) rfl rfl Tryd.func37 (by kernel_rfl) rfl #[.string a0, .int .u8 32] rfl (by (try simp only [List.map_toArray, List.map_cons, List.map_nil]); first | done | rfl | (simp only [List.length_drop, List.length_take]; rfl)) ?_; (with_reducible refine (spec_l01Split.calls k a0 32 t139 _ A2.out).mono ?_); rintro e w8 ⟨v140, rfl, ho0, hb⟩; refine ⟨_, rfl, ?_⟩; have n0_ := Aside0.mk (rL ho0 (bZ (by repeat (first | (with_reducible first | exact HB.out | apply bA | apply bN | apply bD | refine bS ?_ GE138.out) | exact HB.out)))); have n1_ := Aside0.mk (kB (g := gb138) (o := .cells #[.string (⟨#[]⟩ : ByteArray), .int .i64 0, .int .i64 0, .int .i64 0, .int .i64 0, .int .i64 0] 50 (0, 0)) (by (with_reducible repeat (first | refine kN ?_ _ | refine kD ?_ | refine kA ?_ _)); exact BK138.out) hb); have n2_ := Aside0.mk (bP (by repeat (first | (with_reducible first | exact HB.out | apply bA | apply bN | apply bD | refine bS ?_ GE138.out) | exact HB.out)) hb); clear BK138; clear HB; have HO141 := n0_; have BK138 := n1_; have HB := n2_; clear n0_ n1_ n2_; (try clear hb); (try clear hb2); (try clear hk); (try clear hi); (try clear ho0); obtain ⟨Ao9, co9, eo9⟩ := Kd.R_slice HO141.out; subst eo9; have p142 : 0 ≤ (1 : Int) := (by omega); have q142 : 1 < (t139.length : Int) := of_decide_eq_true (by first | (with_reducible assumption) | assumption); obtain ⟨ad142, e142, hx142_0⟩ := Kd.at_string (Kd.R_reads' HO141.out).2.2 1 p142 q142; cases e142; (try simp only [show (1 : Int).toNat = 1 from rfl, Nat.reduceMul, Nat.reduceEqDiff, Go.Addr.add, ↓reduceIte] at hx142_0); have qi142 : (1 < t139.length) = True := eq_true (by omega); (try rw [show ((1 : Int)).toNat = 1 from rfl] at hx142_0); replace p142 := eq_true p142; replace q142 := eq_true q142) | ((with_reducible refine gC (f := 38) rfl ?_); refine goesL_ (some 18) rfl rfl Tryd.func38 (by kernel_rfl) rfl #[.string (rdOf ByteArray.empty t139 1)] rfl (by (try simp only [List.map_toArray, List.map_cons, List.map_nil]); first | done | rfl | (simp only [List.length_drop, List.length_take]; rfl)) ?_; (with_reducible refine (spec_ReadList.calls k (rdOf ByteArray.empty t139 1) t143 t144 _ A5.out).mono ?_); rintro e w10 ⟨v145, rfl, ho0, hb⟩; refine ⟨_, rfl, ?_⟩; have n0_ := Aside0.mk (rB (by (with_reducible repeat (first | apply rA | apply rN | apply rD)); exact HO141.out) hb); have n1_ := Aside0.mk (rL ho0 (bZ (by repeat (first | (with_reducible first | exact HB.out | apply bA | apply bN | apply bD | refine bS ?_ GE138.out) | exact HB.out)))); have n2_ := Aside0.mk (kB (g := gb138) (o := .cells #[.string (⟨#[]⟩ : ByteArray), .int .i64 0, .int .i64 0, .int .i64 0, .int .i64 0, .int .i64 0] 50 (0, 0)) (by (with_reducible repeat (first | refine kN ?_ _ | refine kD ?_ | refine kA ?_ _)); exact BK138.out) hb); have n3_ := Aside0.mk (bP (by repeat (first | (with_reducible first | exact HB.out | apply bA | apply bN | apply bD | refine bS ?_ GE138.out) | exact HB.out)) hb); clear HO141; clear BK138; clear HB; have HO141 := n0_; have HO146 := n1_; have BK138 := n2_; have HB := n3_; clear n0_ n1_ n2_ n3_; (try clear hb); (try clear hb2); (try clear hk); (try clear hi); (try clear ho0)))
   (try simp only [Act.put, sI, sZ, sS])
   go_cut [27] (fun v27 wc => ∃ (kq : Nat) (x27_5 : Bool), v27 = .bool x27_5 ∧ Aside0 (spec_l08Read.j0 kq t139 t143 x27_5 = some (r1, r2, r3, r4, r5, r6, r7)) ∧ Aside0 (kq ≤ k) ∧ Aside0 (Kd.R Kd.string 9 wc w.heap.size (fun _ => True) (.slice (some ad142) t139.length co9) t139) ∧ Aside0 (Kd.R (Kd.int .i64) 2 wc w.heap.size (fun _ => True) v145 t143) ∧ Aside0 (wc.heap[gb138]? = some (.cells #[.string (⟨#[]⟩ : ByteArray), .int .i64 0, .int .i64 0, .int .i64 0, .int .i64 0, .int .i64 0] 50 (0, 0))) ∧ Aside0 (Below w.heap.size w wc))
   case first =>
    have H := HC6.out
    clear HC6
    by_cases c11 : t144 = true
    ·subst c11
     have H1 : (spec_l08Read.j0 k t139 t143 ((t143.length : Int) != 5)) = some (r1, r2, r3, r4, r5, r6, r7) := by rw [if_pos rfl] at H; exact H
     clear H
     have H := H1
     clear H1
     have H' := Aside0.mk H
     clear H
     obtain ⟨Ao12, co12, eo12⟩ := Kd.R_slice HO146.out
     subst eo12
     go_wp2
     go_meet
     case rel => exact ⟨_, (((t143.length : Int) != 5)), (by first | rfl | (simp; done) | (simp [*]; done)), H', ⟨by first | omega | exact Nat.le_refl _⟩, ⟨by (with_reducible repeat (first | apply rA | apply rN | apply rD)); exact HO141.out⟩, ⟨by (with_reducible repeat (first | apply rA | apply rN | apply rD)); exact HO146.out⟩, ⟨by (with_reducible repeat (first | refine kN ?_ _ | refine kD ?_ | refine kA ?_ _)); exact BK138.out⟩, ⟨by repeat (first | (with_reducible first | exact HB.out | apply bA | apply bN | apply bD | refine bS ?_ GE138.out) | exact HB.out)⟩⟩
    ·replace c11 := Bool.eq_false_iff.mpr c11
     subst c11
     have H1 : (spec_l08Read.j0 k t139 t143 true) = some (r1, r2, r3, r4, r5, r6, r7) := by rw [if_neg (show ¬ (false = true) by decide)] at H; exact H
     clear H
     have H := H1
     clear H1
     have H' := Aside0.mk H
     clear H
     go_wp2
     go_meet
     case rel => exact ⟨_, (true), (by first | rfl | (simp; done) | (simp [*]; done)), H', ⟨by first | omega | exact Nat.le_refl _⟩, ⟨by (with_reducible repeat (first | apply rA | apply rN | apply rD)); exact HO141.out⟩, ⟨by (with_reducible repeat (first | apply rA | apply rN | apply rD)); exact HO146.out⟩, ⟨by (with_reducible repeat (first | refine kN ?_ _ | refine kD ?_ | refine kA ?_ _)); exact BK138.out⟩, ⟨by repeat (first | (with_reducible first | exact HB.out | apply bA | apply bN | apply bD | refine bS ?_ GE138.out) | exact HB.out)⟩⟩
   case rest =>
    clear HC6
    try clear c1
    try clear p1
    try clear q1
    try clear hx1
    try clear qi1
    try clear p2
    try clear c3
    try clear c3b0
    try clear c3b1
    try clear c4
    try clear c4b0
    try clear c4b1
    try clear c5
    try clear c11
    try clear hx142_0
    try clear p142
    try clear q142
    obtain ⟨kq, x27_5, rfl, HA, HJ5, HO_4, HO_5, BK138, HB⟩ := hcut
    cases kq with
    | zero => exact absurd HA.out (by simp [spec_l08Read.j0])
    | succ kj5 =>
     have H := HA.out
     clear HA
     simp only [spec_l08Read.j0] at H
     by_cases c13 : x27_5 = true
     ·subst c13
      have H1 : (some ((⟨#[]⟩ : ByteArray), 0, 0, 0, 0, 0, false)) = some (r1, r2, r3, r4, r5, r6, r7) := by rw [if_pos rfl] at H; exact H
      clear H
      have H := H1
      clear H1
      simp only [Option.some.injEq, Prod.mk.injEq] at H
      obtain ⟨rfl, rfl, rfl, rfl, rfl, rfl, rfl⟩ := H
      have hcz14_0 : wc.cell? ⟨gb138, 0, none⟩ = some (.string (⟨#[]⟩ : ByteArray)) := (kC BK138.out 0).trans rfl
      have hcz14_1 : wc.cell? ⟨gb138, 1, none⟩ = some (.int .i64 0) := (kC BK138.out 1).trans rfl
      have hcz14_2 : wc.cell? ⟨gb138, 2, none⟩ = some (.int .i64 0) := (kC BK138.out 2).trans rfl
      have hcz14_3 : wc.cell? ⟨gb138, 3, none⟩ = some (.int .i64 0) := (kC BK138.out 3).trans rfl
      have hcz14_4 : wc.cell? ⟨gb138, 4, none⟩ = some (.int .i64 0) := (kC BK138.out 4).trans rfl
      have hcz14_5 : wc.cell? ⟨gb138, 5, none⟩ = some (.int .i64 0) := (kC BK138.out 5).trans rfl
      have hfz14_0 := blk_frozen BK138.out 0
      have hfz14_1 := blk_frozen BK138.out 1
      have hfz14_2 := blk_frozen BK138.out 2
      have hfz14_3 := blk_frozen BK138.out 3
      have hfz14_4 := blk_frozen BK138.out 4
      have hfz14_5 := blk_frozen BK138.out 5
      go_wp2
      refine bodyPost_ret (results_ct rfl _ _ gb138 50 #[.string (⟨#[]⟩ : ByteArray), .int .i64 0, .int .i64 0, .int .i64 0, .int .i64 0, .int .i64 0] (0, 0) _ rfl (by (with_reducible repeat (first | refine kN ?_ _ | refine kD ?_ | refine kA ?_ _)); refine blk_put (cs := #[.string (⟨#[]⟩ : ByteArray), .int .i64 0, .int .i64 0, .int .i64 0, .int .i64 0, .int .i64 0]) ?_ 5 _ rfl; (with_reducible repeat (first | refine kN ?_ _ | refine kD ?_ | refine kA ?_ _)); refine blk_put (cs := #[.string (⟨#[]⟩ : ByteArray), .int .i64 0, .int .i64 0, .int .i64 0, .int .i64 0, .int .i64 0]) ?_ 4 _ rfl; (with_reducible repeat (first | refine kN ?_ _ | refine kD ?_ | refine kA ?_ _)); refine blk_put (cs := #[.string (⟨#[]⟩ : ByteArray), .int .i64 0, .int .i64 0, .int .i64 0, .int .i64 0, .int .i64 0]) ?_ 3 _ rfl; (with_reducible repeat (first | refine kN ?_ _ | refine kD ?_ | refine kA ?_ _)); refine blk_put (cs := #[.string (⟨#[]⟩ : ByteArray), .int .i64 0, .int .i64 0, .int .i64 0, .int .i64 0, .int .i64 0]) ?_ 2 _ rfl; (with_reducible repeat (first | refine kN ?_ _ | refine kD ?_ | refine kA ?_ _)); refine blk_put (cs := #[.string (⟨#[]⟩ : ByteArray), .int .i64 0, .int .i64 0, .int .i64 0, .int .i64 0, .int .i64 0]) ?_ 1 _ rfl; (with_reducible repeat (first | refine kN ?_ _ | refine kD ?_ | refine kA ?_ _)); refine blk_put (cs := #[.string (⟨#[]⟩ : ByteArray), .int .i64 0, .int .i64 0, .int .i64 0, .int .i64 0, .int .i64 0]) ?_ 0 _ rfl; (with_reducible repeat (first | refine kN ?_ _ | refine kD ?_ | refine kA ?_ _)); exact BK138.out) Tryd.underlying50 rfl (by kernel_rfl)) rfl ?_
      exact ⟨by first | rfl | (simp [errW_none, errW_some] <;> rfl) | (simp [*, errW_none, errW_some] <;> rfl), by repeat (first | (with_reducible first | exact HB.out | apply bA | apply bN | apply bD | refine bS ?_ GE138.out) | exact HB.out)⟩
     ·replace c13 := Bool.eq_false_iff.mpr c13
      subst c13
      have H1 : (if 0 < (t139.length : Int) then (if 0 < (t143.length : Int) then (if 1 < (t143.length : Int) then (if 2 < (t143.length : Int) then (if 3 < (t143.length : Int) then (if 4 < (t143.length : Int) then ((spec_l08One.f kj5 (rdOf ByteArray.empty t139 0) (rd t143 0) (rd t143 1) (rd t143 2) (rd t143 3) (rd t143 4)).bind fun t154 => (if t154 = true then (some (rdOf ByteArray.empty t139 0, rd t143 0, rd t143 1, rd t143 2, rd t143 3, rd t143 4, true)) else (some ((⟨#[]⟩ : ByteArray), 0, 0, 0, 0, 0, false)))) else (none)) else (none)) else (none)) else (none)) else (none)) else (none)) = some (r1, r2, r3, r4, r5, r6, r7) := by rw [if_neg (show ¬ (false = true) by decide)] at H; exact H
      clear H
      have H := H1
      clear H1
      by_cases c15 : 0 < (t139.length : Int)
      ·rw [if_pos c15] at H
       have c15b0 : decide (0 < (t139.length : Int)) = true := decide_eq_true c15
       have c15b1 : decide (0 < t139.length) = true := decide_eq_true (by omega)
       clear c15
       by_cases c16 : 0 < (t143.length : Int)
       ·rw [if_pos c16] at H
        have c16b0 : decide (0 < (t143.length : Int)) = true := decide_eq_true c16
        have c16b1 : decide (0 < t143.length) = true := decide_eq_true (by omega)
        clear c16
        by_cases c17 : 1 < (t143.length : Int)
        ·rw [if_pos c17] at H
         have c17b0 : decide (1 < (t143.length : Int)) = true := decide_eq_true c17
         have c17b1 : decide (1 < t143.length) = true := decide_eq_true (by omega)
         clear c17
         by_cases c18 : 2 < (t143.length : Int)
         ·rw [if_pos c18] at H
          have c18b0 : decide (2 < (t143.length : Int)) = true := decide_eq_true c18
          have c18b1 : decide (2 < t143.length) = true := decide_eq_true (by omega)
          clear c18
          by_cases c19 : 3 < (t143.length : Int)
          ·rw [if_pos c19] at H
           have c19b0 : decide (3 < (t143.length : Int)) = true := decide_eq_true c19
           have c19b1 : decide (3 < t143.length) = true := decide_eq_true (by omega)
           clear c19
           by_cases c20 : 4 < (t143.length : Int)
           ·rw [if_pos c20] at H
            have c20b0 : decide (4 < (t143.length : Int)) = true := decide_eq_true c20
            have c20b1 : decide (4 < t143.length) = true := decide_eq_true (by omega)
            clear c20
            replace H := Option.bind_eq_some_iff.mp H
            obtain ⟨t154, A210, H⟩ := H
            replace H : (if t154 = true then (some (rdOf ByteArray.empty t139 0, rd t143 0, rd t143 1, rd t143 2, rd t143 3, rd t143 4, true)) else (some ((⟨#[]⟩ : ByteArray), 0, 0, 0, 0, 0, false))) = some (r1, r2, r3, r4, r5, r6, r7) := H
            have A21 := Aside0.mk A210
            clear A210
            by_cases c22 : t154 = true
            ·subst c22
             have H1 : (some (rdOf ByteArray.empty t139 0, rd t143 0, rd t143 1, rd t143 2, rd t143 3, rd t143 4, true)) = some (r1, r2, r3, r4, r5, r6, r7) := by rw [if_pos rfl] at H; exact H
             clear H
             have H := H1
             clear H1
             simp only [Option.some.injEq, Prod.mk.injEq] at H
             obtain ⟨rfl, rfl, rfl, rfl, rfl, rfl, rfl⟩ := H
             try go_wp2
             have n0_ := Aside0.mk (rD HO_4.out)
             have n1_ := Aside0.mk (rD HO_5.out)
             have n2_ := Aside0.mk (kD BK138.out)
             have n3_ := Aside0.mk (bD HB.out)
             clear HO_4
             clear HO_5
             clear BK138
             clear HB
             have HO_4 := n0_
             have HO_5 := n1_
             have BK138 := n2_
             have HB := n3_
             clear n0_ n1_ n2_ n3_
             have p147 : 0 ≤ (0 : Int) := (by omega)
             have q147 : 0 < (t139.length : Int) := of_decide_eq_true (by first | (with_reducible assumption) | assumption)
             obtain ⟨ad147, e147, hx147_0⟩ := Kd.at_string (Kd.R_reads' HO_4.out).2.2 0 p147 q147
             obtain rfl : ad142 = ad147 := (by injection e147)
             have qi147 : (0 < t139.length) = True := eq_true (by omega)
             (try rw [show ((0 : Int)).toNat = 0 from rfl] at hx147_0)
             (try rw [Addr.add_zero'] at hx147_0)
             replace p147 := eq_true p147
             replace q147 := eq_true q147
             obtain ⟨Ao24, co24, eo24⟩ := Kd.R_slice HO_5.out
             (first | subst eo24 | (injection eo24 with f1_ f2_ f3_; have f4_ := f1_.symm; have f5_ := f3_.symm; clear f1_ f2_ f3_; subst f4_; subst f5_))
             have p148 : 0 ≤ (0 : Int) := (by omega)
             have q148 : 0 < (t143.length : Int) := of_decide_eq_true (by first | (with_reducible assumption) | assumption)
             obtain ⟨ad148, e148, hx148_0⟩ := Kd.at_int (Kd.R_reads' HO_5.out).2.2 0 p148 q148
             cases e148
             have qi148 : (0 < t143.length) = True := eq_true (by omega)
             (try rw [show ((0 : Int)).toNat = 0 from rfl] at hx148_0)
             (try rw [Addr.add_zero'] at hx148_0)
             replace p148 := eq_true p148
             replace q148 := eq_true q148
             have p149 : 0 ≤ (1 : Int) := (by omega)
             have q149 : 1 < (t143.length : Int) := of_decide_eq_true (by first | (with_reducible assumption) | assumption)
             obtain ⟨ad149, e149, hx149_0⟩ := Kd.at_int (Kd.R_reads' HO_5.out).2.2 1 p149 q149
             obtain rfl : ad148 = ad149 := (by injection e149)
             (try simp only [show (1 : Int).toNat = 1 from rfl, Nat.reduceMul, Nat.reduceEqDiff, Go.Addr.add, ↓reduceIte] at hx149_0)
             have qi149 : (1 < t143.length) = True := eq_true (by omega)
             (try rw [show ((1 : Int)).toNat = 1 from rfl] at hx149_0)
             replace p149 := eq_true p149
             replace q149 := eq_true q149
             have p150 : 0 ≤ (2 : Int) := (by omega)
             have q150 : 2 < (t143.length : Int) := of_decide_eq_true (by first | (with_reducible assumption) | assumption)
             obtain ⟨ad150, e150, hx150_0⟩ := Kd.at_int (Kd.R_reads' HO_5.out).2.2 2 p150 q150
             obtain rfl : ad148 = ad150 := (by injection e150)
             (try simp only [show (2 : Int).toNat = 2 from rfl, Nat.reduceMul, Nat.reduceEqDiff, Go.Addr.add, ↓reduceIte] at hx150_0)
             have qi150 : (2 < t143.length) = True := eq_true (by omega)
             (try rw [show ((2 : Int)).toNat = 2 from rfl] at hx150_0)
             replace p150 := eq_true p150
             replace q150 := eq_true q150
             have p151 : 0 ≤ (3 : Int) := (by omega)
             have q151 : 3 < (t143.length : Int) := of_decide_eq_true (by first | (with_reducible assumption) | assumption)
             obtain ⟨ad151, e151, hx151_0⟩ := Kd.at_int (Kd.R_reads' HO_5.out).2.2 3 p151 q151
             obtain rfl : ad148 = ad151 := (by injection e151)
             (try simp only [show (3 : Int).toNat = 3 from rfl, Nat.reduceMul, Nat.reduceEqDiff, Go.Addr.add, ↓reduceIte] at hx151_0)
             have qi151 : (3 < t143.length) = True := eq_true (by omega)
             (try rw [show ((3 : Int)).toNat = 3 from rfl] at hx151_0)
             replace p151 := eq_true p151
             replace q151 := eq_true q151
             have p152 : 0 ≤ (4 : Int) := (by omega)
             have q152 : 4 < (t143.length : Int) := of_decide_eq_true (by first | (with_reducible assumption) | assumption)
             obtain ⟨ad152, e152, hx152_0⟩ := Kd.at_int (Kd.R_reads' HO_5.out).2.2 4 p152 q152
             obtain rfl : ad148 = ad152 := (by injection e152)
             (try simp only [show (4 : Int).toNat = 4 from rfl, Nat.reduceMul, Nat.reduceEqDiff, Go.Addr.add, ↓reduceIte] at hx152_0)
             have qi152 : (4 < t143.length) = True := eq_true (by omega)
             (try rw [show ((4 : Int)).toNat = 4 from rfl] at hx152_0)
             replace p152 := eq_true p152
             replace q152 := eq_true q152
             refine start_ (n := 21) (S := fun w' => w'.cell? ad142 = some (.string (rdOf ByteArray.empty t139 0)) ∧ w'.cell? ad148 = some (.int .i64 (rd t143 0)) ∧ w'.cell? ⟨ad148.block, ad148.off + 1, none⟩ = some (.int .i64 (rd t143 1)) ∧ w'.cell? ⟨ad148.block, ad148.off + 2, none⟩ = some (.int .i64 (rd t143 2)) ∧ w'.cell? ⟨ad148.block, ad148.off + 3, none⟩ = some (.int .i64 (rd t143 3)) ∧ w'.cell? ⟨ad148.block, ad148.off + 4, none⟩ = some (.int .i64 (rd t143 4))) (ds := []) #[F,F,F,F,F,F,F,F,F,F,F,F,F,F,F,F,F,F,F,F,F] (by kernel_rfl) rfl rfl ⟨hx147_0, hx148_0, hx149_0, hx150_0, hx151_0, hx152_0⟩ (fun hHeld => ?_); refine with_tabW spec_l08Read.tab7 spec_l08Read.bits7 (fun HT_ HW_ => ?_)
             generalize wc.drew = w23 at HO_4 HO_5 BK138 HB hx147_0 hx148_0 hx149_0 hx150_0 hx151_0 hx152_0 hHeld ⊢
             refine pure_ (i := 0) (N := some 29) (v := ?_) (a' := ?_) #[T,F,F,F,F,F,F,F,F,F,F,F,F,F,F,F,F,F,F,F,F] rfl rfl (aO HT_.out (by kernel_rfl)) (fun _ _ _ h => h) (Or.inl ⟨by rfl, ?_⟩) ?_ ?_; rotate_left; (·intro w'; go_simp; with_reducible rfl); rotate_left; (·simp only [Act.put, sI, sZ, sS, iW, jW]; rfl)
             refine pure_ (i := 1) (N := some 30) (v := ?_) (a' := ?_) #[T,T,F,F,F,F,F,F,F,F,F,F,F,F,F,F,F,F,F,F,F] rfl rfl (aO HT_.out (by kernel_rfl)) (fun _ _ _ h => h) (Or.inl ⟨by rfl, ?_⟩) ?_ ?_; rotate_left; (·intro w'; go_simp; with_reducible rfl); rotate_left; (·simp only [Act.put, sI, sZ, sS, iW, jW]; rfl)
             refine pure_ (i := 3) (N := some 32) (v := ?_) (a' := ?_) #[T,T,F,T,F,F,F,F,F,F,F,F,F,F,F,F,F,F,F,F,F] rfl rfl (aO HT_.out (by kernel_rfl)) (fun _ _ _ h => h) (Or.inl ⟨by rfl, ?_⟩) ?_ ?_; rotate_left; (·intro w'; go_simp; with_reducible rfl); rotate_left; (·simp only [Act.put, sI, sZ, sS, iW, jW]; rfl)
             refine pure_ (i := 4) (N := some 33) (v := ?_) (a' := ?_) #[T,T,F,T,T,F,F,F,F,F,F,F,F,F,F,F,F,F,F,F,F] rfl rfl (aO HT_.out (by kernel_rfl)) (fun _ _ _ h => h) (Or.inl ⟨by rfl, ?_⟩) ?_ ?_; rotate_left; (·intro w'; go_simp; with_reducible rfl); rotate_left; (·simp only [Act.put, sI, sZ, sS, iW, jW]; rfl)
             refine pure_ (i := 6) (N := some 35) (v := ?_) (a' := ?_) #[T,T,F,T,T,F,T,F,F,F,F,F,F,F,F,F,F,F,F,F,F] rfl rfl (aO HT_.out (by kernel_rfl)) (fun _ _ _ h => h) (Or.inl ⟨by rfl, ?_⟩) ?_ ?_; rotate_left; (·intro w'; go_simp; with_reducible rfl); rotate_left; (·simp only [Act.put, sI, sZ, sS, iW, jW]; rfl)
             refine pure_ (i := 7) (N := some 36) (v := ?_) (a' := ?_) #[T,T,F,T,T,F,T,T,F,F,F,F,F,F,F,F,F,F,F,F,F] rfl rfl (aO HT_.out (by kernel_rfl)) (fun _ _ _ h => h) (Or.inl ⟨by rfl, ?_⟩) ?_ ?_; rotate_left; (·intro w'; go_simp; with_reducible rfl); rotate_left; (·simp only [Act.put, sI, sZ, sS, iW, jW]; rfl)
             refine pure_ (i := 9) (N := some 38) (v := ?_) (a' := ?_) #[T,T,F,T,T,F,T,T,F,T,F,F,F,F,F,F,F,F,F,F,F] rfl rfl (aO HT_.out (by kernel_rfl)) (fun _ _ _ h => h) (Or.inl ⟨by rfl, ?_⟩) ?_ ?_; rotate_left; (·intro w'; go_simp; with_reducible rfl); rotate_left; (·simp only [Act.put, sI, sZ, sS, iW, jW]; rfl)
             refine pure_ (i := 10) (N := some 39) (v := ?_) (a' := ?_) #[T,T,F,T,T,F,T,T,F,T,T,F,F,F,F,F,F,F,F,F,F] rfl rfl (aO HT_.out (by kernel_rfl)) (fun _ _ _ h => h) (Or.inl ⟨by rfl, ?_⟩) ?_ ?_; rotate_left; (·intro w'; go_simp; with_reducible rfl); rotate_left; (·simp only [Act.put, sI, sZ, sS, iW, jW]; rfl)
             refine pure_ (i := 12) (N := some 41) (v := ?_) (a' := ?_) #[T,T,F,T,T,F,T,T,F,T,T,F,T,F,F,F,F,F,F,F,F] rfl rfl (aO HT_.out (by kernel_rfl)) (fun _ _ _ h => h) (Or.inl ⟨by rfl, ?_⟩) ?_ ?_; rotate_left; (·intro w'; go_simp; with_reducible rfl); rotate_left; (·simp only [Act.put, sI, sZ, sS, iW, jW]; rfl)
             refine pure_ (i := 13) (N := some 42) (v := ?_) (a' := ?_) #[T,T,F,T,T,F,T,T,F,T,T,F,T,T,F,F,F,F,F,F,F] rfl rfl (aO HT_.out (by kernel_rfl)) (fun _ _ _ h => h) (Or.inl ⟨by rfl, ?_⟩) ?_ ?_; rotate_left; (·intro w'; go_simp; with_reducible rfl); rotate_left; (·simp only [Act.put, sI, sZ, sS, iW, jW]; rfl)
             refine pure_ (i := 15) (N := some 44) (v := ?_) (a' := ?_) #[T,T,F,T,T,F,T,T,F,T,T,F,T,T,F,T,F,F,F,F,F] rfl rfl (aO HT_.out (by kernel_rfl)) (fun _ _ _ h => h) (Or.inl ⟨by rfl, ?_⟩) ?_ ?_; rotate_left; (·intro w'; go_simp; with_reducible rfl); rotate_left; (·simp only [Act.put, sI, sZ, sS, iW, jW]; rfl)
             refine pure_ (i := 16) (N := some 45) (v := ?_) (a' := ?_) #[T,T,F,T,T,F,T,T,F,T,T,F,T,T,F,T,T,F,F,F,F] rfl rfl (aO HT_.out (by kernel_rfl)) (fun _ _ _ h => h) (Or.inl ⟨by rfl, ?_⟩) ?_ ?_; rotate_left; (·intro w'; go_simp; with_reducible rfl); rotate_left; (·simp only [Act.put, sI, sZ, sS, iW, jW]; rfl)
             refine take_ (i := 2) (N := some 31) (v := ?_) (a' := ?_) #[T,T,T,T,T,F,T,T,F,T,T,F,T,T,F,T,T,F,F,F,F] rfl rfl (tW HT_.out HW_.out (by kernel_rfl)) (fun _ _ _ h => h) (Or.inl ⟨by rfl, ?_⟩) hHeld ?_ ?_; rotate_left; (·rintro w' ⟨s0, s1, s2, s3, s4, s5⟩; go_simp; with_reducible rfl); rotate_left; (·simp only [Act.put, sI, sZ, sS, iW, jW]; rfl)
             refine take_ (i := 5) (N := some 34) (v := ?_) (a' := ?_) #[T,T,T,T,T,T,T,T,F,T,T,F,T,T,F,T,T,F,F,F,F] rfl rfl (tW HT_.out HW_.out (by kernel_rfl)) (fun _ _ _ h => h) (Or.inl ⟨by rfl, ?_⟩) hHeld ?_ ?_; rotate_left; (·rintro w' ⟨s0, s1, s2, s3, s4, s5⟩; go_simp; with_reducible rfl); rotate_left; (·simp only [Act.put, sI, sZ, sS, iW, jW]; rfl)
             refine take_ (i := 8) (N := some 37) (v := ?_) (a' := ?_) #[T,T,T,T,T,T,T,T,T,T,T,F,T,T,F,T,T,F,F,F,F] rfl rfl (tW HT_.out HW_.out (by kernel_rfl)) (fun _ _ _ h => h) (Or.inl ⟨by rfl, ?_⟩) hHeld ?_ ?_; rotate_left; (·rintro w' ⟨s0, s1, s2, s3, s4, s5⟩; go_simp; with_reducible rfl); rotate_left; (·simp only [Act.put, sI, sZ, sS, iW, jW]; rfl)
             refine take_ (i := 11) (N := some 40) (v := ?_) (a' := ?_) #[T,T,T,T,T,T,T,T,T,T,T,T,T,T,F,T,T,F,F,F,F] rfl rfl (tW HT_.out HW_.out (by kernel_rfl)) (fun _ _ _ h => h) (Or.inl ⟨by rfl, ?_⟩) hHeld ?_ ?_; rotate_left; (·rintro w' ⟨s0, s1, s2, s3, s4, s5⟩; go_simp; with_reducible rfl); rotate_left; (·simp only [Act.put, sI, sZ, sS, iW, jW]; rfl)
             refine take_ (i := 14) (N := some 43) (v := ?_) (a' := ?_) #[T,T,T,T,T,T,T,T,T,T,T,T,T,T,T,T,T,F,F,F,F] rfl rfl (tW HT_.out HW_.out (by kernel_rfl)) (fun _ _ _ h => h) (Or.inl ⟨by rfl, ?_⟩) hHeld ?_ ?_; rotate_left; (·rintro w' ⟨s0, s1, s2, s3, s4, s5⟩; go_simp; with_reducible rfl); rotate_left; (·simp only [Act.put, sI, sZ, sS, iW, jW]; rfl)
             refine take_ (i := 17) (N := some 46) (v := ?_) (a' := ?_) #[T,T,T,T,T,T,T,T,T,T,T,T,T,T,T,T,T,T,F,F,F] rfl rfl (tW HT_.out HW_.out (by kernel_rfl)) (fun _ _ _ h => h) (Or.inl ⟨by rfl, ?_⟩) hHeld ?_ ?_; rotate_left; (·rintro w' ⟨s0, s1, s2, s3, s4, s5⟩; go_simp; with_reducible rfl); rotate_left; (·simp only [Act.put, sI, sZ, sS, iW, jW]; rfl)
             refine pure_ (i := 18) (N := some 47) (v := ?_) (a' := ?_) #[T,T,T,T,T,T,T,T,T,T,T,T,T,T,T,T,T,T,T,F,F] rfl rfl (aO HT_.out (by kernel_rfl)) (fun _ _ _ h => h) (Or.inl ⟨by rfl, ?_⟩) ?_ ?_; rotate_left; (·intro w'; go_simp; with_reducible rfl); rotate_left; (·simp only [Act.put, sI, sZ, sS, iW, jW]; rfl)
             refine one_ (i := 19) (N := some 7) #[T,T,T,T,T,T,T,T,T,T,T,T,T,T,T,T,T,T,T,T,F] rfl rfl (oO HT_.out (by kernel_rfl)) (by decide) (fun K hK => ?_)
             refine box_step ?hg (N := 7) ?hd (cs := #[.string (⟨#[]⟩ : ByteArray), .int .i64 0, .int .i64 0, .int .i64 0, .int .i64 0, .int .i64 0]) (t := 50) ?hr ?_; (case hd => rfl); (case hg => rfl); (case hr => first | (go_simp; done) | (go_simp; rfl))
             intro gb153 hg w25 hbox hb
             have HS0_ := (hb.cell (World.block_lt_of_cell? _ _ (hHeld.1))).trans (hHeld.1)
             have HS1_ := (hb.cell (World.block_lt_of_cell? _ _ (hHeld.2.1))).trans (hHeld.2.1)
             have HS2_ := (hb.cell (World.block_lt_of_cell? _ _ (hHeld.2.2.1))).trans (hHeld.2.2.1)
             have HS3_ := (hb.cell (World.block_lt_of_cell? _ _ (hHeld.2.2.2.1))).trans (hHeld.2.2.2.1)
             have HS4_ := (hb.cell (World.block_lt_of_cell? _ _ (hHeld.2.2.2.2.1))).trans (hHeld.2.2.2.2.1)
             have HS5_ := (hb.cell (World.block_lt_of_cell? _ _ (hHeld.2.2.2.2.2))).trans (hHeld.2.2.2.2.2)
             have n0_ := Aside0.mk (rB (by (with_reducible repeat (first | apply rA | apply rN | apply rD)); exact HO_4.out) hb)
             have n1_ := Aside0.mk (rB (by (with_reducible repeat (first | apply rA | apply rN | apply rD)); exact HO_5.out) hb)
             have n2_ := Aside0.mk (kB (g := gb138) (o := .cells #[.string (⟨#[]⟩ : ByteArray), .int .i64 0, .int .i64 0, .int .i64 0, .int .i64 0, .int .i64 0] 50 (0, 0)) (by (with_reducible repeat (first | refine kN ?_ _ | refine kD ?_ | refine kA ?_ _)); exact BK138.out) hb)
             have n3_ := Aside0.mk (bP (by repeat (first | (with_reducible first | exact HB.out | apply bA | apply bN | apply bD | refine bS ?_ GE138.out) | exact HB.out)) hb)
             have n4_ := Aside0.mk (hbox)
             have n5_ := Aside0.mk ((by rw [hg]; exact (bZ (by repeat (first | (with_reducible first | exact HB.out | apply bA | apply bN | apply bD | refine bS ?_ GE138.out) | exact HB.out))) : w.heap.size ≤ gb153))
             have n6_ := Aside0.mk ((by rw [hg]; exact (bZ (by repeat (first | (with_reducible first | exact HB.out | apply bA | apply bN | apply bD | refine bS ?_ GE138.out) | exact HB.out))) : w.heap.size ≤ gb153))
             have n7_ := Aside0.mk ((by rw [hg]; exact Nat.ne_of_lt (kL (g := gb138) (o := .cells #[.string (⟨#[]⟩ : ByteArray), .int .i64 0, .int .i64 0, .int .i64 0, .int .i64 0, .int .i64 0] 50 (0, 0)) (by (with_reducible repeat (first | refine kN ?_ _ | refine kD ?_ | refine kA ?_ _)); exact BK138.out)) : gb138 ≠ gb153))
             have n8_ := Aside0.mk ((by rw [hg]; exact Nat.ne_of_gt (kL (g := gb138) (o := .cells #[.string (⟨#[]⟩ : ByteArray), .int .i64 0, .int .i64 0, .int .i64 0, .int .i64 0, .int .i64 0] 50 (0, 0)) (by (with_reducible repeat (first | refine kN ?_ _ | refine kD ?_ | refine kA ?_ _)); exact BK138.out)) : gb153 ≠ gb138))
             clear HO_4
             clear HO_5
             clear BK138
             clear HB
             have HO_4 := n0_
             have HO_5 := n1_
             have BK138 := n2_
             have HB := n3_
             have BK153 := n4_
             have GW153 := n5_
             have GE153 := n6_
             have NB138_153 := n7_
             have NB153_138 := n8_
             clear n0_ n1_ n2_ n3_ n4_ n5_ n6_ n7_ n8_
             clear hb hbox hg
             refine hK.out _ _ ⟨HS0_, HS1_, HS2_, HS3_, HS4_, HS5_⟩ (fun hHeld => ?_)
             clear hK K
             refine norm_ (a' := ?_) ?_ ?_
             rotate_left
             ·show Act.put _ (some 7) _ = _
              simp only [Act.put, sI, sZ, sS, iW, jW]
              rfl
             refine one_ (i := 20) (N := none) #[T,T,T,T,T,T,T,T,T,T,T,T,T,T,T,T,T,T,T,T,T] rfl rfl (oO HT_.out (by kernel_rfl)) (by decide) (fun K hK => ?_)
             have hs26 : w25.cell? ⟨gb153, 0, none⟩ = some (.string (⟨#[]⟩ : ByteArray)) := (kC BK153.out 0).trans rfl
             have hfs26 := blk_frozen BK153.out 0
             have hns26_0 := NB138_153.out
             have hms26_0 := NB153_138.out
             have hs27 : w25.cell? ⟨gb153, 1, none⟩ = some (.int .i64 0) := (kC BK153.out 1).trans rfl
             have hfs27 := blk_frozen BK153.out 1
             have hns27_0 := NB138_153.out
             have hms27_0 := NB153_138.out
             have hs28 : w25.cell? ⟨gb153, 2, none⟩ = some (.int .i64 0) := (kC BK153.out 2).trans rfl
             have hfs28 := blk_frozen BK153.out 2
             have hns28_0 := NB138_153.out
             have hms28_0 := NB153_138.out
             have hs29 : w25.cell? ⟨gb153, 3, none⟩ = some (.int .i64 0) := (kC BK153.out 3).trans rfl
             have hfs29 := blk_frozen BK153.out 3
             have hns29_0 := NB138_153.out
             have hms29_0 := NB153_138.out
             have hs30 : w25.cell? ⟨gb153, 4, none⟩ = some (.int .i64 0) := (kC BK153.out 4).trans rfl
             have hfs30 := blk_frozen BK153.out 4
             have hns30_0 := NB138_153.out
             have hms30_0 := NB153_138.out
             have hs31 : w25.cell? ⟨gb153, 5, none⟩ = some (.int .i64 0) := (kC BK153.out 5).trans rfl
             have hfs31 := blk_frozen BK153.out 5
             have hns31_0 := NB138_153.out
             have hms31_0 := NB153_138.out
             refine skip_ (w1 := ?_) (by rfl) rfl ?_ ?_
             rotate_left
             ·go_simp
              rfl
             refine hK.out _ _ ⟨ (by refine (cell_far (p := ⟨gb153, _, none⟩) (by first | ((try rw [add_block]); (try dsimp only); exact Kd.own_blk (Kd.R_ne HO_4.out BK153.out (by decide))) | exact Kd.own_blk (Kd.R_ne HO_4.out BK153.out (by decide)) | (show (Addr.add _ _).block ≠ _; rw [add_block]; exact Kd.own_blk (Kd.R_ne HO_4.out BK153.out (by decide))) | (dsimp only; exact Kd.own_blk (Kd.R_ne HO_4.out BK153.out (by decide)))) _).trans ?_; refine (cell_far (p := ⟨gb153, _, none⟩) (by first | ((try rw [add_block]); (try dsimp only); exact Kd.own_blk (Kd.R_ne HO_4.out BK153.out (by decide))) | exact Kd.own_blk (Kd.R_ne HO_4.out BK153.out (by decide)) | (show (Addr.add _ _).block ≠ _; rw [add_block]; exact Kd.own_blk (Kd.R_ne HO_4.out BK153.out (by decide))) | (dsimp only; exact Kd.own_blk (Kd.R_ne HO_4.out BK153.out (by decide)))) _).trans ?_; refine (cell_far (p := ⟨gb153, _, none⟩) (by first | ((try rw [add_block]); (try dsimp only); exact Kd.own_blk (Kd.R_ne HO_4.out BK153.out (by decide))) | exact Kd.own_blk (Kd.R_ne HO_4.out BK153.out (by decide)) | (show (Addr.add _ _).block ≠ _; rw [add_block]; exact Kd.own_blk (Kd.R_ne HO_4.out BK153.out (by decide))) | (dsimp only; exact Kd.own_blk (Kd.R_ne HO_4.out BK153.out (by decide)))) _).trans ?_; refine (cell_far (p := ⟨gb153, _, none⟩) (by first | ((try rw [add_block]); (try dsimp only); exact Kd.own_blk (Kd.R_ne HO_4.out BK153.out (by decide))) | exact Kd.own_blk (Kd.R_ne HO_4.out BK153.out (by decide)) | (show (Addr.add _ _).block ≠ _; rw [add_block]; exact Kd.own_blk (Kd.R_ne HO_4.out BK153.out (by decide))) | (dsimp only; exact Kd.own_blk (Kd.R_ne HO_4.out BK153.out (by decide)))) _).trans ?_; refine (cell_far (p := ⟨gb153, _, none⟩) (by first | ((try rw [add_block]); (try dsimp only); exact Kd.own_blk (Kd.R_ne HO_4.out BK153.out (by decide))) | exact Kd.own_blk (Kd.R_ne HO_4.out BK153.out (by decide)) | (show (Addr.add _ _).block ≠ _; rw [add_block]; exact Kd.own_blk (Kd.R_ne HO_4.out BK153.out (by decide))) | (dsimp only; exact Kd.own_blk (Kd.R_ne HO_4.out BK153.out (by decide)))) _).trans ?_; refine (cell_far (p := ⟨gb153, _, none⟩) (by first | ((try rw [add_block]); (try dsimp only); exact Kd.own_blk (Kd.R_ne HO_4.out BK153.out (by decide))) | exact Kd.own_blk (Kd.R_ne HO_4.out BK153.out (by decide)) | (show (Addr.add _ _).block ≠ _; rw [add_block]; exact Kd.own_blk (Kd.R_ne HO_4.out BK153.out (by decide))) | (dsimp only; exact Kd.own_blk (Kd.R_ne HO_4.out BK153.out (by decide)))) _).trans ?_; exact hHeld.1), (by refine (cell_far (p := ⟨gb153, _, none⟩) (by first | ((try rw [add_block]); (try dsimp only); exact Kd.own_blk (Kd.R_ne HO_5.out BK153.out (by decide))) | exact Kd.own_blk (Kd.R_ne HO_5.out BK153.out (by decide)) | (show (Addr.add _ _).block ≠ _; rw [add_block]; exact Kd.own_blk (Kd.R_ne HO_5.out BK153.out (by decide))) | (dsimp only; exact Kd.own_blk (Kd.R_ne HO_5.out BK153.out (by decide)))) _).trans ?_; refine (cell_far (p := ⟨gb153, _, none⟩) (by first | ((try rw [add_block]); (try dsimp only); exact Kd.own_blk (Kd.R_ne HO_5.out BK153.out (by decide))) | exact Kd.own_blk (Kd.R_ne HO_5.out BK153.out (by decide)) | (show (Addr.add _ _).block ≠ _; rw [add_block]; exact Kd.own_blk (Kd.R_ne HO_5.out BK153.out (by decide))) | (dsimp only; exact Kd.own_blk (Kd.R_ne HO_5.out BK153.out (by decide)))) _).trans ?_; refine (cell_far (p := ⟨gb153, _, none⟩) (by first | ((try rw [add_block]); (try dsimp only); exact Kd.own_blk (Kd.R_ne HO_5.out BK153.out (by decide))) | exact Kd.own_blk (Kd.R_ne HO_5.out BK153.out (by decide)) | (show (Addr.add _ _).block ≠ _; rw [add_block]; exact Kd.own_blk (Kd.R_ne HO_5.out BK153.out (by decide))) | (dsimp only; exact Kd.own_blk (Kd.R_ne HO_5.out BK153.out (by decide)))) _).trans ?_; refine (cell_far (p := ⟨gb153, _, none⟩) (by first | ((try rw [add_block]); (try dsimp only); exact Kd.own_blk (Kd.R_ne HO_5.out BK153.out (by decide))) | exact Kd.own_blk (Kd.R_ne HO_5.out BK153.out (by decide)) | (show (Addr.add _ _).block ≠ _; rw [add_block]; exact Kd.own_blk (Kd.R_ne HO_5.out BK153.out (by decide))) | (dsimp only; exact Kd.own_blk (Kd.R_ne HO_5.out BK153.out (by decide)))) _).trans ?_; refine (cell_far (p := ⟨gb153, _, none⟩) (by first | ((try rw [add_block]); (try dsimp only); exact Kd.own_blk (Kd.R_ne HO_5.out BK153.out (by decide))) | exact Kd.own_blk (Kd.R_ne HO_5.out BK153.out (by decide)) | (show (Addr.add _ _).block ≠ _; rw [add_block]; exact Kd.own_blk (Kd.R_ne HO_5.out BK153.out (by decide))) | (dsimp only; exact Kd.own_blk (Kd.R_ne HO_5.out BK153.out (by decide)))) _).trans ?_; refine (cell_far (p := ⟨gb153, _, none⟩) (by first | ((try rw [add_block]); (try dsimp only); exact Kd.own_blk (Kd.R_ne HO_5.out BK153.out (by decide))) | exact Kd.own_blk (Kd.R_ne HO_5.out BK153.out (by decide)) | (show (Addr.add _ _).block ≠ _; rw [add_block]; exact Kd.own_blk (Kd.R_ne HO_5.out BK153.out (by decide))) | (dsimp only; exact Kd.own_blk (Kd.R_ne HO_5.out BK153.out (by decide)))) _).trans ?_; exact hHeld.2.1), (by refine (cell_far (p := ⟨gb153, _, none⟩) (by first | ((try rw [add_block]); (try dsimp only); exact Kd.own_blk (Kd.R_ne HO_5.out BK153.out (by decide))) | exact Kd.own_blk (Kd.R_ne HO_5.out BK153.out (by decide)) | (show (Addr.add _ _).block ≠ _; rw [add_block]; exact Kd.own_blk (Kd.R_ne HO_5.out BK153.out (by decide))) | (dsimp only; exact Kd.own_blk (Kd.R_ne HO_5.out BK153.out (by decide)))) _).trans ?_; refine (cell_far (p := ⟨gb153, _, none⟩) (by first | ((try rw [add_block]); (try dsimp only); exact Kd.own_blk (Kd.R_ne HO_5.out BK153.out (by decide))) | exact Kd.own_blk (Kd.R_ne HO_5.out BK153.out (by decide)) | (show (Addr.add _ _).block ≠ _; rw [add_block]; exact Kd.own_blk (Kd.R_ne HO_5.out BK153.out (by decide))) | (dsimp only; exact Kd.own_blk (Kd.R_ne HO_5.out BK153.out (by decide)))) _).trans ?_; refine (cell_far (p := ⟨gb153, _, none⟩) (by first | ((try rw [add_block]); (try dsimp only); exact Kd.own_blk (Kd.R_ne HO_5.out BK153.out (by decide))) | exact Kd.own_blk (Kd.R_ne HO_5.out BK153.out (by decide)) | (show (Addr.add _ _).block ≠ _; rw [add_block]; exact Kd.own_blk (Kd.R_ne HO_5.out BK153.out (by decide))) | (dsimp only; exact Kd.own_blk (Kd.R_ne HO_5.out BK153.out (by decide)))) _).trans ?_; refine (cell_far (p := ⟨gb153, _, none⟩) (by first | ((try rw [add_block]); (try dsimp only); exact Kd.own_blk (Kd.R_ne HO_5.out BK153.out (by decide))) | exact Kd.own_blk (Kd.R_ne HO_5.out BK153.out (by decide)) | (show (Addr.add _ _).block ≠ _; rw [add_block]; exact Kd.own_blk (Kd.R_ne HO_5.out BK153.out (by decide))) | (dsimp only; exact Kd.own_blk (Kd.R_ne HO_5.out BK153.out (by decide)))) _).trans ?_; refine (cell_far (p := ⟨gb153, _, none⟩) (by first | ((try rw [add_block]); (try dsimp only); exact Kd.own_blk (Kd.R_ne HO_5.out BK153.out (by decide))) | exact Kd.own_blk (Kd.R_ne HO_5.out BK153.out (by decide)) | (show (Addr.add _ _).block ≠ _; rw [add_block]; exact Kd.own_blk (Kd.R_ne HO_5.out BK153.out (by decide))) | (dsimp only; exact Kd.own_blk (Kd.R_ne HO_5.out BK153.out (by decide)))) _).trans ?_; refine (cell_far (p := ⟨gb153, _, none⟩) (by first | ((try rw [add_block]); (try dsimp only); exact Kd.own_blk (Kd.R_ne HO_5.out BK153.out (by decide))) | exact Kd.own_blk (Kd.R_ne HO_5.out BK153.out (by decide)) | (show (Addr.add _ _).block ≠ _; rw [add_block]; exact Kd.own_blk (Kd.R_ne HO_5.out BK153.out (by decide))) | (dsimp only; exact Kd.own_blk (Kd.R_ne HO_5.out BK153.out (by decide)))) _).trans ?_; exact hHeld.2.2.1), (by refine (cell_far (p := ⟨gb153, _, none⟩) (by first | ((try rw [add_block]); (try dsimp only); exact Kd.own_blk (Kd.R_ne HO_5.out BK153.out (by decide))) | exact Kd.own_blk (Kd.R_ne HO_5.out BK153.out (by decide)) | (show (Addr.add _ _).block ≠ _; rw [add_block]; exact Kd.own_blk (Kd.R_ne HO_5.out BK153.out (by decide))) | (dsimp only; exact Kd.own_blk (Kd.R_ne HO_5.out BK153.out (by decide)))) _).trans ?_; refine (cell_far (p := ⟨gb153, _, none⟩) (by first | ((try rw [add_block]); (try dsimp only); exact Kd.own_blk (Kd.R_ne HO_5.out BK153.out (by decide))) | exact Kd.own_blk (Kd.R_ne HO_5.out BK153.out (by decide)) | (show (Addr.add _ _).block ≠ _; rw [add_block]; exact Kd.own_blk (Kd.R_ne HO_5.out BK153.out (by decide))) | (dsimp only; exact Kd.own_blk (Kd.R_ne HO_5.out BK153.out (by decide)))) _).trans ?_; refine (cell_far (p := ⟨gb153, _, none⟩) (by first | ((try rw [add_block]); (try dsimp only); exact Kd.own_blk (Kd.R_ne HO_5.out BK153.out (by decide))) | exact Kd.own_blk (Kd.R_ne HO_5.out BK153.out (by decide)) | (show (Addr.add _ _).block ≠ _; rw [add_block]; exact Kd.own_blk (Kd.R_ne HO_5.out BK153.out (by decide))) | (dsimp only; exact Kd.own_blk (Kd.R_ne HO_5.out BK153.out (by decide)))) _).trans ?_; refine (cell_far (p := ⟨gb153, _, none⟩) (by first | ((try rw [add_block]); (try dsimp only); exact Kd.own_blk (Kd.R_ne HO_5.out BK153.out (by decide))) | exact Kd.own_blk (Kd.R_ne HO_5.out BK153.out (by decide)) | (show (Addr.add _ _).block ≠ _; rw [add_block]; exact Kd.own_blk (Kd.R_ne HO_5.out BK153.out (by decide))) | (dsimp only; exact Kd.own_blk (Kd.R_ne HO_5.out BK153.out (by decide)))) _).trans ?_; refine (cell_far (p := ⟨gb153, _, none⟩) (by first | ((try rw [add_block]); (try dsimp only); exact Kd.own_blk (Kd.R_ne HO_5.out BK153.out (by decide))) | exact Kd.own_blk (Kd.R_ne HO_5.out BK153.out (by decide)) | (show (Addr.add _ _).block ≠ _; rw [add_block]; exact Kd.own_blk (Kd.R_ne HO_5.out BK153.out (by decide))) | (dsimp only; exact Kd.own_blk (Kd.R_ne HO_5.out BK153.out (by decide)))) _).trans ?_; refine (cell_far (p := ⟨gb153, _, none⟩) (by first | ((try rw [add_block]); (try dsimp only); exact Kd.own_blk (Kd.R_ne HO_5.out BK153.out (by decide))) | exact Kd.own_blk (Kd.R_ne HO_5.out BK153.out (by decide)) | (show (Addr.add _ _).block ≠ _; rw [add_block]; exact Kd.own_blk (Kd.R_ne HO_5.out BK153.out (by decide))) | (dsimp only; exact Kd.own_blk (Kd.R_ne HO_5.out BK153.out (by decide)))) _).trans ?_; exact hHeld.2.2.2.1), (by refine (cell_far (p := ⟨gb153, _, none⟩) (by first | ((try rw [add_block]); (try dsimp only); exact Kd.own_blk (Kd.R_ne HO_5.out BK153.out (by decide))) | exact Kd.own_blk (Kd.R_ne HO_5.out BK153.out (by decide)) | (show (Addr.add _ _).block ≠ _; rw [add_block]; exact Kd.own_blk (Kd.R_ne HO_5.out BK153.out (by decide))) | (dsimp only; exact Kd.own_blk (Kd.R_ne HO_5.out BK153.out (by decide)))) _).trans ?_; refine (cell_far (p := ⟨gb153, _, none⟩) (by first | ((try rw [add_block]); (try dsimp only); exact Kd.own_blk (Kd.R_ne HO_5.out BK153.out (by decide))) | exact Kd.own_blk (Kd.R_ne HO_5.out BK153.out (by decide)) | (show (Addr.add _ _).block ≠ _; rw [add_block]; exact Kd.own_blk (Kd.R_ne HO_5.out BK153.out (by decide))) | (dsimp only; exact Kd.own_blk (Kd.R_ne HO_5.out BK153.out (by decide)))) _).trans ?_; refine (cell_far (p := ⟨gb153, _, none⟩) (by first | ((try rw [add_block]); (try dsimp only); exact Kd.own_blk (Kd.R_ne HO_5.out BK153.out (by decide))) | exact Kd.own_blk (Kd.R_ne HO_5.out BK153.out (by decide)) | (show (Addr.add _ _).block ≠ _; rw [add_block]; exact Kd.own_blk (Kd.R_ne HO_5.out BK153.out (by decide))) | (dsimp only; exact Kd.own_blk (Kd.R_ne HO_5.out BK153.out (by decide)))) _).trans ?_; refine (cell_far (p := ⟨gb153, _, none⟩) (by first | ((try rw [add_block]); (try dsimp only); exact Kd.own_blk (Kd.R_ne HO_5.out BK153.out (by decide))) | exact Kd.own_blk (Kd.R_ne HO_5.out BK153.out (by decide)) | (show (Addr.add _ _).block ≠ _; rw [add_block]; exact Kd.own_blk (Kd.R_ne HO_5.out BK153.out (by decide))) | (dsimp only; exact Kd.own_blk (Kd.R_ne HO_5.out BK153.out (by decide)))) _).trans ?_; refine (cell_far (p := ⟨gb153, _, none⟩) (by first | ((try rw [add_block]); (try dsimp only); exact Kd.own_blk (Kd.R_ne HO_5.out BK153.out (by decide))) | exact Kd.own_blk (Kd.R_ne HO_5.out BK153.out (by decide)) | (show (Addr.add _ _).block ≠ _; rw [add_block]; exact Kd.own_blk (Kd.R_ne HO_5.out BK153.out (by decide))) | (dsimp only; exact Kd.own_blk (Kd.R_ne HO_5.out BK153.out (by decide)))) _).trans ?_; refine (cell_far (p := ⟨gb153, _, none⟩) (by first | ((try rw [add_block]); (try dsimp only); exact Kd.own_blk (Kd.R_ne HO_5.out BK153.out (by decide))) | exact Kd.own_blk (Kd.R_ne HO_5.out BK153.out (by decide)) | (show (Addr.add _ _).block ≠ _; rw [add_block]; exact Kd.own_blk (Kd.R_ne HO_5.out BK153.out (by decide))) | (dsimp only; exact Kd.own_blk (Kd.R_ne HO_5.out BK153.out (by decide)))) _).trans ?_; exact hHeld.2.2.2.2.1), (by refine (cell_far (p := ⟨gb153, _, none⟩) (by first | ((try rw [add_block]); (try dsimp only); exact Kd.own_blk (Kd.R_ne HO_5.out BK153.out (by decide))) | exact Kd.own_blk (Kd.R_ne HO_5.out BK153.out (by decide)) | (show (Addr.add _ _).block ≠ _; rw [add_block]; exact Kd.own_blk (Kd.R_ne HO_5.out BK153.out (by decide))) | (dsimp only; exact Kd.own_blk (Kd.R_ne HO_5.out BK153.out (by decide)))) _).trans ?_; refine (cell_far (p := ⟨gb153, _, none⟩) (by first | ((try rw [add_block]); (try dsimp only); exact Kd.own_blk (Kd.R_ne HO_5.out BK153.out (by decide))) | exact Kd.own_blk (Kd.R_ne HO_5.out BK153.out (by decide)) | (show (Addr.add _ _).block ≠ _; rw [add_block]; exact Kd.own_blk (Kd.R_ne HO_5.out BK153.out (by decide))) | (dsimp only; exact Kd.own_blk (Kd.R_ne HO_5.out BK153.out (by decide)))) _).trans ?_; refine (cell_far (p := ⟨gb153, _, none⟩) (by first | ((try rw [add_block]); (try dsimp only); exact Kd.own_blk (Kd.R_ne HO_5.out BK153.out (by decide))) | exact Kd.own_blk (Kd.R_ne HO_5.out BK153.out (by decide)) | (show (Addr.add _ _).block ≠ _; rw [add_block]; exact Kd.own_blk (Kd.R_ne HO_5.out BK153.out (by decide))) | (dsimp only; exact Kd.own_blk (Kd.R_ne HO_5.out BK153.out (by decide)))) _).trans ?_; refine (cell_far (p := ⟨gb153, _, none⟩) (by first | ((try rw [add_block]); (try dsimp only); exact Kd.own_blk (Kd.R_ne HO_5.out BK153.out (by decide))) | exact Kd.own_blk (Kd.R_ne HO_5.out BK153.out (by decide)) | (show (Addr.add _ _).block ≠ _; rw [add_block]; exact Kd.own_blk (Kd.R_ne HO_5.out BK153.out (by decide))) | (dsimp only; exact Kd.own_blk (Kd.R_ne HO_5.out BK153.out (by decide)))) _).trans ?_; refine (cell_far (p := ⟨gb153, _, none⟩) (by first | ((try rw [add_block]); (try dsimp only); exact Kd.own_blk (Kd.R_ne HO_5.out BK153.out (by decide))) | exact Kd.own_blk (Kd.R_ne HO_5.out BK153.out (by decide)) | (show (Addr.add _ _).block ≠ _; rw [add_block]; exact Kd.own_blk (Kd.R_ne HO_5.out BK153.out (by decide))) | (dsimp only; exact Kd.own_blk (Kd.R_ne HO_5.out BK153.out (by decide)))) _).trans ?_; refine (cell_far (p := ⟨gb153, _, none⟩) (by first | ((try rw [add_block]); (try dsimp only); exact Kd.own_blk (Kd.R_ne HO_5.out BK153.out (by decide))) | exact Kd.own_blk (Kd.R_ne HO_5.out BK153.out (by decide)) | (show (Addr.add _ _).block ≠ _; rw [add_block]; exact Kd.own_blk (Kd.R_ne HO_5.out BK153.out (by decide))) | (dsimp only; exact Kd.own_blk (Kd.R_ne HO_5.out BK153.out (by decide)))) _).trans ?_; exact hHeld.2.2.2.2.2)⟩ (fun hHeld => ?_)
             clear hK K
             refine done_ (done_of HT_.out (by kernel_rfl)) ?_
             try go_wp2_with (first | ((with_reducible refine gC (f := 90) rfl ?_); refine goesL_ (some 48) rfl rfl Tryd.func90 (by kernel_rfl) rfl #[.pointer (some ⟨gb153, 0, none⟩)] rfl (by (try simp only [List.map_toArray, List.map_cons, List.map_nil]); first | done | rfl | (simp only [List.length_drop, List.length_take]; rfl)) ?_; (with_reducible refine (spec_l08One.calls kj5 ⟨gb153, 0, none⟩ (rdOf ByteArray.empty t139 0) (rd t143 0) (rd t143 1) (rd t143 2) (rd t143 3) (rd t143 4) true _ ?side1 A21.out).mono ?_); (case side1 => exact C_box (t := 50) (show _ from by (with_reducible repeat (first | refine kN ?_ _ | refine kD ?_ | refine kA ?_ _)); refine blk_put (cs := #[.string (rdOf ByteArray.empty t139 0), .int .i64 (rd t143 0), .int .i64 (rd t143 1), .int .i64 (rd t143 2), .int .i64 (rd t143 3), .int .i64 0]) ?_ 5 _ rfl; (with_reducible repeat (first | refine kN ?_ _ | refine kD ?_ | refine kA ?_ _)); refine blk_put (cs := #[.string (rdOf ByteArray.empty t139 0), .int .i64 (rd t143 0), .int .i64 (rd t143 1), .int .i64 (rd t143 2), .int .i64 0, .int .i64 0]) ?_ 4 _ rfl; (with_reducible repeat (first | refine kN ?_ _ | refine kD ?_ | refine kA ?_ _)); refine blk_put (cs := #[.string (rdOf ByteArray.empty t139 0), .int .i64 (rd t143 0), .int .i64 (rd t143 1), .int .i64 0, .int .i64 0, .int .i64 0]) ?_ 3 _ rfl; (with_reducible repeat (first | refine kN ?_ _ | refine kD ?_ | refine kA ?_ _)); refine blk_put (cs := #[.string (rdOf ByteArray.empty t139 0), .int .i64 (rd t143 0), .int .i64 0, .int .i64 0, .int .i64 0, .int .i64 0]) ?_ 2 _ rfl; (with_reducible repeat (first | refine kN ?_ _ | refine kD ?_ | refine kA ?_ _)); refine blk_put (cs := #[.string (rdOf ByteArray.empty t139 0), .int .i64 0, .int .i64 0, .int .i64 0, .int .i64 0, .int .i64 0]) ?_ 1 _ rfl; (with_reducible repeat (first | refine kN ?_ _ | refine kD ?_ | refine kA ?_ _)); refine blk_put (cs := #[.string (⟨#[]⟩ : ByteArray), .int .i64 0, .int .i64 0, .int .i64 0, .int .i64 0, .int .i64 0]) ?_ 0 _ rfl; (with_reducible repeat (first | refine kN ?_ _ | refine kD ?_ | refine kA ?_ _)); exact BK153.out) (k50_mk _ (⟨rdOf ByteArray.empty t139 0, rd t143 0, rd t143 1, rd t143 2, rd t143 3, rd t143 4⟩ : S50) )); rintro e w' ⟨rfl, ⟨nd, rfl⟩⟩; refine ⟨_, rfl, ?_⟩; have hnb32 := NB153_138.out; have hnc32 := NB138_153.out; have hcz33_0 : w25.cell? ⟨gb153, 0, none⟩ = some (.string (⟨#[]⟩ : ByteArray)) := (kC BK153.out 0).trans rfl; have hcz33_1 : w25.cell? ⟨gb153, 1, none⟩ = some (.int .i64 0) := (kC BK153.out 1).trans rfl; have hcz33_2 : w25.cell? ⟨gb153, 2, none⟩ = some (.int .i64 0) := (kC BK153.out 2).trans rfl; have hcz33_3 : w25.cell? ⟨gb153, 3, none⟩ = some (.int .i64 0) := (kC BK153.out 3).trans rfl; have hcz33_4 : w25.cell? ⟨gb153, 4, none⟩ = some (.int .i64 0) := (kC BK153.out 4).trans rfl; have hcz33_5 : w25.cell? ⟨gb153, 5, none⟩ = some (.int .i64 0) := (kC BK153.out 5).trans rfl; have hfz33_0 := blk_frozen BK153.out 0; have hfz33_1 := blk_frozen BK153.out 1; have hfz33_2 := blk_frozen BK153.out 2; have hfz33_3 := blk_frozen BK153.out 3; have hfz33_4 := blk_frozen BK153.out 4; have hfz33_5 := blk_frozen BK153.out 5; have hcz34_0 : w25.cell? ⟨gb138, 0, none⟩ = some (.string (⟨#[]⟩ : ByteArray)) := (kC BK138.out 0).trans rfl; have hcz34_1 : w25.cell? ⟨gb138, 1, none⟩ = some (.int .i64 0) := (kC BK138.out 1).trans rfl; have hcz34_2 : w25.cell? ⟨gb138, 2, none⟩ = some (.int .i64 0) := (kC BK138.out 2).trans rfl; have hcz34_3 : w25.cell? ⟨gb138, 3, none⟩ = some (.int .i64 0) := (kC BK138.out 3).trans rfl; have hcz34_4 : w25.cell? ⟨gb138, 4, none⟩ = some (.int .i64 0) := (kC BK138.out 4).trans rfl; have hcz34_5 : w25.cell? ⟨gb138, 5, none⟩ = some (.int .i64 0) := (kC BK138.out 5).trans rfl; have hfz34_0 := blk_frozen BK138.out 0; have hfz34_1 := blk_frozen BK138.out 1; have hfz34_2 := blk_frozen BK138.out 2; have hfz34_3 := blk_frozen BK138.out 3; have hfz34_4 := blk_frozen BK138.out 4; have hfz34_5 := blk_frozen BK138.out 5))
             refine bodyPost_ret (results_ct rfl _ _ gb138 50 #[.string (rdOf ByteArray.empty t139 0), .int .i64 (rd t143 0), .int .i64 (rd t143 1), .int .i64 (rd t143 2), .int .i64 (rd t143 3), .int .i64 (rd t143 4)] (0, 0) _ rfl (by (with_reducible repeat (first | refine kN ?_ _ | refine kD ?_ | refine kA ?_ _)); refine blk_put (cs := #[.string (rdOf ByteArray.empty t139 0), .int .i64 (rd t143 0), .int .i64 (rd t143 1), .int .i64 (rd t143 2), .int .i64 (rd t143 3), .int .i64 0]) ?_ 5 _ rfl; (with_reducible repeat (first | refine kN ?_ _ | refine kD ?_ | refine kA ?_ _)); refine blk_put (cs := #[.string (rdOf ByteArray.empty t139 0), .int .i64 (rd t143 0), .int .i64 (rd t143 1), .int .i64 (rd t143 2), .int .i64 0, .int .i64 0]) ?_ 4 _ rfl; (with_reducible repeat (first | refine kN ?_ _ | refine kD ?_ | refine kA ?_ _)); refine blk_put (cs := #[.string (rdOf ByteArray.empty t139 0), .int .i64 (rd t143 0), .int .i64 (rd t143 1), .int .i64 0, .int .i64 0, .int .i64 0]) ?_ 3 _ rfl; (with_reducible repeat (first | refine kN ?_ _ | refine kD ?_ | refine kA ?_ _)); refine blk_put (cs := #[.string (rdOf ByteArray.empty t139 0), .int .i64 (rd t143 0), .int .i64 0, .int .i64 0, .int .i64 0, .int .i64 0]) ?_ 2 _ rfl; (with_reducible repeat (first | refine kN ?_ _ | refine kD ?_ | refine kA ?_ _)); refine blk_put (cs := #[.string (rdOf ByteArray.empty t139 0), .int .i64 0, .int .i64 0, .int .i64 0, .int .i64 0, .int .i64 0]) ?_ 1 _ rfl; (with_reducible repeat (first | refine kN ?_ _ | refine kD ?_ | refine kA ?_ _)); refine blk_put (cs := #[.string (⟨#[]⟩ : ByteArray), .int .i64 0, .int .i64 0, .int .i64 0, .int .i64 0, .int .i64 0]) ?_ 0 _ rfl; (with_reducible repeat (first | refine kN ?_ _ | refine kD ?_ | refine kA ?_ _)); refine kF ?_ NB138_153.out _; (with_reducible repeat (first | refine kN ?_ _ | refine kD ?_ | refine kA ?_ _)); refine kF ?_ NB138_153.out _; (with_reducible repeat (first | refine kN ?_ _ | refine kD ?_ | refine kA ?_ _)); refine kF ?_ NB138_153.out _; (with_reducible repeat (first | refine kN ?_ _ | refine kD ?_ | refine kA ?_ _)); refine kF ?_ NB138_153.out _; (with_reducible repeat (first | refine kN ?_ _ | refine kD ?_ | refine kA ?_ _)); refine kF ?_ NB138_153.out _; (with_reducible repeat (first | refine kN ?_ _ | refine kD ?_ | refine kA ?_ _)); refine kF ?_ NB138_153.out _; (with_reducible repeat (first | refine kN ?_ _ | refine kD ?_ | refine kA ?_ _)); exact BK138.out) Tryd.underlying50 rfl (by kernel_rfl)) rfl ?_
             exact ⟨by first | rfl | (simp [errW_none, errW_some] <;> rfl) | (simp [*, errW_none, errW_some] <;> rfl), by repeat (first | (with_reducible first | exact HB.out | apply bA | apply bN | apply bD | refine bS ?_ GE138.out | refine bS ?_ GE153.out) | exact HB.out)⟩
            ·replace c22 := Bool.eq_false_iff.mpr c22
             subst c22
             have H1 : (some ((⟨#[]⟩ : ByteArray), 0, 0, 0, 0, 0, false)) = some (r1, r2, r3, r4, r5, r6, r7) := by rw [if_neg (show ¬ (false = true) by decide)] at H; exact H
             clear H
             have H := H1
             clear H1
             simp only [Option.some.injEq, Prod.mk.injEq] at H
             obtain ⟨rfl, rfl, rfl, rfl, rfl, rfl, rfl⟩ := H
             try go_wp2
             have n0_ := Aside0.mk (rD HO_4.out)
             have n1_ := Aside0.mk (rD HO_5.out)
             have n2_ := Aside0.mk (kD BK138.out)
             have n3_ := Aside0.mk (bD HB.out)
             clear HO_4
             clear HO_5
             clear BK138
             clear HB
             have HO_4 := n0_
             have HO_5 := n1_
             have BK138 := n2_
             have HB := n3_
             clear n0_ n1_ n2_ n3_
             have p147 : 0 ≤ (0 : Int) := (by omega)
             have q147 : 0 < (t139.length : Int) := of_decide_eq_true (by first | (with_reducible assumption) | assumption)
             obtain ⟨ad147, e147, hx147_0⟩ := Kd.at_string (Kd.R_reads' HO_4.out).2.2 0 p147 q147
             obtain rfl : ad142 = ad147 := (by injection e147)
             have qi147 : (0 < t139.length) = True := eq_true (by omega)
             (try rw [show ((0 : Int)).toNat = 0 from rfl] at hx147_0)
             (try rw [Addr.add_zero'] at hx147_0)
             replace p147 := eq_true p147
             replace q147 := eq_true q147
             obtain ⟨Ao36, co36, eo36⟩ := Kd.R_slice HO_5.out
             (first | subst eo36 | (injection eo36 with f1_ f2_ f3_; have f4_ := f1_.symm; have f5_ := f3_.symm; clear f1_ f2_ f3_; subst f4_; subst f5_))
             have p148 : 0 ≤ (0 : Int) := (by omega)
             have q148 : 0 < (t143.length : Int) := of_decide_eq_true (by first | (with_reducible assumption) | assumption)
             obtain ⟨ad148, e148, hx148_0⟩ := Kd.at_int (Kd.R_reads' HO_5.out).2.2 0 p148 q148
             cases e148
             have qi148 : (0 < t143.length) = True := eq_true (by omega)
             (try rw [show ((0 : Int)).toNat = 0 from rfl] at hx148_0)
             (try rw [Addr.add_zero'] at hx148_0)
             replace p148 := eq_true p148
             replace q148 := eq_true q148
             have p149 : 0 ≤ (1 : Int) := (by omega)
             have q149 : 1 < (t143.length : Int) := of_decide_eq_true (by first | (with_reducible assumption) | assumption)
             obtain ⟨ad149, e149, hx149_0⟩ := Kd.at_int (Kd.R_reads' HO_5.out).2.2 1 p149 q149
             obtain rfl : ad148 = ad149 := (by injection e149)
             (try simp only [show (1 : Int).toNat = 1 from rfl, Nat.reduceMul, Nat.reduceEqDiff, Go.Addr.add, ↓reduceIte] at hx149_0)
             have qi149 : (1 < t143.length) = True := eq_true (by omega)
             (try rw [show ((1 : Int)).toNat = 1 from rfl] at hx149_0)
             replace p149 := eq_true p149
             replace q149 := eq_true q149
             have p150 : 0 ≤ (2 : Int) := (by omega)
             have q150 : 2 < (t143.length : Int) := of_decide_eq_true (by first | (with_reducible assumption) | assumption)
             obtain ⟨ad150, e150, hx150_0⟩ := Kd.at_int (Kd.R_reads' HO_5.out).2.2 2 p150 q150
             obtain rfl : ad148 = ad150 := (by injection e150)
             (try simp only [show (2 : Int).toNat = 2 from rfl, Nat.reduceMul, Nat.reduceEqDiff, Go.Addr.add, ↓reduceIte] at hx150_0)
             have qi150 : (2 < t143.length) = True := eq_true (by omega)
             (try rw [show ((2 : Int)).toNat = 2 from rfl] at hx150_0)
             replace p150 := eq_true p150
             replace q150 := eq_true q150
             have p151 : 0 ≤ (3 : Int) := (by omega)
             have q151 : 3 < (t143.length : Int) := of_decide_eq_true (by first | (with_reducible assumption) | assumption)
             obtain ⟨ad151, e151, hx151_0⟩ := Kd.at_int (Kd.R_reads' HO_5.out).2.2 3 p151 q151
             obtain rfl : ad148 = ad151 := (by injection e151)
             (try simp only [show (3 : Int).toNat = 3 from rfl, Nat.reduceMul, Nat.reduceEqDiff, Go.Addr.add, ↓reduceIte] at hx151_0)
             have qi151 : (3 < t143.length) = True := eq_true (by omega)
             (try rw [show ((3 : Int)).toNat = 3 from rfl] at hx151_0)
             replace p151 := eq_true p151
             replace q151 := eq_true q151
             have p152 : 0 ≤ (4 : Int) := (by omega)
             have q152 : 4 < (t143.length : Int) := of_decide_eq_true (by first | (with_reducible assumption) | assumption)
             obtain ⟨ad152, e152, hx152_0⟩ := Kd.at_int (Kd.R_reads' HO_5.out).2.2 4 p152 q152
             obtain rfl : ad148 = ad152 := (by injection e152)
             (try simp only [show (4 : Int).toNat = 4 from rfl, Nat.reduceMul, Nat.reduceEqDiff, Go.Addr.add, ↓reduceIte] at hx152_0)
             have qi152 : (4 < t143.length) = True := eq_true (by omega)
             (try rw [show ((4 : Int)).toNat = 4 from rfl] at hx152_0)
             replace p152 := eq_true p152
             replace q152 := eq_true q152
             refine start_ (n := 21) (S := fun w' => w'.cell? ad142 = some (.string (rdOf ByteArray.empty t139 0)) ∧ w'.cell? ad148 = some (.int .i64 (rd t143 0)) ∧ w'.cell? ⟨ad148.block, ad148.off + 1, none⟩ = some (.int .i64 (rd t143 1)) ∧ w'.cell? ⟨ad148.block, ad148.off + 2, none⟩ = some (.int .i64 (rd t143 2)) ∧ w'.cell? ⟨ad148.block, ad148.off + 3, none⟩ = some (.int .i64 (rd t143 3)) ∧ w'.cell? ⟨ad148.block, ad148.off + 4, none⟩ = some (.int .i64 (rd t143 4))) (ds := []) #[F,F,F,F,F,F,F,F,F,F,F,F,F,F,F,F,F,F,F,F,F] (by kernel_rfl) rfl rfl ⟨hx147_0, hx148_0, hx149_0, hx150_0, hx151_0, hx152_0⟩ (fun hHeld => ?_); refine with_tabW spec_l08Read.tab7 spec_l08Read.bits7 (fun HT_ HW_ => ?_)
             generalize wc.drew = w35 at HO_4 HO_5 BK138 HB hx147_0 hx148_0 hx149_0 hx150_0 hx151_0 hx152_0 hHeld ⊢
             refine pure_ (i := 0) (N := some 29) (v := ?_) (a' := ?_) #[T,F,F,F,F,F,F,F,F,F,F,F,F,F,F,F,F,F,F,F,F] rfl rfl (aO HT_.out (by kernel_rfl)) (fun _ _ _ h => h) (Or.inl ⟨by rfl, ?_⟩) ?_ ?_; rotate_left; (·intro w'; go_simp; with_reducible rfl); rotate_left; (·simp only [Act.put, sI, sZ, sS, iW, jW]; rfl)
             refine pure_ (i := 1) (N := some 30) (v := ?_) (a' := ?_) #[T,T,F,F,F,F,F,F,F,F,F,F,F,F,F,F,F,F,F,F,F] rfl rfl (aO HT_.out (by kernel_rfl)) (fun _ _ _ h => h) (Or.inl ⟨by rfl, ?_⟩) ?_ ?_; rotate_left; (·intro w'; go_simp; with_reducible rfl); rotate_left; (·simp only [Act.put, sI, sZ, sS, iW, jW]; rfl)
             refine pure_ (i := 3) (N := some 32) (v := ?_) (a' := ?_) #[T,T,F,T,F,F,F,F,F,F,F,F,F,F,F,F,F,F,F,F,F] rfl rfl (aO HT_.out (by kernel_rfl)) (fun _ _ _ h => h) (Or.inl ⟨by rfl, ?_⟩) ?_ ?_; rotate_left; (·intro w'; go_simp; with_reducible rfl); rotate_left; (·simp only [Act.put, sI, sZ, sS, iW, jW]; rfl)
             refine pure_ (i := 4) (N := some 33) (v := ?_) (a' := ?_) #[T,T,F,T,T,F,F,F,F,F,F,F,F,F,F,F,F,F,F,F,F] rfl rfl (aO HT_.out (by kernel_rfl)) (fun _ _ _ h => h) (Or.inl ⟨by rfl, ?_⟩) ?_ ?_; rotate_left; (·intro w'; go_simp; with_reducible rfl); rotate_left; (·simp only [Act.put, sI, sZ, sS, iW, jW]; rfl)
             refine pure_ (i := 6) (N := some 35) (v := ?_) (a' := ?_) #[T,T,F,T,T,F,T,F,F,F,F,F,F,F,F,F,F,F,F,F,F] rfl rfl (aO HT_.out (by kernel_rfl)) (fun _ _ _ h => h) (Or.inl ⟨by rfl, ?_⟩) ?_ ?_; rotate_left; (·intro w'; go_simp; with_reducible rfl); rotate_left; (·simp only [Act.put, sI, sZ, sS, iW, jW]; rfl)
             refine pure_ (i := 7) (N := some 36) (v := ?_) (a' := ?_) #[T,T,F,T,T,F,T,T,F,F,F,F,F,F,F,F,F,F,F,F,F] rfl rfl (aO HT_.out (by kernel_rfl)) (fun _ _ _ h => h) (Or.inl ⟨by rfl, ?_⟩) ?_ ?_; rotate_left; (·intro w'; go_simp; with_reducible rfl); rotate_left; (·simp only [Act.put, sI, sZ, sS, iW, jW]; rfl)
             refine pure_ (i := 9) (N := some 38) (v := ?_) (a' := ?_) #[T,T,F,T,T,F,T,T,F,T,F,F,F,F,F,F,F,F,F,F,F] rfl rfl (aO HT_.out (by kernel_rfl)) (fun _ _ _ h => h) (Or.inl ⟨by rfl, ?_⟩) ?_ ?_; rotate_left; (·intro w'; go_simp; with_reducible rfl); rotate_left; (·simp only [Act.put, sI, sZ, sS, iW, jW]; rfl)
             refine pure_ (i := 10) (N := some 39) (v := ?_) (a' := ?_) #[T,T,F,T,T,F,T,T,F,T,T,F,F,F,F,F,F,F,F,F,F] rfl rfl (aO HT_.out (by kernel_rfl)) (fun _ _ _ h => h) (Or.inl ⟨by rfl, ?_⟩) ?_ ?_; rotate_left; (·intro w'; go_simp; with_reducible rfl); rotate_left; (·simp only [Act.put, sI, sZ, sS, iW, jW]; rfl)
             refine pure_ (i := 12) (N := some 41) (v := ?_) (a' := ?_) #[T,T,F,T,T,F,T,T,F,T,T,F,T,F,F,F,F,F,F,F,F] rfl rfl (aO HT_.out (by kernel_rfl)) (fun _ _ _ h => h) (Or.inl ⟨by rfl, ?_⟩) ?_ ?_; rotate_left; (·intro w'; go_simp; with_reducible rfl); rotate_left; (·simp only [Act.put, sI, sZ, sS, iW, jW]; rfl)
             refine pure_ (i := 13) (N := some 42) (v := ?_) (a' := ?_) #[T,T,F,T,T,F,T,T,F,T,T,F,T,T,F,F,F,F,F,F,F] rfl rfl (aO HT_.out (by kernel_rfl)) (fun _ _ _ h => h) (Or.inl ⟨by rfl, ?_⟩) ?_ ?_; rotate_left; (·intro w'; go_simp; with_reducible rfl); rotate_left; (·simp only [Act.put, sI, sZ, sS, iW, jW]; rfl)
             refine pure_ (i := 15) (N := some 44) (v := ?_) (a' := ?_) #[T,T,F,T,T,F,T,T,F,T,T,F,T,T,F,T,F,F,F,F,F] rfl rfl (aO HT_.out (by kernel_rfl)) (fun _ _ _ h => h) (Or.inl ⟨by rfl, ?_⟩) ?_ ?_; rotate_left; (·intro w'; go_simp; with_reducible rfl); rotate_left; (·simp only [Act.put, sI, sZ, sS, iW, jW]; rfl)
             refine pure_ (i := 16) (N := some 45) (v := ?_) (a' := ?_) #[T,T,F,T,T,F,T,T,F,T,T,F,T,T,F,T,T,F,F,F,F] rfl rfl (aO HT_.out (by kernel_rfl)) (fun _ _ _ h => h) (Or.inl ⟨by rfl, ?_⟩) ?_ ?_; rotate_left; (·intro w'; go_simp; with_reducible rfl); rotate_left; (·simp only [Act.put, sI, sZ, sS, iW, jW]; rfl)
             refine take_ (i := 2) (N := some 31) (v := ?_) (a' := ?_) #[T,T,T,T,T,F,T,T,F,T,T,F,T,T,F,T,T,F,F,F,F] rfl rfl (tW HT_.out HW_.out (by kernel_rfl)) (fun _ _ _ h => h) (Or.inl ⟨by rfl, ?_⟩) hHeld ?_ ?_; rotate_left; (·rintro w' ⟨s0, s1, s2, s3, s4, s5⟩; go_simp; with_reducible rfl); rotate_left; (·simp only [Act.put, sI, sZ, sS, iW, jW]; rfl)
             refine take_ (i := 5) (N := some 34) (v := ?_) (a' := ?_) #[T,T,T,T,T,T,T,T,F,T,T,F,T,T,F,T,T,F,F,F,F] rfl rfl (tW HT_.out HW_.out (by kernel_rfl)) (fun _ _ _ h => h) (Or.inl ⟨by rfl, ?_⟩) hHeld ?_ ?_; rotate_left; (·rintro w' ⟨s0, s1, s2, s3, s4, s5⟩; go_simp; with_reducible rfl); rotate_left; (·simp only [Act.put, sI, sZ, sS, iW, jW]; rfl)
             refine take_ (i := 8) (N := some 37) (v := ?_) (a' := ?_) #[T,T,T,T,T,T,T,T,T,T,T,F,T,T,F,T,T,F,F,F,F] rfl rfl (tW HT_.out HW_.out (by kernel_rfl)) (fun _ _ _ h => h) (Or.inl ⟨by rfl, ?_⟩) hHeld ?_ ?_; rotate_left; (·rintro w' ⟨s0, s1, s2, s3, s4, s5⟩; go_simp; with_reducible rfl); rotate_left; (·simp only [Act.put, sI, sZ, sS, iW, jW]; rfl)
             refine take_ (i := 11) (N := some 40) (v := ?_) (a' := ?_) #[T,T,T,T,T,T,T,T,T,T,T,T,T,T,F,T,T,F,F,F,F] rfl rfl (tW HT_.out HW_.out (by kernel_rfl)) (fun _ _ _ h => h) (Or.inl ⟨by rfl, ?_⟩) hHeld ?_ ?_; rotate_left; (·rintro w' ⟨s0, s1, s2, s3, s4, s5⟩; go_simp; with_reducible rfl); rotate_left; (·simp only [Act.put, sI, sZ, sS, iW, jW]; rfl)
             refine take_ (i := 14) (N := some 43) (v := ?_) (a' := ?_) #[T,T,T,T,T,T,T,T,T,T,T,T,T,T,T,T,T,F,F,F,F] rfl rfl (tW HT_.out HW_.out (by kernel_rfl)) (fun _ _ _ h => h) (Or.inl ⟨by rfl, ?_⟩) hHeld ?_ ?_; rotate_left; (·rintro w' ⟨s0, s1, s2, s3, s4, s5⟩; go_simp; with_reducible rfl); rotate_left; (·simp only [Act.put, sI, sZ, sS, iW, jW]; rfl)
             refine take_ (i := 17) (N := some 46) (v := ?_) (a' := ?_) #[T,T,T,T,T,T,T,T,T,T,T,T,T,T,T,T,T,T,F,F,F] rfl rfl (tW HT_.out HW_.out (by kernel_rfl)) (fun _ _ _ h => h) (Or.inl ⟨by rfl, ?_⟩) hHeld ?_ ?_; rotate_left; (·rintro w' ⟨s0, s1, s2, s3, s4, s5⟩; go_simp; with_reducible rfl); rotate_left; (·simp only [Act.put, sI, sZ, sS, iW, jW]; rfl)
             refine pure_ (i := 18) (N := some 47) (v := ?_) (a' := ?_) #[T,T,T,T,T,T,T,T,T,T,T,T,T,T,T,T,T,T,T,F,F] rfl rfl (aO HT_.out (by kernel_rfl)) (fun _ _ _ h => h) (Or.inl ⟨by rfl, ?_⟩) ?_ ?_; rotate_left; (·intro w'; go_simp; with_reducible rfl); rotate_left; (·simp only [Act.put, sI, sZ, sS, iW, jW]; rfl)
             refine one_ (i := 19) (N := some 7) #[T,T,T,T,T,T,T,T,T,T,T,T,T,T,T,T,T,T,T,T,F] rfl rfl (oO HT_.out (by kernel_rfl)) (by decide) (fun K hK => ?_)
             refine box_step ?hg (N := 7) ?hd (cs := #[.string (⟨#[]⟩ : ByteArray), .int .i64 0, .int .i64 0, .int .i64 0, .int .i64 0, .int .i64 0]) (t := 50) ?hr ?_; (case hd => rfl); (case hg => rfl); (case hr => first | (go_simp; done) | (go_simp; rfl))
             intro gb153 hg w37 hbox hb
             have HS0_ := (hb.cell (World.block_lt_of_cell? _ _ (hHeld.1))).trans (hHeld.1)
             have HS1_ := (hb.cell (World.block_lt_of_cell? _ _ (hHeld.2.1))).trans (hHeld.2.1)
             have HS2_ := (hb.cell (World.block_lt_of_cell? _ _ (hHeld.2.2.1))).trans (hHeld.2.2.1)
             have HS3_ := (hb.cell (World.block_lt_of_cell? _ _ (hHeld.2.2.2.1))).trans (hHeld.2.2.2.1)
             have HS4_ := (hb.cell (World.block_lt_of_cell? _ _ (hHeld.2.2.2.2.1))).trans (hHeld.2.2.2.2.1)
             have HS5_ := (hb.cell (World.block_lt_of_cell? _ _ (hHeld.2.2.2.2.2))).trans (hHeld.2.2.2.2.2)
             have n0_ := Aside0.mk (rB (by (with_reducible repeat (first | apply rA | apply rN | apply rD)); exact HO_4.out) hb)
             have n1_ := Aside0.mk (rB (by (with_reducible repeat (first | apply rA | apply rN | apply rD)); exact HO_5.out) hb)
             have n2_ := Aside0.mk (kB (g := gb138) (o := .cells #[.string (⟨#[]⟩ : ByteArray), .int .i64 0, .int .i64 0, .int .i64 0, .int .i64 0, .int .i64 0] 50 (0, 0)) (by (with_reducible repeat (first | refine kN ?_ _ | refine kD ?_ | refine kA ?_ _)); exact BK138.out) hb)
             have n3_ := Aside0.mk (bP (by repeat (first | (with_reducible first | exact HB.out | apply bA | apply bN | apply bD | refine bS ?_ GE138.out) | exact HB.out)) hb)
             have n4_ := Aside0.mk (hbox)
             have n5_ := Aside0.mk ((by rw [hg]; exact (bZ (by repeat (first | (with_reducible first | exact HB.out | apply bA | apply bN | apply bD | refine bS ?_ GE138.out) | exact HB.out))) : w.heap.size ≤ gb153))
             have n6_ := Aside0.mk ((by rw [hg]; exact (bZ (by repeat (first | (with_reducible first | exact HB.out | apply bA | apply bN | apply bD | refine bS ?_ GE138.out) | exact HB.out))) : w.heap.size ≤ gb153))
             have n7_ := Aside0.mk ((by rw [hg]; exact Nat.ne_of_lt (kL (g := gb138) (o := .cells #[.string (⟨#[]⟩ : ByteArray), .int .i64 0, .int .i64 0, .int .i64 0, .int .i64 0, .int .i64 0] 50 (0, 0)) (by (with_reducible repeat (first | refine kN ?_ _ | refine kD ?_ | refine kA ?_ _)); exact BK138.out)) : gb138 ≠ gb153))
             have n8_ := Aside0.mk ((by rw [hg]; exact Nat.ne_of_gt (kL (g := gb138) (o := .cells #[.string (⟨#[]⟩ : ByteArray), .int .i64 0, .int .i64 0, .int .i64 0, .int .i64 0, .int .i64 0] 50 (0, 0)) (by (with_reducible repeat (first | refine kN ?_ _ | refine kD ?_ | refine kA ?_ _)); exact BK138.out)) : gb153 ≠ gb138))
             clear HO_4
             clear HO_5
             clear BK138
             clear HB
             have HO_4 := n0_
             have HO_5 := n1_
             have BK138 := n2_
             have HB := n3_
             have BK153 := n4_
             have GW153 := n5_
             have GE153 := n6_
             have NB138_153 := n7_
             have NB153_138 := n8_
             clear n0_ n1_ n2_ n3_ n4_ n5_ n6_ n7_ n8_
             clear hb hbox hg
             refine hK.out _ _ ⟨HS0_, HS1_, HS2_, HS3_, HS4_, HS5_⟩ (fun hHeld => ?_)
             clear hK K
             refine norm_ (a' := ?_) ?_ ?_
             rotate_left
             ·show Act.put _ (some 7) _ = _
              simp only [Act.put, sI, sZ, sS, iW, jW]
              rfl
             refine one_ (i := 20) (N := none) #[T,T,T,T,T,T,T,T,T,T,T,T,T,T,T,T,T,T,T,T,T] rfl rfl (oO HT_.out (by kernel_rfl)) (by decide) (fun K hK => ?_)
             have hs38 : w37.cell? ⟨gb153, 0, none⟩ = some (.string (⟨#[]⟩ : ByteArray)) := (kC BK153.out 0).trans rfl
             have hfs38 := blk_frozen BK153.out 0
             have hns38_0 := NB138_153.out
             have hms38_0 := NB153_138.out
             have hs39 : w37.cell? ⟨gb153, 1, none⟩ = some (.int .i64 0) := (kC BK153.out 1).trans rfl
             have hfs39 := blk_frozen BK153.out 1
             have hns39_0 := NB138_153.out
             have hms39_0 := NB153_138.out
             have hs40 : w37.cell? ⟨gb153, 2, none⟩ = some (.int .i64 0) := (kC BK153.out 2).trans rfl
             have hfs40 := blk_frozen BK153.out 2
             have hns40_0 := NB138_153.out
             have hms40_0 := NB153_138.out
             have hs41 : w37.cell? ⟨gb153, 3, none⟩ = some (.int .i64 0) := (kC BK153.out 3).trans rfl
             have hfs41 := blk_frozen BK153.out 3
             have hns41_0 := NB138_153.out
             have hms41_0 := NB153_138.out
             have hs42 : w37.cell? ⟨gb153, 4, none⟩ = some (.int .i64 0) := (kC BK153.out 4).trans rfl
             have hfs42 := blk_frozen BK153.out 4
             have hns42_0 := NB138_153.out
             have hms42_0 := NB153_138.out
             have hs43 : w37.cell? ⟨gb153, 5, none⟩ = some (.int .i64 0) := (kC BK153.out 5).trans rfl
             have hfs43 := blk_frozen BK153.out 5
             have hns43_0 := NB138_153.out
             have hms43_0 := NB153_138.out
             refine skip_ (w1 := ?_) (by rfl) rfl ?_ ?_
             rotate_left
             ·go_simp
              rfl
             refine hK.out _ _ ⟨ (by refine (cell_far (p := ⟨gb153, _, none⟩) (by first | ((try rw [add_block]); (try dsimp only); exact Kd.own_blk (Kd.R_ne HO_4.out BK153.out (by decide))) | exact Kd.own_blk (Kd.R_ne HO_4.out BK153.out (by decide)) | (show (Addr.add _ _).block ≠ _; rw [add_block]; exact Kd.own_blk (Kd.R_ne HO_4.out BK153.out (by decide))) | (dsimp only; exact Kd.own_blk (Kd.R_ne HO_4.out BK153.out (by decide)))) _).trans ?_; refine (cell_far (p := ⟨gb153, _, none⟩) (by first | ((try rw [add_block]); (try dsimp only); exact Kd.own_blk (Kd.R_ne HO_4.out BK153.out (by decide))) | exact Kd.own_blk (Kd.R_ne HO_4.out BK153.out (by decide)) | (show (Addr.add _ _).block ≠ _; rw [add_block]; exact Kd.own_blk (Kd.R_ne HO_4.out BK153.out (by decide))) | (dsimp only; exact Kd.own_blk (Kd.R_ne HO_4.out BK153.out (by decide)))) _).trans ?_; refine (cell_far (p := ⟨gb153, _, none⟩) (by first | ((try rw [add_block]); (try dsimp only); exact Kd.own_blk (Kd.R_ne HO_4.out BK153.out (by decide))) | exact Kd.own_blk (Kd.R_ne HO_4.out BK153.out (by decide)) | (show (Addr.add _ _).block ≠ _; rw [add_block]; exact Kd.own_blk (Kd.R_ne HO_4.out BK153.out (by decide))) | (dsimp only; exact Kd.own_blk (Kd.R_ne HO_4.out BK153.out (by decide)))) _).trans ?_; refine (cell_far (p := ⟨gb153, _, none⟩) (by first | ((try rw [add_block]); (try dsimp only); exact Kd.own_blk (Kd.R_ne HO_4.out BK153.out (by decide))) | exact Kd.own_blk (Kd.R_ne HO_4.out BK153.out (by decide)) | (show (Addr.add _ _).block ≠ _; rw [add_block]; exact Kd.own_blk (Kd.R_ne HO_4.out BK153.out (by decide))) | (dsimp only; exact Kd.own_blk (Kd.R_ne HO_4.out BK153.out (by decide)))) _).trans ?_; refine (cell_far (p := ⟨gb153, _, none⟩) (by first | ((try rw [add_block]); (try dsimp only); exact Kd.own_blk (Kd.R_ne HO_4.out BK153.out (by decide))) | exact Kd.own_blk (Kd.R_ne HO_4.out BK153.out (by decide)) | (show (Addr.add _ _).block ≠ _; rw [add_block]; exact Kd.own_blk (Kd.R_ne HO_4.out BK153.out (by decide))) | (dsimp only; exact Kd.own_blk (Kd.R_ne HO_4.out BK153.out (by decide)))) _).trans ?_; refine (cell_far (p := ⟨gb153, _, none⟩) (by first | ((try rw [add_block]); (try dsimp only); exact Kd.own_blk (Kd.R_ne HO_4.out BK153.out (by decide))) | exact Kd.own_blk (Kd.R_ne HO_4.out BK153.out (by decide)) | (show (Addr.add _ _).block ≠ _; rw [add_block]; exact Kd.own_blk (Kd.R_ne HO_4.out BK153.out (by decide))) | (dsimp only; exact Kd.own_blk (Kd.R_ne HO_4.out BK153.out (by decide)))) _).trans ?_; exact hHeld.1), (by refine (cell_far (p := ⟨gb153, _, none⟩) (by first | ((try rw [add_block]); (try dsimp only); exact Kd.own_blk (Kd.R_ne HO_5.out BK153.out (by decide))) | exact Kd.own_blk (Kd.R_ne HO_5.out BK153.out (by decide)) | (show (Addr.add _ _).block ≠ _; rw [add_block]; exact Kd.own_blk (Kd.R_ne HO_5.out BK153.out (by decide))) | (dsimp only; exact Kd.own_blk (Kd.R_ne HO_5.out BK153.out (by decide)))) _).trans ?_; refine (cell_far (p := ⟨gb153, _, none⟩) (by first | ((try rw [add_block]); (try dsimp only); exact Kd.own_blk (Kd.R_ne HO_5.out BK153.out (by decide))) | exact Kd.own_blk (Kd.R_ne HO_5.out BK153.out (by decide)) | (show (Addr.add _ _).block ≠ _; rw [add_block]; exact Kd.own_blk (Kd.R_ne HO_5.out BK153.out (by decide))) | (dsimp only; exact Kd.own_blk (Kd.R_ne HO_5.out BK153.out (by decide)))) _).trans ?_; refine (cell_far (p := ⟨gb153, _, none⟩) (by first | ((try rw [add_block]); (try dsimp only); exact Kd.own_blk (Kd.R_ne HO_5.out BK153.out (by decide))) | exact Kd.own_blk (Kd.R_ne HO_5.out BK153.out (by decide)) | (show (Addr.add _ _).block ≠ _; rw [add_block]; exact Kd.own_blk (Kd.R_ne HO_5.out BK153.out (by decide))) | (dsimp only; exact Kd.own_blk (Kd.R_ne HO_5.out BK153.out (by decide)))) _).trans ?_; refine (cell_far (p := ⟨gb153, _, none⟩) (by first | ((try rw [add_block]); (try dsimp only); exact Kd.own_blk (Kd.R_ne HO_5.out BK153.out (by decide))) | exact Kd.own_blk (Kd.R_ne HO_5.out BK153.out (by decide)) | (show (Addr.add _ _).block ≠ _; rw [add_block]; exact Kd.own_blk (Kd.R_ne HO_5.out BK153.out (by decide))) | (dsimp only; exact Kd.own_blk (Kd.R_ne HO_5.out BK153.out (by decide)))) _).trans ?_; refine (cell_far (p := ⟨gb153, _, none⟩) (by first | ((try rw [add_block]); (try dsimp only); exact Kd.own_blk (Kd.R_ne HO_5.out BK153.out (by decide))) | exact Kd.own_blk (Kd.R_ne HO_5.out BK153.out (by decide)) | (show (Addr.add _ _).block ≠ _; rw [add_block]; exact Kd.own_blk (Kd.R_ne HO_5.out BK153.out (by decide))) | (dsimp only; exact Kd.own_blk (Kd.R_ne HO_5.out BK153.out (by decide)))) _).trans ?_; refine (cell_far (p := ⟨gb153, _, none⟩) (by first | ((try rw [add_block]); (try dsimp only); exact Kd.own_blk (Kd.R_ne HO_5.out BK153.out (by decide))) | exact Kd.own_blk (Kd.R_ne HO_5.out BK153.out (by decide)) | (show (Addr.add _ _).block ≠ _; rw [add_block]; exact Kd.own_blk (Kd.R_ne HO_5.out BK153.out (by decide))) | (dsimp only; exact Kd.own_blk (Kd.R_ne HO_5.out BK153.out (by decide)))) _).trans ?_; exact hHeld.2.1), (by refine (cell_far (p := ⟨gb153, _, none⟩) (by first | ((try rw [add_block]); (try dsimp only); exact Kd.own_blk (Kd.R_ne HO_5.out BK153.out (by decide))) | exact Kd.own_blk (Kd.R_ne HO_5.out BK153.out (by decide)) | (show (Addr.add _ _).block ≠ _; rw [add_block]; exact Kd.own_blk (Kd.R_ne HO_5.out BK153.out (by decide))) | (dsimp only; exact Kd.own_blk (Kd.R_ne HO_5.out BK153.out (by decide)))) _).trans ?_; refine (cell_far (p := ⟨gb153, _, none⟩) (by first | ((try rw [add_block]); (try dsimp only); exact Kd.own_blk (Kd.R_ne HO_5.out BK153.out (by decide))) | exact Kd.own_blk (Kd.R_ne HO_5.out BK153.out (by decide)) | (show (Addr.add _ _).block ≠ _; rw [add_block]; exact Kd.own_blk (Kd.R_ne HO_5.out BK153.out (by decide))) | (dsimp only; exact Kd.own_blk (Kd.R_ne HO_5.out BK153.out (by decide)))) _).trans ?_; refine (cell_far (p := ⟨gb153, _, none⟩) (by first | ((try rw [add_block]); (try dsimp only); exact Kd.own_blk (Kd.R_ne HO_5.out BK153.out (by decide))) | exact Kd.own_blk (Kd.R_ne HO_5.out BK153.out (by decide)) | (show (Addr.add _ _).block ≠ _; rw [add_block]; exact Kd.own_blk (Kd.R_ne HO_5.out BK153.out (by decide))) | (dsimp only; exact Kd.own_blk (Kd.R_ne HO_5.out BK153.out (by decide)))) _).trans ?_; refine (cell_far (p := ⟨gb153, _, none⟩) (by first | ((try rw [add_block]); (try dsimp only); exact Kd.own_blk (Kd.R_ne HO_5.out BK153.out (by decide))) | exact Kd.own_blk (Kd.R_ne HO_5.out BK153.out (by decide)) | (show (Addr.add _ _).block ≠ _; rw [add_block]; exact Kd.own_blk (Kd.R_ne HO_5.out BK153.out (by decide))) | (dsimp only; exact Kd.own_blk (Kd.R_ne HO_5.out BK153.out (by decide)))) _).trans ?_; refine (cell_far (p := ⟨gb153, _, none⟩) (by first | ((try rw [add_block]); (try dsimp only); exact Kd.own_blk (Kd.R_ne HO_5.out BK153.out (by decide))) | exact Kd.own_blk (Kd.R_ne HO_5.out BK153.out (by decide)) | (show (Addr.add _ _).block ≠ _; rw [add_block]; exact Kd.own_blk (Kd.R_ne HO_5.out BK153.out (by decide))) | (dsimp only; exact Kd.own_blk (Kd.R_ne HO_5.out BK153.out (by decide)))) _).trans ?_; refine (cell_far (p := ⟨gb153, _, none⟩) (by first | ((try rw [add_block]); (try dsimp only); exact Kd.own_blk (Kd.R_ne HO_5.out BK153.out (by decide))) | exact Kd.own_blk (Kd.R_ne HO_5.out BK153.out (by decide)) | (show (Addr.add _ _).block ≠ _; rw [add_block]; exact Kd.own_blk (Kd.R_ne HO_5.out BK153.out (by decide))) | (dsimp only; exact Kd.own_blk (Kd.R_ne HO_5.out BK153.out (by decide)))) _).trans ?_; exact hHeld.2.2.1), (by refine (cell_far (p := ⟨gb153, _, none⟩) (by first | ((try rw [add_block]); (try dsimp only); exact Kd.own_blk (Kd.R_ne HO_5.out BK153.out (by decide))) | exact Kd.own_blk (Kd.R_ne HO_5.out BK153.out (by decide)) | (show (Addr.add _ _).block ≠ _; rw [add_block]; exact Kd.own_blk (Kd.R_ne HO_5.out BK153.out (by decide))) | (dsimp only; exact Kd.own_blk (Kd.R_ne HO_5.out BK153.out (by decide)))) _).trans ?_; refine (cell_far (p := ⟨gb153, _, none⟩) (by first | ((try rw [add_block]); (try dsimp only); exact Kd.own_blk (Kd.R_ne HO_5.out BK153.out (by decide))) | exact Kd.own_blk (Kd.R_ne HO_5.out BK153.out (by decide)) | (show (Addr.add _ _).block ≠ _; rw [add_block]; exact Kd.own_blk (Kd.R_ne HO_5.out BK153.out (by decide))) | (dsimp only; exact Kd.own_blk (Kd.R_ne HO_5.out BK153.out (by decide)))) _).trans ?_; refine (cell_far (p := ⟨gb153, _, none⟩) (by first | ((try rw [add_block]); (try dsimp only); exact Kd.own_blk (Kd.R_ne HO_5.out BK153.out (by decide))) | exact Kd.own_blk (Kd.R_ne HO_5.out BK153.out (by decide)) | (show (Addr.add _ _).block ≠ _; rw [add_block]; exact Kd.own_blk (Kd.R_ne HO_5.out BK153.out (by decide))) | (dsimp only; exact Kd.own_blk (Kd.R_ne HO_5.out BK153.out (by decide)))) _).trans ?_; refine (cell_far (p := ⟨gb153, _, none⟩) (by first | ((try rw [add_block]); (try dsimp only); exact Kd.own_blk (Kd.R_ne HO_5.out BK153.out (by decide))) | exact Kd.own_blk (Kd.R_ne HO_5.out BK153.out (by decide)) | (show (Addr.add _ _).block ≠ _; rw [add_block]; exact Kd.own_blk (Kd.R_ne HO_5.out BK153.out (by decide))) | (dsimp only; exact Kd.own_blk (Kd.R_ne HO_5.out BK153.out (by decide)))) _).trans ?_; refine (cell_far (p := ⟨gb153, _, none⟩) (by first | ((try rw [add_block]); (try dsimp only); exact Kd.own_blk (Kd.R_ne HO_5.out BK153.out (by decide))) | exact Kd.own_blk (Kd.R_ne HO_5.out BK153.out (by decide)) | (show (Addr.add _ _).block ≠ _; rw [add_block]; exact Kd.own_blk (Kd.R_ne HO_5.out BK153.out (by decide))) | (dsimp only; exact Kd.own_blk (Kd.R_ne HO_5.out BK153.out (by decide)))) _).trans ?_; refine (cell_far (p := ⟨gb153, _, none⟩) (by first | ((try rw [add_block]); (try dsimp only); exact Kd.own_blk (Kd.R_ne HO_5.out BK153.out (by decide))) | exact Kd.own_blk (Kd.R_ne HO_5.out BK153.out (by decide)) | (show (Addr.add _ _).block ≠ _; rw [add_block]; exact Kd.own_blk (Kd.R_ne HO_5.out BK153.out (by decide))) | (dsimp only; exact Kd.own_blk (Kd.R_ne HO_5.out BK153.out (by decide)))) _).trans ?_; exact hHeld.2.2.2.1), (by refine (cell_far (p := ⟨gb153, _, none⟩) (by first | ((try rw [add_block]); (try dsimp only); exact Kd.own_blk (Kd.R_ne HO_5.out BK153.out (by decide))) | exact Kd.own_blk (Kd.R_ne HO_5.out BK153.out (by decide)) | (show (Addr.add _ _).block ≠ _; rw [add_block]; exact Kd.own_blk (Kd.R_ne HO_5.out BK153.out (by decide))) | (dsimp only; exact Kd.own_blk (Kd.R_ne HO_5.out BK153.out (by decide)))) _).trans ?_; refine (cell_far (p := ⟨gb153, _, none⟩) (by first | ((try rw [add_block]); (try dsimp only); exact Kd.own_blk (Kd.R_ne HO_5.out BK153.out (by decide))) | exact Kd.own_blk (Kd.R_ne HO_5.out BK153.out (by decide)) | (show (Addr.add _ _).block ≠ _; rw [add_block]; exact Kd.own_blk (Kd.R_ne HO_5.out BK153.out (by decide))) | (dsimp only; exact Kd.own_blk (Kd.R_ne HO_5.out BK153.out (by decide)))) _).trans ?_; refine (cell_far (p := ⟨gb153, _, none⟩) (by first | ((try rw [add_block]); (try dsimp only); exact Kd.own_blk (Kd.R_ne HO_5.out BK153.out (by decide))) | exact Kd.own_blk (Kd.R_ne HO_5.out BK153.out (by decide)) | (show (Addr.add _ _).block ≠ _; rw [add_block]; exact Kd.own_blk (Kd.R_ne HO_5.out BK153.out (by decide))) | (dsimp only; exact Kd.own_blk (Kd.R_ne HO_5.out BK153.out (by decide)))) _).trans ?_; refine (cell_far (p := ⟨gb153, _, none⟩) (by first | ((try rw [add_block]); (try dsimp only); exact Kd.own_blk (Kd.R_ne HO_5.out BK153.out (by decide))) | exact Kd.own_blk (Kd.R_ne HO_5.out BK153.out (by decide)) | (show (Addr.add _ _).block ≠ _; rw [add_block]; exact Kd.own_blk (Kd.R_ne HO_5.out BK153.out (by decide))) | (dsimp only; exact Kd.own_blk (Kd.R_ne HO_5.out BK153.out (by decide)))) _).trans ?_; refine (cell_far (p := ⟨gb153, _, none⟩) (by first | ((try rw [add_block]); (try dsimp only); exact Kd.own_blk (Kd.R_ne HO_5.out BK153.out (by decide))) | exact Kd.own_blk (Kd.R_ne HO_5.out BK153.out (by decide)) | (show (Addr.add _ _).block ≠ _; rw [add_block]; exact Kd.own_blk (Kd.R_ne HO_5.out BK153.out (by decide))) | (dsimp only; exact Kd.own_blk (Kd.R_ne HO_5.out BK153.out (by decide)))) _).trans ?_; refine (cell_far (p := ⟨gb153, _, none⟩) (by first | ((try rw [add_block]); (try dsimp only); exact Kd.own_blk (Kd.R_ne HO_5.out BK153.out (by decide))) | exact Kd.own_blk (Kd.R_ne HO_5.out BK153.out (by decide)) | (show (Addr.add _ _).block ≠ _; rw [add_block]; exact Kd.own_blk (Kd.R_ne HO_5.out BK153.out (by decide))) | (dsimp only; exact Kd.own_blk (Kd.R_ne HO_5.out BK153.out (by decide)))) _).trans ?_; exact hHeld.2.2.2.2.1), (by refine (cell_far (p := ⟨gb153, _, none⟩) (by first | ((try rw [add_block]); (try dsimp only); exact Kd.own_blk (Kd.R_ne HO_5.out BK153.out (by decide))) | exact Kd.own_blk (Kd.R_ne HO_5.out BK153.out (by decide)) | (show (Addr.add _ _).block ≠ _; rw [add_block]; exact Kd.own_blk (Kd.R_ne HO_5.out BK153.out (by decide))) | (dsimp only; exact Kd.own_blk (Kd.R_ne HO_5.out BK153.out (by decide)))) _).trans ?_; refine (cell_far (p := ⟨gb153, _, none⟩) (by first | ((try rw [add_block]); (try dsimp only); exact Kd.own_blk (Kd.R_ne HO_5.out BK153.out (by decide))) | exact Kd.own_blk (Kd.R_ne HO_5.out BK153.out (by decide)) | (show (Addr.add _ _).block ≠ _; rw [add_block]; exact Kd.own_blk (Kd.R_ne HO_5.out BK153.out (by decide))) | (dsimp only; exact Kd.own_blk (Kd.R_ne HO_5.out BK153.out (by decide)))) _).trans ?_; refine (cell_far (p := ⟨gb153, _, none⟩) (by first | ((try rw [add_block]); (try dsimp only); exact Kd.own_blk (Kd.R_ne HO_5.out BK153.out (by decide))) | exact Kd.own_blk (Kd.R_ne HO_5.out BK153.out (by decide)) | (show (Addr.add _ _).block ≠ _; rw [add_block]; exact Kd.own_blk (Kd.R_ne HO_5.out BK153.out (by decide))) | (dsimp only; exact Kd.own_blk (Kd.R_ne HO_5.out BK153.out (by decide)))) _).trans ?_; refine (cell_far (p := ⟨gb153, _, none⟩) (by first | ((try rw [add_block]); (try dsimp only); exact Kd.own_blk (Kd.R_ne HO_5.out BK153.out (by decide))) | exact Kd.own_blk (Kd.R_ne HO_5.out BK153.out (by decide)) | (show (Addr.add _ _).block ≠ _; rw [add_block]; exact Kd.own_blk (Kd.R_ne HO_5.out BK153.out (by decide))) | (dsimp only; exact Kd.own_blk (Kd.R_ne HO_5.out BK153.out (by decide)))) _).trans ?_; refine (cell_far (p := ⟨gb153, _, none⟩) (by first | ((try rw [add_block]); (try dsimp only); exact Kd.own_blk (Kd.R_ne HO_5.out BK153.out (by decide))) | exact Kd.own_blk (Kd.R_ne HO_5.out BK153.out (by decide)) | (show (Addr.add _ _).block ≠ _; rw [add_block]; exact Kd.own_blk (Kd.R_ne HO_5.out BK153.out (by decide))) | (dsimp only; exact Kd.own_blk (Kd.R_ne HO_5.out BK153.out (by decide)))) _).trans ?_; refine (cell_far (p := ⟨gb153, _, none⟩) (by first | ((try rw [add_block]); (try dsimp only); exact Kd.own_blk (Kd.R_ne HO_5.out BK153.out (by decide))) | exact Kd.own_blk (Kd.R_ne HO_5.out BK153.out (by decide)) | (show (Addr.add _ _).block ≠ _; rw [add_block]; exact Kd.own_blk (Kd.R_ne HO_5.out BK153.out (by decide))) | (dsimp only; exact Kd.own_blk (Kd.R_ne HO_5.out BK153.out (by decide)))) _).trans ?_; exact hHeld.2.2.2.2.2)⟩ (fun hHeld => ?_)
             clear hK K
             refine done_ (done_of HT_.out (by kernel_rfl)) ?_
             try go_wp2_with (first | ((with_reducible refine gC (f := 90) rfl ?_); refine goesL_ (some 48) rfl rfl Tryd.func90 (by kernel_rfl) rfl #[.pointer (some ⟨gb153, 0, none⟩)] rfl (by (try simp only [List.map_toArray, List.map_cons, List.map_nil]); first | done | rfl | (simp only [List.length_drop, List.length_take]; rfl)) ?_; (with_reducible refine (spec_l08One.calls kj5 ⟨gb153, 0, none⟩ (rdOf ByteArray.empty t139 0) (rd t143 0) (rd t143 1) (rd t143 2) (rd t143 3) (rd t143 4) false _ ?side1 A21.out).mono ?_); (case side1 => exact C_box (t := 50) (show _ from by (with_reducible repeat (first | refine kN ?_ _ | refine kD ?_ | refine kA ?_ _)); refine blk_put (cs := #[.string (rdOf ByteArray.empty t139 0), .int .i64 (rd t143 0), .int .i64 (rd t143 1), .int .i64 (rd t143 2), .int .i64 (rd t143 3), .int .i64 0]) ?_ 5 _ rfl; (with_reducible repeat (first | refine kN ?_ _ | refine kD ?_ | refine kA ?_ _)); refine blk_put (cs := #[.string (rdOf ByteArray.empty t139 0), .int .i64 (rd t143 0), .int .i64 (rd t143 1), .int .i64 (rd t143 2), .int .i64 0, .int .i64 0]) ?_ 4 _ rfl; (with_reducible repeat (first | refine kN ?_ _ | refine kD ?_ | refine kA ?_ _)); refine blk_put (cs := #[.string (rdOf ByteArray.empty t139 0), .int .i64 (rd t143 0), .int .i64 (rd t143 1), .int .i64 0, .int .i64 0, .int .i64 0]) ?_ 3 _ rfl; (with_reducible repeat (first | refine kN ?_ _ | refine kD ?_ | refine kA ?_ _)); refine blk_put (cs := #[.string (rdOf ByteArray.empty t139 0), .int .i64 (rd t143 0), .int .i64 0, .int .i64 0, .int .i64 0, .int .i64 0]) ?_ 2 _ rfl; (with_reducible repeat (first | refine kN ?_ _ | refine kD ?_ | refine kA ?_ _)); refine blk_put (cs := #[.string (rdOf ByteArray.empty t139 0), .int .i64 0, .int .i64 0, .int .i64 0, .int .i64 0, .int .i64 0]) ?_ 1 _ rfl; (with_reducible repeat (first | refine kN ?_ _ | refine kD ?_ | refine kA ?_ _)); refine blk_put (cs := #[.string (⟨#[]⟩ : ByteArray), .int .i64 0, .int .i64 0, .int .i64 0, .int .i64 0, .int .i64 0]) ?_ 0 _ rfl; (with_reducible repeat (first | refine kN ?_ _ | refine kD ?_ | refine kA ?_ _)); exact BK153.out) (k50_mk _ (⟨rdOf ByteArray.empty t139 0, rd t143 0, rd t143 1, rd t143 2, rd t143 3, rd t143 4⟩ : S50) )); rintro e w' ⟨rfl, ⟨nd, rfl⟩⟩; refine ⟨_, rfl, ?_⟩; have hnb44 := NB138_153.out; have hnc44 := NB153_138.out; have hcz45_0 : w37.cell? ⟨gb138, 0, none⟩ = some (.string (⟨#[]⟩ : ByteArray)) := (kC BK138.out 0).trans rfl; have hcz45_1 : w37.cell? ⟨gb138, 1, none⟩ = some (.int .i64 0) := (kC BK138.out 1).trans rfl; have hcz45_2 : w37.cell? ⟨gb138, 2, none⟩ = some (.int .i64 0) := (kC BK138.out 2).trans rfl; have hcz45_3 : w37.cell? ⟨gb138, 3, none⟩ = some (.int .i64 0) := (kC BK138.out 3).trans rfl; have hcz45_4 : w37.cell? ⟨gb138, 4, none⟩ = some (.int .i64 0) := (kC BK138.out 4).trans rfl; have hcz45_5 : w37.cell? ⟨gb138, 5, none⟩ = some (.int .i64 0) := (kC BK138.out 5).trans rfl; have hfz45_0 := blk_frozen BK138.out 0; have hfz45_1 := blk_frozen BK138.out 1; have hfz45_2 := blk_frozen BK138.out 2; have hfz45_3 := blk_frozen BK138.out 3; have hfz45_4 := blk_frozen BK138.out 4; have hfz45_5 := blk_frozen BK138.out 5))
             refine bodyPost_ret (results_ct rfl _ _ gb138 50 #[.string (⟨#[]⟩ : ByteArray), .int .i64 0, .int .i64 0, .int .i64 0, .int .i64 0, .int .i64 0] (0, 0) _ rfl (by (with_reducible repeat (first | refine kN ?_ _ | refine kD ?_ | refine kA ?_ _)); refine blk_put (cs := #[.string (⟨#[]⟩ : ByteArray), .int .i64 0, .int .i64 0, .int .i64 0, .int .i64 0, .int .i64 0]) ?_ 5 _ rfl; (with_reducible repeat (first | refine kN ?_ _ | refine kD ?_ | refine kA ?_ _)); refine blk_put (cs := #[.string (⟨#[]⟩ : ByteArray), .int .i64 0, .int .i64 0, .int .i64 0, .int .i64 0, .int .i64 0]) ?_ 4 _ rfl; (with_reducible repeat (first | refine kN ?_ _ | refine kD ?_ | refine kA ?_ _)); refine blk_put (cs := #[.string (⟨#[]⟩ : ByteArray), .int .i64 0, .int .i64 0, .int .i64 0, .int .i64 0, .int .i64 0]) ?_ 3 _ rfl; (with_reducible repeat (first | refine kN ?_ _ | refine kD ?_ | refine kA ?_ _)); refine blk_put (cs := #[.string (⟨#[]⟩ : ByteArray), .int .i64 0, .int .i64 0, .int .i64 0, .int .i64 0, .int .i64 0]) ?_ 2 _ rfl; (with_reducible repeat (first | refine kN ?_ _ | refine kD ?_ | refine kA ?_ _)); refine blk_put (cs := #[.string (⟨#[]⟩ : ByteArray), .int .i64 0, .int .i64 0, .int .i64 0, .int .i64 0, .int .i64 0]) ?_ 1 _ rfl; (with_reducible repeat (first | refine kN ?_ _ | refine kD ?_ | refine kA ?_ _)); refine blk_put (cs := #[.string (⟨#[]⟩ : ByteArray), .int .i64 0, .int .i64 0, .int .i64 0, .int .i64 0, .int .i64 0]) ?_ 0 _ rfl; (with_reducible repeat (first | refine kN ?_ _ | refine kD ?_ | refine kA ?_ _)); refine kF ?_ NB138_153.out _; (with_reducible repeat (first | refine kN ?_ _ | refine kD ?_ | refine kA ?_ _)); refine kF ?_ NB138_153.out _; (with_reducible repeat (first | refine kN ?_ _ | refine kD ?_ | refine kA ?_ _)); refine kF ?_ NB138_153.out _; (with_reducible repeat (first | refine kN ?_ _ | refine kD ?_ | refine kA ?_ _)); refine kF ?_ NB138_153.out _; (with_reducible repeat (first | refine kN ?_ _ | refine kD ?_ | refine kA ?_ _)); refine kF ?_ NB138_153.out _; (with_reducible repeat (first | refine kN ?_ _ | refine kD ?_ | refine kA ?_ _)); refine kF ?_ NB138_153.out _; (with_reducible repeat (first | refine kN ?_ _ | refine kD ?_ | refine kA ?_ _)); exact BK138.out) Tryd.underlying50 rfl (by kernel_rfl)) rfl ?_
             exact ⟨by first | rfl | (simp [errW_none, errW_some] <;> rfl) | (simp [*, errW_none, errW_some] <;> rfl), by repeat (first | (with_reducible first | exact HB.out | apply bA | apply bN | apply bD | refine bS ?_ GE138.out | refine bS ?_ GE153.out) | exact HB.out)⟩
           ·rw [if_neg c20] at H
            exact absurd H (by simp)
          ·rw [if_neg c19] at H
           exact absurd H (by simp)
         ·rw [if_neg c18] at H
          exact absurd H (by simp)
        ·rw [if_neg c17] at H
         exact absurd H (by simp)
       ·rw [if_neg c16] at H
        exact absurd H (by simp)
      ·rw [if_neg c15] at H
       exact absurd H (by simp)
  ·rw [if_neg c4] at H
   exact absurd H (by simp)
 ·rw [if_neg c3] at H
  have c3b0 : ((t139.length : Int) == 2) = false := beq_eq_false_iff_ne.mpr c3
  have c3b1 : ((t139.length : Int) != 2) = true := bne_iff_ne.mpr c3
  simp only [Option.some.injEq, Prod.mk.injEq] at H
  obtain ⟨rfl, rfl, rfl, rfl, rfl, rfl, rfl⟩ := H
  go_enter Tryd.func58, Tryd.ntmps58
  go_wp2_with (first | ((with_reducible refine gate_dst (N := 2) rfl ?_); (try (refine gate_guard (by rfl) ?_; dsimp only)); refine bE ?hg (N := 2) ?hd (cs := #[.string (⟨#[]⟩ : ByteArray), .int .i64 0, .int .i64 0, .int .i64 0, .int .i64 0, .int .i64 0]) (t := 50) ?hr ?_; (case hd => rfl); (case hg => rfl); (case hr => first | (go_simp; done) | (go_simp; rfl)); intro gb138 hg w46 hbox hb; have n0_ := Aside0.mk (bP (by repeat (first | (with_reducible first | exact HB.out | apply bA | apply bN | apply bD) | exact HB.out)) hb); have n1_ := Aside0.mk (hbox); have n2_ := Aside0.mk ((by rw [hg]; exact (bZ (by repeat (first | (with_reducible first | exact HB.out | apply bA | apply bN | apply bD) | exact HB.out))) : w.heap.size ≤ gb138)); have n3_ := Aside0.mk ((by rw [hg]; exact (bZ (by repeat (first | (with_reducible first | exact HB.out | apply bA | apply bN | apply bD) | exact HB.out))) : w.heap.size ≤ gb138)); clear HB; have HB := n0_; have BK138 := n1_; have GW138 := n2_; have GE138 := n3_; clear n0_ n1_ n2_ n3_; clear hb hbox hg) | ((with_reducible refine gC (f := 37) rfl ?_); refine goesL_ (some 9) rfl rfl Tryd.func37 (by kernel_rfl) rfl #[.string a0, .int .u8 32] rfl (by (try simp only [List.map_toArray, List.map_cons, List.map_nil]); first | done | rfl | (simp only [List.length_drop, List.length_take]; rfl)) ?_; (with_reducible refine (spec_l01Split.calls k a0 32 t139 _ A2.out).mono ?_); rintro e w47 ⟨v140, rfl, ho0, hb⟩; refine ⟨_, rfl, ?_⟩; have n0_ := Aside0.mk (rL ho0 (bZ (by repeat (first | (with_reducible first | exact HB.out | apply bA | apply bN | apply bD | refine bS ?_ GE138.out) | exact HB.out)))); have n1_ := Aside0.mk (kB (g := gb138) (o := .cells #[.string (⟨#[]⟩ : ByteArray), .int .i64 0, .int .i64 0, .int .i64 0, .int .i64 0, .int .i64 0] 50 (0, 0)) (by (with_reducible repeat (first | refine kN ?_ _ | refine kD ?_ | refine kA ?_ _)); exact BK138.out) hb); have n2_ := Aside0.mk (bP (by repeat (first | (with_reducible first | exact HB.out | apply bA | apply bN | apply bD | refine bS ?_ GE138.out) | exact HB.out)) hb); clear BK138; clear HB; have HO141 := n0_; have BK138 := n1_; have HB := n2_; clear n0_ n1_ n2_; (try clear hb); (try clear hb2); (try clear hk); (try clear hi); (try clear ho0); obtain ⟨Ao48, co48, eo48⟩ := Kd.R_slice HO141.out; subst eo48; have hcz49_0 : w47.cell? ⟨gb138, 0, none⟩ = some (.string (⟨#[]⟩ : ByteArray)) := (kC BK138.out 0).trans rfl; have hcz49_1 : w47.cell? ⟨gb138, 1, none⟩ = some (.int .i64 0) := (kC BK138.out 1).trans rfl; have hcz49_2 : w47.cell? ⟨gb138, 2, none⟩ = some (.int .i64 0) := (kC BK138.out 2).trans rfl; have hcz49_3 : w47.cell? ⟨gb138, 3, none⟩ = some (.int .i64 0) := (kC BK138.out 3).trans rfl; have hcz49_4 : w47.cell? ⟨gb138, 4, none⟩ = some (.int .i64 0) := (kC BK138.out 4).trans rfl; have hcz49_5 : w47.cell? ⟨gb138, 5, none⟩ = some (.int .i64 0) := (kC BK138.out 5).trans rfl; have hfz49_0 := blk_frozen BK138.out 0; have hfz49_1 := blk_frozen BK138.out 1; have hfz49_2 := blk_frozen BK138.out 2; have hfz49_3 := blk_frozen BK138.out 3; have hfz49_4 := blk_frozen BK138.out 4; have hfz49_5 := blk_frozen BK138.out 5))
  refine bodyPost_ret (results_ct rfl _ _ gb138 50 #[.string (⟨#[]⟩ : ByteArray), .int .i64 0, .int .i64 0, .int .i64 0, .int .i64 0, .int .i64 0] (0, 0) _ rfl (by (with_reducible repeat (first | refine kN ?_ _ | refine kD ?_ | refine kA ?_ _)); refine blk_put (cs := #[.string (⟨#[]⟩ : ByteArray), .int .i64 0, .int .i64 0, .int .i64 0, .int .i64 0, .int .i64 0]) ?_ 5 _ rfl; (with_reducible repeat (first | refine kN ?_ _ | refine kD ?_ | refine kA ?_ _)); refine blk_put (cs := #[.string (⟨#[]⟩ : ByteArray), .int .i64 0, .int .i64 0, .int .i64 0, .int .i64 0, .int .i64 0]) ?_ 4 _ rfl; (with_reducible repeat (first | refine kN ?_ _ | refine kD ?_ | refine kA ?_ _)); refine blk_put (cs := #[.string (⟨#[]⟩ : ByteArray), .int .i64 0, .int .i64 0, .int .i64 0, .int .i64 0, .int .i64 0]) ?_ 3 _ rfl; (with_reducible repeat (first | refine kN ?_ _ | refine kD ?_ | refine kA ?_ _)); refine blk_put (cs := #[.string (⟨#[]⟩ : ByteArray), .int .i64 0, .int .i64 0, .int .i64 0, .int .i64 0, .int .i64 0]) ?_ 2 _ rfl; (with_reducible repeat (first | refine kN ?_ _ | refine kD ?_ | refine kA ?_ _)); refine blk_put (cs := #[.string (⟨#[]⟩ : ByteArray), .int .i64 0, .int .i64 0, .int .i64 0, .int .i64 0, .int .i64 0]) ?_ 1 _ rfl; (with_reducible repeat (first | refine kN ?_ _ | refine kD ?_ | refine kA ?_ _)); refine blk_put (cs := #[.string (⟨#[]⟩ : ByteArray), .int .i64 0, .int .i64 0, .int .i64 0, .int .i64 0, .int .i64 0]) ?_ 0 _ rfl; (with_reducible repeat (first | refine kN ?_ _ | refine kD ?_ | refine kA ?_ _)); exact BK138.out) Tryd.underlying50 rfl (by kernel_rfl)) rfl ?_
  exact ⟨by first | rfl | (simp [errW_none, errW_some] <;> rfl) | (simp [*, errW_none, errW_some] <;> rfl), by repeat (first | (with_reducible first | exact HB.out | apply bA | apply bN | apply bD | refine bS ?_ GE138.out) | exact HB.out)⟩

end Go.Proofs.YtlmeijlandogaaaDoor.R
-- shrunk
-- tight
