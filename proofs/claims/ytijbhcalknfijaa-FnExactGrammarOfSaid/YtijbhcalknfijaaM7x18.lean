/- What functions of the given program compute, as plain Lean functions, and that the code comes to just that; by a program of this session over the kit's print. No condition. -/
import Derived.Test.YtijbhcalknfijaaTight
import Derived.Test.YtijbhcalknfijaaM7x0
import Derived.Test.YtijbhcalknfijaaM7x12
namespace Go.Proofs.Ytijbhcalknfijaa.M7
open Go.RowKit Go.Proofs.YtijbhcalknfijaaW.PrintWords Go.Proofs.YtijbhcalknfijaaW.PrintLast Go.Proofs.YtijbhcalknfijaaW.PrintMore
open Go.Proofs.YtijbhcalknfijaaW.PrintWords renaming below_alloc → bA, pw_below_drewN → bN, below_drew1 → bD, below_set → bS, blk_drewN → kN, blk_drew → kD, blk_alloc → kA, blk_below → kB, below_size → bZ, below_step → bP, blk_far → kF, blk_lt → kL, gate_callee → gC, box_event → bE, blk_cell → kC
open Go.Proofs.YtijbhcalknfijaaW.PrintLast renaming take_ofW → tW, one_of → oO, i64_w → iW, i32_w → jW
open Go.Proofs.YtijbhcalknfijaaW.PrintWords.Kd renaming R_alloc → rA, R_drewN → rN, R_drew → rD, C_alloc → cA, C_drewN → cN, C_drew → cD, C_below → cB, R_lower → rL, R_below → rB, R_elder' → rE, R_new' → rW, R_lt → rT, R_mono → rM
open List renaming setIfInBounds_toArray → sI, set_cons_zero → sZ, set_cons_succ → sS
open Bool renaming true → T, false → F
attribute [local go_sem] max2_int min2_int max_two min_two max_three min_three max_four min_four   -- for this text's walks alone
set_option linter.unusedVariables false
set_option linter.unusedSimpArgs false

/-! ### spec_l07Of: function 94 -/
mutual
def spec_l07Of.l0 : Nat → Int → List Int → Int → ByteArray → List Int → List Int → Int → Int → List (List Int) → Option (Int × Int × List Int × (List (S67)))
 | 0, _, _, _, _, _, _, _, _, _ => none
 | k + 1, x2, x7, x8, x1000, x1001, x1002, x1003, x1004, x1005 => if x8 ≤ x2 then ((spec_l03Tone.f x8).bind fun t219 => ((spec_l05Tone.f k x1000 x1001 x1002 x1003 x1004 x1005 t219).bind fun t220 => (if t220 = true then (if x7.length < 17592186044416 then (spec_l07Of.l0 k x2 (x7 ++ [x8]) (wrap64 (x8 + 1)) x1000 x1001 x1002 x1003 x1004 x1005) else (none)) else (spec_l07Of.l0 k x2 x7 (wrap64 (x8 + 1)) x1000 x1001 x1002 x1003 x1004 x1005)))) else (spec_l07Of.l1 k x7 0 x1000 x1001 x1002 x1003 x1004 x1005 (wrap64 ((x7.length : Int) + 1)) 0 (([] : List Int)) (([] : List (S67))))
def spec_l07Of.l1 : Nat → List Int → Int → ByteArray → List Int → List Int → Int → Int → List (List Int) → Int → Int → List Int → List (S67) → Option (Int × Int × List Int × (List (S67)))
 | 0, _, _, _, _, _, _, _, _, _, _, _, _ => none
 | k + 1, x7, x10, x1000, x1001, x1002, x1003, x1004, x1005, x231000, x231001, x231002, x231003 => if x10 < (x7.length : Int) then (if 0 ≤ x10 then (if x231003.length < 5864062014805 then ((some (x231003 ++ [(⟨0, rd x7 x10, wrap64 (x10 + 1)⟩ : S67)] : List (S67))).bind fun y232 => ((spec_l03Tone.f (rd x7 x10)).bind fun t236 => (if t236 = 0 then (if x231002.length < 17592186044416 then (spec_l07Of.l1 k x7 (wrap64 (x10 + 1)) x1000 x1001 x1002 x1003 x1004 x1005 x231000 x231001 (x231002 ++ [wrap64 (x10 + 1)]) y232) else (none)) else (spec_l07Of.l1 k x7 (wrap64 (x10 + 1)) x1000 x1001 x1002 x1003 x1004 x1005 x231000 x231001 x231002 y232)))) else (none)) else (none)) else (spec_l07Of.l2 k x7 0 x1000 x1001 x1002 x1003 x1004 x1005 x231000 x231001 x231002 x231003)
def spec_l07Of.l2 : Nat → List Int → Int → ByteArray → List Int → List Int → Int → Int → List (List Int) → Int → Int → List Int → List (S67) → Option (Int × Int × List Int × (List (S67)))
 | 0, _, _, _, _, _, _, _, _, _, _, _, _ => none
 | k + 1, x7, x11, x1000, x1001, x1002, x1003, x1004, x1005, x231000, x231001, x231002, x231003 => if x11 < (x7.length : Int) then (spec_l07Of.l3 k x7 x11 0 x1000 x1001 x1002 x1003 x1004 x1005 x231000 x231001 x231002 x231003) else (some (x231000, x231001, x231002, x231003))
def spec_l07Of.l3 : Nat → List Int → Int → Int → ByteArray → List Int → List Int → Int → Int → List (List Int) → Int → Int → List Int → List (S67) → Option (Int × Int × List Int × (List (S67)))
 | 0, _, _, _, _, _, _, _, _, _, _, _, _, _ => none
 | k + 1, x7, x11, x12, x1000, x1001, x1002, x1003, x1004, x1005, x231000, x231001, x231002, x231003 => if x12 < (x7.length : Int) then (if 0 ≤ x11 then (if x11 < (x7.length : Int) then (if 0 ≤ x12 then ((spec_l05Reason.f k x1000 x1001 x1002 x1003 x1004 x1005 (rd x7 x11) (rd x7 x12)).bind fun t242 => (if t242 = 0 then (if x231003.length < 5864062014805 then (spec_l07Of.l3 k x7 x11 (wrap64 (x12 + 1)) x1000 x1001 x1002 x1003 x1004 x1005 x231000 x231001 x231002 (x231003 ++ [(⟨wrap64 (x11 + 1), rd x7 x12, wrap64 (x12 + 1)⟩ : S67)])) else (none)) else (spec_l07Of.l3 k x7 x11 (wrap64 (x12 + 1)) x1000 x1001 x1002 x1003 x1004 x1005 x231000 x231001 x231002 x231003))) else (none)) else (none)) else (none)) else (spec_l07Of.l2 k x7 (wrap64 (x11 + 1)) x1000 x1001 x1002 x1003 x1004 x1005 x231000 x231001 x231002 x231003)
end
def spec_l07Of.f (k : Nat) (a0_0 : ByteArray) (l0_1 : List Int) (l0_2 : List Int) (a0_3 : Int) (a0_4 : Int) (l0_5 : List (List Int)) (a1 : Int) (a2 : Int) : Option (Int × Int × List Int × (List (S67))) := spec_l07Of.l0 k a2 (([] : List Int)) a1 a0_0 l0_1 l0_2 a0_3 a0_4 l0_5
theorem spec_l07Of.mono_l : ∀ k, (∀ y0 y1 y2 y3 y4 y5 y6 y7 y8, LeO (spec_l07Of.l0 k y0 y1 y2 y3 y4 y5 y6 y7 y8) (spec_l07Of.l0 (k + 1) y0 y1 y2 y3 y4 y5 y6 y7 y8)) ∧ (∀ y0 y1 y2 y3 y4 y5 y6 y7 y8 y9 y10 y11, LeO (spec_l07Of.l1 k y0 y1 y2 y3 y4 y5 y6 y7 y8 y9 y10 y11) (spec_l07Of.l1 (k + 1) y0 y1 y2 y3 y4 y5 y6 y7 y8 y9 y10 y11)) ∧ (∀ y0 y1 y2 y3 y4 y5 y6 y7 y8 y9 y10 y11, LeO (spec_l07Of.l2 k y0 y1 y2 y3 y4 y5 y6 y7 y8 y9 y10 y11) (spec_l07Of.l2 (k + 1) y0 y1 y2 y3 y4 y5 y6 y7 y8 y9 y10 y11)) ∧ (∀ y0 y1 y2 y3 y4 y5 y6 y7 y8 y9 y10 y11 y12, LeO (spec_l07Of.l3 k y0 y1 y2 y3 y4 y5 y6 y7 y8 y9 y10 y11 y12) (spec_l07Of.l3 (k + 1) y0 y1 y2 y3 y4 y5 y6 y7 y8 y9 y10 y11 y12))
 | 0 => ⟨fun _ _ _ _ _ _ _ _ _ r h => by simp [spec_l07Of.l0] at h, fun _ _ _ _ _ _ _ _ _ _ _ _ r h => by simp [spec_l07Of.l1] at h, fun _ _ _ _ _ _ _ _ _ _ _ _ r h => by simp [spec_l07Of.l2] at h, fun _ _ _ _ _ _ _ _ _ _ _ _ _ r h => by simp [spec_l07Of.l3] at h⟩
 | k + 1 => by
  obtain ⟨ih0, ih1, ih2, ih3⟩ := spec_l07Of.mono_l k
  refine ⟨?_, ?_, ?_, ?_⟩
  ·intro y0 y1 y2 y3 y4 y5 y6 y7 y8
   unfold spec_l07Of.l0
   repeat' first
   | (with_reducible exact ih0 _ _ _ _ _ _ _ _ _)
   | (with_reducible exact ih1 _ _ _ _ _ _ _ _ _ _ _ _)
   | (with_reducible exact ih2 _ _ _ _ _ _ _ _ _ _ _ _)
   | (with_reducible exact ih3 _ _ _ _ _ _ _ _ _ _ _ _ _)
   | (with_reducible exact spec_l05Reason.mono _ _ _ _ _ _ _ _ _)
   | (with_reducible exact spec_l05Tone.mono _ _ _ _ _ _ _ _)
   | (with_reducible exact LeO.refl _)
   | (with_reducible exact LeO.none _)
   | (with_reducible refine LeO.ite ?_ ?_)
   | (with_reducible refine LeO.bind ?_ (fun _ => ?_))
   | exact ih0 _ _ _ _ _ _ _ _ _
   | exact ih1 _ _ _ _ _ _ _ _ _ _ _ _
   | exact ih2 _ _ _ _ _ _ _ _ _ _ _ _
   | exact ih3 _ _ _ _ _ _ _ _ _ _ _ _ _
   | exact spec_l05Reason.mono _ _ _ _ _ _ _ _ _
   | exact spec_l05Tone.mono _ _ _ _ _ _ _ _
   | exact LeO.none _
   | refine LeO.ite ?_ ?_
   | refine LeO.bind ?_ (fun _ => ?_)
  ·intro y0 y1 y2 y3 y4 y5 y6 y7 y8 y9 y10 y11
   unfold spec_l07Of.l1
   repeat' first
   | (with_reducible exact ih0 _ _ _ _ _ _ _ _ _)
   | (with_reducible exact ih1 _ _ _ _ _ _ _ _ _ _ _ _)
   | (with_reducible exact ih2 _ _ _ _ _ _ _ _ _ _ _ _)
   | (with_reducible exact ih3 _ _ _ _ _ _ _ _ _ _ _ _ _)
   | (with_reducible exact spec_l05Reason.mono _ _ _ _ _ _ _ _ _)
   | (with_reducible exact spec_l05Tone.mono _ _ _ _ _ _ _ _)
   | (with_reducible exact LeO.refl _)
   | (with_reducible exact LeO.none _)
   | (with_reducible refine LeO.ite ?_ ?_)
   | (with_reducible refine LeO.bind ?_ (fun _ => ?_))
   | exact ih0 _ _ _ _ _ _ _ _ _
   | exact ih1 _ _ _ _ _ _ _ _ _ _ _ _
   | exact ih2 _ _ _ _ _ _ _ _ _ _ _ _
   | exact ih3 _ _ _ _ _ _ _ _ _ _ _ _ _
   | exact spec_l05Reason.mono _ _ _ _ _ _ _ _ _
   | exact spec_l05Tone.mono _ _ _ _ _ _ _ _
   | exact LeO.none _
   | refine LeO.ite ?_ ?_
   | refine LeO.bind ?_ (fun _ => ?_)
  ·intro y0 y1 y2 y3 y4 y5 y6 y7 y8 y9 y10 y11
   unfold spec_l07Of.l2
   repeat' first
   | (with_reducible exact ih0 _ _ _ _ _ _ _ _ _)
   | (with_reducible exact ih1 _ _ _ _ _ _ _ _ _ _ _ _)
   | (with_reducible exact ih2 _ _ _ _ _ _ _ _ _ _ _ _)
   | (with_reducible exact ih3 _ _ _ _ _ _ _ _ _ _ _ _ _)
   | (with_reducible exact spec_l05Reason.mono _ _ _ _ _ _ _ _ _)
   | (with_reducible exact spec_l05Tone.mono _ _ _ _ _ _ _ _)
   | (with_reducible exact LeO.refl _)
   | (with_reducible exact LeO.none _)
   | (with_reducible refine LeO.ite ?_ ?_)
   | (with_reducible refine LeO.bind ?_ (fun _ => ?_))
   | exact ih0 _ _ _ _ _ _ _ _ _
   | exact ih1 _ _ _ _ _ _ _ _ _ _ _ _
   | exact ih2 _ _ _ _ _ _ _ _ _ _ _ _
   | exact ih3 _ _ _ _ _ _ _ _ _ _ _ _ _
   | exact spec_l05Reason.mono _ _ _ _ _ _ _ _ _
   | exact spec_l05Tone.mono _ _ _ _ _ _ _ _
   | exact LeO.none _
   | refine LeO.ite ?_ ?_
   | refine LeO.bind ?_ (fun _ => ?_)
  ·intro y0 y1 y2 y3 y4 y5 y6 y7 y8 y9 y10 y11 y12
   unfold spec_l07Of.l3
   repeat' first
   | (with_reducible exact ih0 _ _ _ _ _ _ _ _ _)
   | (with_reducible exact ih1 _ _ _ _ _ _ _ _ _ _ _ _)
   | (with_reducible exact ih2 _ _ _ _ _ _ _ _ _ _ _ _)
   | (with_reducible exact ih3 _ _ _ _ _ _ _ _ _ _ _ _ _)
   | (with_reducible exact spec_l05Reason.mono _ _ _ _ _ _ _ _ _)
   | (with_reducible exact spec_l05Tone.mono _ _ _ _ _ _ _ _)
   | (with_reducible exact LeO.refl _)
   | (with_reducible exact LeO.none _)
   | (with_reducible refine LeO.ite ?_ ?_)
   | (with_reducible refine LeO.bind ?_ (fun _ => ?_))
   | exact ih0 _ _ _ _ _ _ _ _ _
   | exact ih1 _ _ _ _ _ _ _ _ _ _ _ _
   | exact ih2 _ _ _ _ _ _ _ _ _ _ _ _
   | exact ih3 _ _ _ _ _ _ _ _ _ _ _ _ _
   | exact spec_l05Reason.mono _ _ _ _ _ _ _ _ _
   | exact spec_l05Tone.mono _ _ _ _ _ _ _ _
   | exact LeO.none _
   | refine LeO.ite ?_ ?_
   | refine LeO.bind ?_ (fun _ => ?_)
theorem spec_l07Of.mono : ∀ a0 a1 a2 a3 a4 a5 a6 a7 k, LeO (spec_l07Of.f k a0 a1 a2 a3 a4 a5 a6 a7) (spec_l07Of.f (k + 1) a0 a1 a2 a3 a4 a5 a6 a7) := by
 intro a0 a1 a2 a3 a4 a5 a6 a7 k
 obtain ⟨ih0, ih1, ih2, ih3⟩ := spec_l07Of.mono_l k
 unfold spec_l07Of.f
 repeat' first
   | (with_reducible exact ih0 _ _ _ _ _ _ _ _ _)
   | (with_reducible exact ih1 _ _ _ _ _ _ _ _ _ _ _ _)
   | (with_reducible exact ih2 _ _ _ _ _ _ _ _ _ _ _ _)
   | (with_reducible exact ih3 _ _ _ _ _ _ _ _ _ _ _ _ _)
   | (with_reducible exact spec_l05Reason.mono _ _ _ _ _ _ _ _ _)
   | (with_reducible exact spec_l05Tone.mono _ _ _ _ _ _ _ _)
   | (with_reducible exact LeO.refl _)
   | (with_reducible exact LeO.none _)
   | (with_reducible refine LeO.ite ?_ ?_)
   | (with_reducible refine LeO.bind ?_ (fun _ => ?_))
   | exact ih0 _ _ _ _ _ _ _ _ _
   | exact ih1 _ _ _ _ _ _ _ _ _ _ _ _
   | exact ih2 _ _ _ _ _ _ _ _ _ _ _ _
   | exact ih3 _ _ _ _ _ _ _ _ _ _ _ _ _
   | exact spec_l05Reason.mono _ _ _ _ _ _ _ _ _
   | exact spec_l05Tone.mono _ _ _ _ _ _ _ _
   | exact LeO.none _
   | refine LeO.ite ?_ ?_
   | refine LeO.bind ?_ (fun _ => ?_)
def spec_l07Of.T11 : Bool × List (List Nat × List Nat) := (true, [([], []), ([0], [0]), ([], []), ([], []), ([2, 3], [2, 3]), ([4], [4]), ([], []), ([6], [6]), ([5, 7], [5, 7]), ([8], [8]), ([1, 9], [1, 9]), ([0, 1, 2, 3, 4, 5, 6, 7, 8, 9, 10], []), ([11, 10, 10, 0, 1, 2, 3, 4, 5, 6, 7, 8, 9, 10], [10, 11])])
def spec_l07Of.B11 : List Nat := [0, 1, 0, 0, 12, 28, 0, 64, 252, 508, 1023, 2047, 4095]
theorem spec_l07Of.tab11 : rtab .any (opsOf Try.f94 11) = spec_l07Of.T11 := by kernel_rfl
theorem spec_l07Of.bits11 : waitsOk spec_l07Of.T11.2 spec_l07Of.B11 = true := by kernel_rfl
def spec_l07Of.T20 : Bool × List (List Nat × List Nat) := (true, [([], []), ([], []), ([], []), ([1, 2], [1, 2]), ([3], [3]), ([], []), ([], []), ([5, 6], [5, 6]), ([7], [7]), ([0, 4, 8], [0, 4, 8]), ([9], [9])])
def spec_l07Of.B20 : List Nat := [0, 0, 0, 6, 14, 0, 0, 96, 224, 511, 1023]
theorem spec_l07Of.tab20 : rtab .any (opsOf Try.f94 20) = spec_l07Of.T20 := by kernel_rfl
theorem spec_l07Of.bits20 : waitsOk spec_l07Of.T20.2 spec_l07Of.B20 = true := by kernel_rfl
def spec_l07Of.T21 : Bool × List (List Nat × List Nat) := (true, [([], []), ([0], [0]), ([], []), ([2], [2]), ([], []), ([], []), ([4, 5], [4, 5]), ([6], [6]), ([], []), ([8], [8]), ([3, 7, 9], [3, 7, 9]), ([10], [10]), ([1, 11], [1, 11]), ([0, 1, 2, 3, 4, 5, 6, 7, 8, 9, 10, 11, 12], []), ([13, 12, 12, 0, 1, 2, 3, 4, 5, 6, 7, 8, 9, 10, 11, 12], [12, 13])])
def spec_l07Of.B21 : List Nat := [0, 1, 0, 4, 0, 0, 48, 112, 0, 256, 1020, 2044, 4095, 8191, 16383]
theorem spec_l07Of.tab21 : rtab .any (opsOf Try.f94 21) = spec_l07Of.T21 := by kernel_rfl
theorem spec_l07Of.bits21 : waitsOk spec_l07Of.T21.2 spec_l07Of.B21 = true := by kernel_rfl
set_option maxHeartbeats 8000000 in
set_option maxRecDepth 100000 in
theorem spec_l07Of.calls (k : Nat) (adp0 : Addr) (a0_0 : ByteArray) (l0_1 : List Int) (l0_2 : List Int) (a0_3 : Int) (a0_4 : Int) (l0_5 : List (List Int)) (a1 : Int) (a2 : Int) (r1 : Int) (r2 : Int) (r3 : List Int) (r4 : List (S67)) (w : World) (hp0 : Kd.C k58 w (some adp0) 1 [(⟨a0_0, l0_1, l0_2, a0_3, a0_4, l0_5⟩ : S58)]) (h : spec_l07Of.f k a0_0 l0_1 l0_2 a0_3 a0_4 l0_5 a1 a2 = some (r1, r2, r3, r4)) :
  Calls Try.prog 94 #[.pointer (some adp0), .int .i64 a1, .int .i64 a2] w fun e w' => ∃ v2_ v3_ : Value, e = .returned (.agg #[.int .i64 r1, .int .i64 r2, v2_, v3_]) ∧ Kd.R (Kd.int .i64) 2 w' w.heap.size (fun _ => True) v2_ r3 ∧ Kd.R k67 67 w' w.heap.size (fun _ => True) v3_ r4 ∧ Below w.heap.size w w' := by
 have hu30 := Try.underlying30
 have hu67 := Try.underlying67
 have HRp0 := Aside0.mk hp0
 clear hp0
 have HB := Aside0.mk (Below.refl w.heap.size w)
 have H : (spec_l07Of.l0 k a2 (([] : List Int)) a1 a0_0 l0_1 l0_2 a0_3 a0_4 l0_5) = some (r1, r2, r3, r4) := h
 clear h
 obtain ⟨y216, hy216⟩ : ∃ y_ : List Int, y_ = (([] : List Int)) := ⟨_, rfl⟩
 replace H : (spec_l07Of.l0 k a2 y216 a1 a0_0 l0_1 l0_2 a0_3 a0_4 l0_5) = some (r1, r2, r3, r4) := by first | (rw [hy216]; with_reducible exact H) | (have H2_ := (Option.bind_some _ _).symm.trans H; rw [hy216]; with_reducible exact H2_) | (have H2_ := (Option.bind_some _ _).symm.trans H; with_reducible exact H2_) | with_reducible exact H | (rw [hy216]; exact H) | exact H
 have Ny216 := Aside0.mk hy216
 clear hy216
 have H' := Aside0.mk H
 clear H
 go_enter Try.func94, Try.ntmps94
 go_wp2_with (first | ((with_reducible refine gate_dst (N := 6) rfl ?_); refine bE ?hg (N := 6) ?hd (cs := #[.int .i64 0, .int .i64 0, .slice none 0 0, .slice none 0 0]) (t := 30) ?hr ?_; (case hd => rfl); (case hg => rfl); (case hr => first | (go_simp; done) | (go_simp; rfl)); intro gb215 hg w4 hbox hb; have z_ := bX hb (hQ HB); have n0_ := Aside0.mk (bP z_ hb); have n1_ := Aside0.mk (hbox); have n2_ := Aside0.mk ((by rw [hg]; exact (bZ z_) : w.heap.size ≤ gb215)); have n3_ := Aside0.mk ((by rw [hg]; exact (bZ z_) : w.heap.size ≤ gb215)); clear HB; have HB := n0_; have BK215 := n1_; have GW215 := n2_; have GE215 := n3_; clear z_ n0_ n1_ n2_ n3_; clear hb hbox hg) | ((with_reducible refine gate_dst (N := 13) rfl ?_); refine Kd.R_lit (Kd.int .i64) _ 2 ?hg (N := 13) ?hd (xs := ([] : List Int)) (inner := []) (ok := fun _ => True) (okp := fun _ => True) ?hr ?hp (fun _ hk => hk) trivial (Below.refl _ _) (Nat.le_refl _) (by simp) ?_; (case hd => rfl); (case hg => rfl); (case hr => first | (go_simp; done) | (go_simp; rfl)); (case hp => exact (Reps.none _ _)); intro v217 w5 ho6 hb hg_ hnew_; clear hg_ hnew_; (first | rw [← Ny216.out] at ho6 | (simp only [Int.reduceToNat] at ho6; rw [← Ny216.out] at ho6)); have z_ := bX hb (by repeat (first | (with_reducible first | exact HB.out | apply bA | apply bN | apply bD | refine bS ?_ GE215.out) | exact HB.out)); have n0_ := Aside0.mk (rL ho6 (bZ z_)); have n1_ := Aside0.mk (kB (kQ BK215) hb); have n2_ := Aside0.mk (bP z_ hb); clear BK215; clear HB; have HO218 := n0_; have BK215 := n1_; have HB := n2_; clear z_ n0_ n1_ n2_; clear hb ho6))
 go_loopg [7, 8] k (fun kq v7 v8 w' => ∃ (x7_1 : List Int) (x8_1 : Int), v8 = .int .i64 x8_1 ∧ Aside0 (spec_l07Of.l0 kq a2 x7_1 x8_1 a0_0 l0_1 l0_2 a0_3 a0_4 l0_5 = some (r1, r2, r3, r4)) ∧ Aside0 (kq ≤ k) ∧ Aside0 (Kd.R (Kd.int .i64) 2 w' w.heap.size (fun _ => True) v7 x7_1) ∧ Aside0 (w'.heap[gb215]? = some (.cells #[.int .i64 0, .int .i64 0, (.slice none 0 0), (.slice none 0 0)] 30 (0, 0))) ∧ Aside0 (Below w.heap.size w w'))
 case atStart => exact ⟨(y216), (a1), eT, H', ⟨Nat.le_refl _⟩, ⟨rQ HO218⟩, ⟨kQ BK215⟩, ⟨by repeat (first | (with_reducible first | exact HB.out | apply bA | apply bN | apply bD | refine bS ?_ GE215.out) | exact HB.out)⟩⟩
 case round =>
  clear H'
  try clear p2
  obtain ⟨x7_1, x8_1, rfl, HA, HK1, HO_7, BK215, HB⟩ := hrel
  cases gk with
  | zero => exact absurd HA.out (by simp [spec_l07Of.l0])
  | succ k1 =>
   have H := HA.out
   clear HA
   simp only [spec_l07Of.l0] at H
   by_cases c7 : x8_1 ≤ a2
   ·rw [if_pos c7] at H
    have c7b0 : decide (x8_1 ≤ a2) = true := decide_eq_true c7
    clear c7
    replace H := Option.bind_eq_some_iff.mp H
    obtain ⟨t219, A80, H⟩ := H
    replace H : ((spec_l05Tone.f k1 a0_0 l0_1 l0_2 a0_3 a0_4 l0_5 t219).bind fun t220 => (if t220 = true then (if x7_1.length < 17592186044416 then (spec_l07Of.l0 k1 a2 (x7_1 ++ [x8_1]) (wrap64 (x8_1 + 1)) a0_0 l0_1 l0_2 a0_3 a0_4 l0_5) else (none)) else (spec_l07Of.l0 k1 a2 x7_1 (wrap64 (x8_1 + 1)) a0_0 l0_1 l0_2 a0_3 a0_4 l0_5))) = some (r1, r2, r3, r4) := H
    have A8 := Aside0.mk A80
    clear A80
    replace H := Option.bind_eq_some_iff.mp H
    obtain ⟨t220, A90, H⟩ := H
    replace H : (if t220 = true then (if x7_1.length < 17592186044416 then (spec_l07Of.l0 k1 a2 (x7_1 ++ [x8_1]) (wrap64 (x8_1 + 1)) a0_0 l0_1 l0_2 a0_3 a0_4 l0_5) else (none)) else (spec_l07Of.l0 k1 a2 x7_1 (wrap64 (x8_1 + 1)) a0_0 l0_1 l0_2 a0_3 a0_4 l0_5)) = some (r1, r2, r3, r4) := H
    have A9 := Aside0.mk A90
    clear A90
    by_cases c10 : t220 = true
    ·subst c10
     have H1 : (if x7_1.length < 17592186044416 then (spec_l07Of.l0 k1 a2 (x7_1 ++ [x8_1]) (wrap64 (x8_1 + 1)) a0_0 l0_1 l0_2 a0_3 a0_4 l0_5) else (none)) = some (r1, r2, r3, r4) := by rw [if_pos rfl] at H; exact H
     clear H
     have H := H1
     clear H1
     by_cases c11 : x7_1.length < 17592186044416
     ·rw [if_pos c11] at H
      have LMc11 := Aside0.mk c11
      clear c11
      obtain ⟨y221, hy221⟩ : ∃ y_ : List Int, y_ = (x7_1 ++ [x8_1]) := ⟨_, rfl⟩
      replace H : (spec_l07Of.l0 k1 a2 y221 (wrap64 (x8_1 + 1)) a0_0 l0_1 l0_2 a0_3 a0_4 l0_5) = some (r1, r2, r3, r4) := by first | (rw [hy221]; with_reducible exact H) | (have H2_ := (Option.bind_some _ _).symm.trans H; rw [hy221]; with_reducible exact H2_) | (have H2_ := (Option.bind_some _ _).symm.trans H; with_reducible exact H2_) | with_reducible exact H | (rw [hy221]; exact H) | exact H
      have Ny221 := Aside0.mk hy221
      clear hy221
      have H' := Aside0.mk H
      clear H
      go_wp2_with (first | ((with_reducible refine gC (f := 120) rfl ?_); refine goesL_ (some 22) rfl rfl Try.func120 (by kernel_rfl) rfl #[.int .i64 x8_1] rfl lQ ?_; (with_reducible refine (spec_l03Tone.calls x8_1 t219 _ A8.out).mono ?_); rintro e w' ⟨rfl, ⟨nd, rfl⟩⟩; refine ⟨_, rfl, ?_⟩) | ((with_reducible refine gC (f := 111) rfl ?_); refine goesL_ (some 23) rfl rfl Try.func111 (by kernel_rfl) rfl #[.pointer (some adp0), .int .i64 t219] rfl lQ ?_; (with_reducible refine (spec_l05Tone.calls k1 adp0 a0_0 l0_1 l0_2 a0_3 a0_4 l0_5 t219 true _ ?side1 A9.out).mono ?_); (case side1 => repeat (first | exact (cB HRp0.out (by repeat (first | (with_reducible first | exact HB.out | apply bA | apply bN | apply bD | refine bS ?_ GE215.out) | exact HB.out))) | (with_reducible refine cA ?_ _) | (with_reducible refine cN ?_ _) | (with_reducible refine cD ?_))); rintro e w' ⟨rfl, ⟨nd, rfl⟩⟩; refine ⟨_, rfl, ?_⟩) | ((with_reducible refine gate_builtin (b := .append) (xs := #[.tmp 24, .tmp 26]) rfl ?_); at_builtin; refine Kd.R_append (Kd.int .i64) (w0 := w) w.heap.size rfl (.tmp 24) (.tmp 26) 22 2 (.int .i64 0) 8 rfl Try.underlying22 info2 rfl (by decide) (by omega) u7 x7_1 x8_1 [.int .i64 x8_1] (fun _ => True) (fun _ => False) rfl rfl ?aP (fun _ hk => hk.elim) ?aF ?aO ?aB ?aS ?aL ?_; (case aP => exact rfl); (case aB => exact (by repeat (first | (with_reducible first | exact HB.out | apply bA | apply bN | apply bD | refine bS ?_ GE215.out) | exact HB.out))); (case aF => exact (fun _ _ => trivial)); (case aO => exact (rQ HO_7)); (case aS => exact (bZ (by repeat (first | (with_reducible first | exact HB.out | apply bA | apply bN | apply bD | refine bS ?_ GE215.out) | exact HB.out)))); (case aL => have := LMc11.out; omega); intro v222 w12 ho hb hg hat; rw [← Ny221.out] at ho; have n0_ := Aside0.mk (blk_grown (kQ BK215) hg (Kd.R_ne HO_7.out BK215.out (by decide))); have n1_ := Aside0.mk (hb); have n2_ := Aside0.mk (ho); clear BK215; clear HB; clear HO_7; have BK215 := n0_; have HB := n1_; have HO223 := n2_; clear n0_ n1_ n2_; clear ho hb hg hat))
      go_roundg k1
      case measure => have := HK1.out; omega
      case rel => exact ⟨(y221), (wrap64 (x8_1 + 1)), eT, H', ⟨by have := HK1.out; omega⟩, ⟨rQ HO223⟩, ⟨kQ BK215⟩, ⟨by repeat (first | (with_reducible first | exact HB.out | apply bA | apply bN | apply bD | refine bS ?_ GE215.out) | exact HB.out)⟩⟩
     ·rw [if_neg c11] at H
      exact absurd H (by simp)
    ·replace c10 := Bool.eq_false_iff.mpr c10
     subst c10
     have H1 : (spec_l07Of.l0 k1 a2 x7_1 (wrap64 (x8_1 + 1)) a0_0 l0_1 l0_2 a0_3 a0_4 l0_5) = some (r1, r2, r3, r4) := by rw [if_neg (show ¬ (false = true) by decide)] at H; exact H
     clear H
     have H := H1
     clear H1
     have H' := Aside0.mk H
     clear H
     go_wp2_with (first | ((with_reducible refine gC (f := 120) rfl ?_); refine goesL_ (some 22) rfl rfl Try.func120 (by kernel_rfl) rfl #[.int .i64 x8_1] rfl lQ ?_; (with_reducible refine (spec_l03Tone.calls x8_1 t219 _ A8.out).mono ?_); rintro e w' ⟨rfl, ⟨nd, rfl⟩⟩; refine ⟨_, rfl, ?_⟩) | ((with_reducible refine gC (f := 111) rfl ?_); refine goesL_ (some 23) rfl rfl Try.func111 (by kernel_rfl) rfl #[.pointer (some adp0), .int .i64 t219] rfl lQ ?_; (with_reducible refine (spec_l05Tone.calls k1 adp0 a0_0 l0_1 l0_2 a0_3 a0_4 l0_5 t219 false _ ?side1 A9.out).mono ?_); (case side1 => repeat (first | exact (cB HRp0.out (by repeat (first | (with_reducible first | exact HB.out | apply bA | apply bN | apply bD | refine bS ?_ GE215.out) | exact HB.out))) | (with_reducible refine cA ?_ _) | (with_reducible refine cN ?_ _) | (with_reducible refine cD ?_))); rintro e w' ⟨rfl, ⟨nd, rfl⟩⟩; refine ⟨_, rfl, ?_⟩))
     go_roundg k1
     case measure => have := HK1.out; omega
     case rel => exact ⟨(x7_1), (wrap64 (x8_1 + 1)), eT, H', ⟨by have := HK1.out; omega⟩, ⟨rQ HO_7⟩, ⟨kQ BK215⟩, ⟨by repeat (first | (with_reducible first | exact HB.out | apply bA | apply bN | apply bD | refine bS ?_ GE215.out) | exact HB.out)⟩⟩
   ·rw [if_neg c7] at H
    have c7b0 : decide (x8_1 ≤ a2) = false := decide_eq_false c7
    clear c7
    obtain ⟨y224, hy224⟩ : ∃ y_ : List Int, y_ = (([] : List Int)) := ⟨_, rfl⟩
    replace H : (spec_l07Of.l1 k1 x7_1 0 a0_0 l0_1 l0_2 a0_3 a0_4 l0_5 (wrap64 ((x7_1.length : Int) + 1)) 0 y224 (([] : List (S67)))) = some (r1, r2, r3, r4) := by first | (rw [hy224]; with_reducible exact H) | (have H2_ := (Option.bind_some _ _).symm.trans H; rw [hy224]; with_reducible exact H2_) | (have H2_ := (Option.bind_some _ _).symm.trans H; with_reducible exact H2_) | with_reducible exact H | (rw [hy224]; exact H) | exact H
    have Ny224 := Aside0.mk hy224
    clear hy224
    obtain ⟨y227, hy227⟩ : ∃ y_ : List (S67), y_ = (([] : List (S67))) := ⟨_, rfl⟩
    replace H : (spec_l07Of.l1 k1 x7_1 0 a0_0 l0_1 l0_2 a0_3 a0_4 l0_5 (wrap64 ((x7_1.length : Int) + 1)) 0 y224 y227) = some (r1, r2, r3, r4) := by first | (rw [hy227]; with_reducible exact H) | (have H2_ := (Option.bind_some _ _).symm.trans H; rw [hy227]; with_reducible exact H2_) | (have H2_ := (Option.bind_some _ _).symm.trans H; with_reducible exact H2_) | with_reducible exact H | (rw [hy227]; exact H) | exact H
    have Ny227 := Aside0.mk hy227
    clear hy227
    have H' := Aside0.mk H
    clear H
    obtain ⟨Ao13, co13, eo13⟩ := Kd.R_slice HO_7.out
    subst eo13
    go_wp2_with (first | ((with_reducible refine gate_dst (N := 31) rfl ?_); refine Kd.R_lit (Kd.int .i64) _ 2 ?hg (N := 31) ?hd (xs := ([] : List Int)) (inner := []) (ok := fun _ => True) (okp := fun _ => True) ?hr ?hp (fun _ hk => hk) trivial (Below.refl _ _) (Nat.le_refl _) (by simp) ?_; (case hd => rfl); (case hg => rfl); (case hr => first | (go_simp; done) | (go_simp; rfl)); (case hp => exact (Reps.none _ _)); intro v225 w14 ho15 hb hg_ hnew_; clear hg_ hnew_; (first | rw [← Ny224.out] at ho15 | (simp only [Int.reduceToNat] at ho15; rw [← Ny224.out] at ho15)); have z_ := bX hb (by repeat (first | (with_reducible first | exact HB.out | apply bA | apply bN | apply bD | refine bS ?_ GE215.out) | exact HB.out)); have n0_ := Aside0.mk (rE (rQ HO_7) (Kd.R_base ho15) hb); have n1_ := Aside0.mk (rL (rW ho15 (rT (rQ HO_7))) (bZ z_)); have n2_ := Aside0.mk (kB (kQ BK215) hb); have n3_ := Aside0.mk (bP z_ hb); clear HO_7; clear BK215; clear HB; have HO_7 := n0_; have HO226 := n1_; have BK215 := n2_; have HB := n3_; clear z_ n0_ n1_ n2_ n3_; clear hb ho15) | ((with_reducible refine gate_dst (N := 32) rfl ?_); refine Kd.R_lit k67 _ 67 ?hg (N := 32) ?hd (xs := ([] : List (S67))) (inner := []) (ok := fun _ => True) (okp := fun _ => True) ?hr ?hp (fun _ hk => hk) trivial (Below.refl _ _) (Nat.le_refl _) (by simp) ?_; (case hd => rfl); (case hg => rfl); (case hr => first | (go_simp; done) | (go_simp; rfl)); (case hp => exact (Reps.none _ _)); intro v228 w16 ho17 hb hg_ hnew_; clear hg_ hnew_; (first | rw [← Ny227.out] at ho17 | (simp only [Int.reduceToNat] at ho17; rw [← Ny227.out] at ho17)); have z_ := bX hb (by repeat (first | (with_reducible first | exact HB.out | apply bA | apply bN | apply bD | refine bS ?_ GE215.out) | exact HB.out)); have n0_ := Aside0.mk (rB (rQ HO_7) hb); have n1_ := Aside0.mk (rB (rQ HO226) hb); have n2_ := Aside0.mk (rL ho17 (bZ z_)); have n3_ := Aside0.mk (kB (kQ BK215) hb); have n4_ := Aside0.mk (bP z_ hb); clear HO_7; clear HO226; clear BK215; clear HB; have HO_7 := n0_; have HO226 := n1_; have HO229 := n2_; have BK215 := n3_; have HB := n4_; clear z_ n0_ n1_ n2_ n3_ n4_; clear hb ho17; obtain ⟨Ao18, co18, eo18⟩ := Kd.R_slice HO229.out; subst eo18; obtain ⟨Ao19, co19, eo19⟩ := Kd.R_slice HO226.out; subst eo19) | ((with_reducible refine gate_dst (N := 9) rfl ?_); refine bE ?hg (N := 9) ?hd (cs := #[.int .i64 0, .int .i64 0, .slice none 0 0, .slice none 0 0]) (t := 30) ?hr ?_; (case hd => rfl); (case hg => rfl); (case hr => first | (go_simp; done) | (go_simp; rfl)); intro gb230 hg w20 hbox hb; have z_ := bX hb (by repeat (first | (with_reducible first | exact HB.out | apply bA | apply bN | apply bD | refine bS ?_ GE215.out) | exact HB.out)); have n0_ := Aside0.mk (rB (rQ HO_7) hb); have n1_ := Aside0.mk (rB (rQ HO226) hb); have n2_ := Aside0.mk (rB (rQ HO229) hb); have n3_ := Aside0.mk (kB (kQ BK215) hb); have n4_ := Aside0.mk (bP z_ hb); have n5_ := Aside0.mk (hbox); have n6_ := Aside0.mk ((by rw [hg]; exact (bZ z_) : w.heap.size ≤ gb230)); have n7_ := Aside0.mk ((by rw [hg]; exact (bZ z_) : w.heap.size ≤ gb230)); have n8_ := Aside0.mk ((by rw [hg]; exact Nat.ne_of_lt (kL (kQ BK215)) : gb215 ≠ gb230)); have n9_ := Aside0.mk ((by rw [hg]; exact Nat.ne_of_gt (kL (kQ BK215)) : gb230 ≠ gb215)); clear HO_7; clear HO226; clear HO229; clear BK215; clear HB; have HO_7 := n0_; have HO226 := n1_; have HO229 := n2_; have BK215 := n3_; have HB := n4_; have BK230 := n5_; have GW230 := n6_; have GE230 := n7_; have NB215_230 := n8_; have NB230_215 := n9_; clear z_ n0_ n1_ n2_ n3_ n4_ n5_ n6_ n7_ n8_ n9_; clear hb hbox hg; have hnb21 := NB230_215.out; have hnc21 := NB215_230.out; obtain ⟨hcz22_0, hcz22_1, hcz22_2, hcz22_3⟩ := cZ4 BK230.out; obtain ⟨hfz22_0, hfz22_1, hfz22_2, hfz22_3⟩ := fZ4 BK230.out))
    go_loopg [10] k1 (fun kq v10 w' => ∃ (x10_2 : Int) (x231002_2 : List Int) (x231003_2 : List (S67)) (u231002 : Value) (u231003 : Value), v10 = .int .i64 x10_2 ∧ Aside0 (spec_l07Of.l1 kq x7_1 x10_2 a0_0 l0_1 l0_2 a0_3 a0_4 l0_5 (wrap64 ((x7_1.length : Int) + 1)) 0 x231002_2 x231003_2 = some (r1, r2, r3, r4)) ∧ Aside0 (kq ≤ k1) ∧ Aside0 (Kd.R (Kd.int .i64) 2 w' w.heap.size (fun k_ => some k_ ≠ (u231002 : Value).ownBlock) (.slice Ao13 x7_1.length co13) x7_1) ∧ Aside0 (Kd.R (Kd.int .i64) 2 w' w.heap.size (fun k_ => some k_ ≠ ((.slice Ao13 x7_1.length co13) : Value).ownBlock) u231002 x231002_2) ∧ Aside0 (Kd.R k67 67 w' w.heap.size (fun _ => True) u231003 x231003_2) ∧ Aside0 (w'.heap[gb215]? = some (.cells #[.int .i64 0, .int .i64 0, (.slice none 0 0), (.slice none 0 0)] 30 (0, 0))) ∧ Aside0 (w'.heap[gb230]? = some (.cells #[.int .i64 (wrap64 ((x7_1.length : Int) + 1)), .int .i64 0, u231002, u231003] 30 (0, 0))) ∧ Aside0 (Below w.heap.size w w'))
    case atStart => exact ⟨(0), (y224), (y227), (.slice Ao19 y224.length co19), (.slice Ao18 y227.length co18), eT, H', ⟨Nat.le_refl _⟩, ⟨by (with_reducible repeat (first | apply rA | apply rN | apply rD)); exact rM (Kd.R_far (p := ⟨gb230, 3, none⟩) (Kd.R_far (p := ⟨gb230, 2, none⟩) (Kd.R_far (p := ⟨gb230, 1, none⟩) (Kd.R_far (p := ⟨gb230, 0, none⟩) (Kd.R_types HO_7.out BK230.out (by decide)) (fun _ hk => hk.2) (.int .i64 (wrap64 ((x7_1.length : Int) + 1)))) (fun _ hk => hk.2) (.int .i64 0)) (fun _ hk => hk.2) (.slice Ao19 y224.length co19)) (fun _ hk => hk.2) (.slice Ao18 y227.length co18)) (fun _ hk => hk.1.2)⟩, ⟨by (with_reducible repeat (first | apply rA | apply rN | apply rD)); exact rM (Kd.R_far (p := ⟨gb230, 3, none⟩) (Kd.R_far (p := ⟨gb230, 2, none⟩) (Kd.R_far (p := ⟨gb230, 1, none⟩) (Kd.R_far (p := ⟨gb230, 0, none⟩) (Kd.R_types HO226.out BK230.out (by decide)) (fun _ hk => hk.2) (.int .i64 (wrap64 ((x7_1.length : Int) + 1)))) (fun _ hk => hk.2) (.int .i64 0)) (fun _ hk => hk.2) (.slice Ao19 y224.length co19)) (fun _ hk => hk.2) (.slice Ao18 y227.length co18)) (fun _ hk => hk.1.2)⟩, ⟨by (with_reducible repeat (first | apply rA | apply rN | apply rD)); exact rM (Kd.R_far (p := ⟨gb230, 3, none⟩) (Kd.R_far (p := ⟨gb230, 2, none⟩) (Kd.R_far (p := ⟨gb230, 1, none⟩) (Kd.R_far (p := ⟨gb230, 0, none⟩) (Kd.R_types HO229.out BK230.out (by decide)) (fun _ hk => hk.2) (.int .i64 (wrap64 ((x7_1.length : Int) + 1)))) (fun _ hk => hk.2) (.int .i64 0)) (fun _ hk => hk.2) (.slice Ao19 y224.length co19)) (fun _ hk => hk.2) (.slice Ao18 y227.length co18)) (fun _ hk => trivial)⟩, ⟨by (with_reducible repeat (first | refine kN ?_ _ | refine kD ?_ | refine kA ?_ _)); refine kF ?_ NB215_230.out _; (with_reducible repeat (first | refine kN ?_ _ | refine kD ?_ | refine kA ?_ _)); refine kF ?_ NB215_230.out _; (with_reducible repeat (first | refine kN ?_ _ | refine kD ?_ | refine kA ?_ _)); refine kF ?_ NB215_230.out _; (with_reducible repeat (first | refine kN ?_ _ | refine kD ?_ | refine kA ?_ _)); refine kF ?_ NB215_230.out _; (with_reducible repeat (first | refine kN ?_ _ | refine kD ?_ | refine kA ?_ _)); exact BK215.out⟩, ⟨by (with_reducible repeat (first | refine kN ?_ _ | refine kD ?_ | refine kA ?_ _)); refine blk_put (cs := #[.int .i64 (wrap64 ((x7_1.length : Int) + 1)), .int .i64 0, .slice Ao19 y224.length co19, .slice none 0 0]) ?_ 3 _ rfl; (with_reducible repeat (first | refine kN ?_ _ | refine kD ?_ | refine kA ?_ _)); refine blk_put (cs := #[.int .i64 (wrap64 ((x7_1.length : Int) + 1)), .int .i64 0, .slice none 0 0, .slice none 0 0]) ?_ 2 _ rfl; (with_reducible repeat (first | refine kN ?_ _ | refine kD ?_ | refine kA ?_ _)); refine blk_put (cs := #[.int .i64 (wrap64 ((x7_1.length : Int) + 1)), .int .i64 0, .slice none 0 0, .slice none 0 0]) ?_ 1 _ rfl; (with_reducible repeat (first | refine kN ?_ _ | refine kD ?_ | refine kA ?_ _)); refine blk_put (cs := #[.int .i64 0, .int .i64 0, .slice none 0 0, .slice none 0 0]) ?_ 0 _ rfl; (with_reducible repeat (first | refine kN ?_ _ | refine kD ?_ | refine kA ?_ _)); exact BK230.out⟩, ⟨by repeat (first | (with_reducible first | exact HB.out | apply bA | apply bN | apply bD | refine bS ?_ GE215.out | refine bS ?_ GE230.out) | exact HB.out)⟩⟩
    case round =>
     clear H'
     try clear c1
     try clear c2
     try clear p2
     try clear p6
     try clear c7
     try clear c7b0
     try clear c9
     try clear c10
     try clear c11
     try clear c12
     try clear c21
     try clear hcz22_0
     try clear hcz22_1
     try clear hcz22_2
     try clear hcz22_3
     try clear hfz22_0
     try clear hfz22_1
     try clear hfz22_2
     try clear hfz22_3
     try clear p2
     obtain ⟨x10_2, x231002_2, x231003_2, u231002, u231003, rfl, HA, HK2, HO_7, HO_231002, HO_231003, BK215, BK230, HB⟩ := hrel
     cases gk with
     | zero => exact absurd HA.out (by simp [spec_l07Of.l1])
     | succ k2 =>
      have H := HA.out
      clear HA
      simp only [spec_l07Of.l1] at H
      by_cases c23 : x10_2 < (x7_1.length : Int)
      ·rw [if_pos c23] at H
       have c23b0 : decide (x10_2 < (x7_1.length : Int)) = true := decide_eq_true c23
       clear c23
       by_cases c24 : 0 ≤ x10_2
       ·rw [if_pos c24] at H
        have c24b0 : decide (0 ≤ x10_2) = true := decide_eq_true c24
        clear c24
        by_cases c25 : x231003_2.length < 5864062014805
        ·rw [if_pos c25] at H
         have LMc25 := Aside0.mk c25
         clear c25
         obtain ⟨y232, hy232⟩ : ∃ y_ : List (S67), y_ = (x231003_2 ++ [(⟨0, rd x7_1 x10_2, wrap64 (x10_2 + 1)⟩ : S67)]) := ⟨_, rfl⟩
         replace H : ((spec_l03Tone.f (rd x7_1 x10_2)).bind fun t236 => (if t236 = 0 then (if x231002_2.length < 17592186044416 then (spec_l07Of.l1 k2 x7_1 (wrap64 (x10_2 + 1)) a0_0 l0_1 l0_2 a0_3 a0_4 l0_5 (wrap64 ((x7_1.length : Int) + 1)) 0 (x231002_2 ++ [wrap64 (x10_2 + 1)]) y232) else (none)) else (spec_l07Of.l1 k2 x7_1 (wrap64 (x10_2 + 1)) a0_0 l0_1 l0_2 a0_3 a0_4 l0_5 (wrap64 ((x7_1.length : Int) + 1)) 0 x231002_2 y232))) = some (r1, r2, r3, r4) := by first | (rw [hy232]; with_reducible exact H) | (have H2_ := (Option.bind_some _ _).symm.trans H; rw [hy232]; with_reducible exact H2_) | (have H2_ := (Option.bind_some _ _).symm.trans H; with_reducible exact H2_) | with_reducible exact H | (rw [hy232]; exact H) | exact H
         have Ny232 := Aside0.mk hy232
         clear hy232
         replace H := Option.bind_eq_some_iff.mp H
         obtain ⟨t236, A260, H⟩ := H
         replace H : (if t236 = 0 then (if x231002_2.length < 17592186044416 then (spec_l07Of.l1 k2 x7_1 (wrap64 (x10_2 + 1)) a0_0 l0_1 l0_2 a0_3 a0_4 l0_5 (wrap64 ((x7_1.length : Int) + 1)) 0 (x231002_2 ++ [wrap64 (x10_2 + 1)]) y232) else (none)) else (spec_l07Of.l1 k2 x7_1 (wrap64 (x10_2 + 1)) a0_0 l0_1 l0_2 a0_3 a0_4 l0_5 (wrap64 ((x7_1.length : Int) + 1)) 0 x231002_2 y232)) = some (r1, r2, r3, r4) := H
         have A26 := Aside0.mk A260
         clear A260
         by_cases c27 : t236 = 0
         ·rw [if_pos c27] at H
          have c27b0 : (t236 == 0) = true := beq_iff_eq.mpr c27
          have c27b1 : (t236 != 0) = false := bne_eq_false_iff_eq.mpr c27
          clear c27
          by_cases c28 : x231002_2.length < 17592186044416
          ·rw [if_pos c28] at H
           have LMc28 := Aside0.mk c28
           clear c28
           obtain ⟨y237, hy237⟩ : ∃ y_ : List Int, y_ = (x231002_2 ++ [wrap64 (x10_2 + 1)]) := ⟨_, rfl⟩
           replace H : (spec_l07Of.l1 k2 x7_1 (wrap64 (x10_2 + 1)) a0_0 l0_1 l0_2 a0_3 a0_4 l0_5 (wrap64 ((x7_1.length : Int) + 1)) 0 y237 y232) = some (r1, r2, r3, r4) := by first | (rw [hy237]; with_reducible exact H) | (have H2_ := (Option.bind_some _ _).symm.trans H; rw [hy237]; with_reducible exact H2_) | (have H2_ := (Option.bind_some _ _).symm.trans H; with_reducible exact H2_) | with_reducible exact H | (rw [hy237]; exact H) | exact H
           have Ny237 := Aside0.mk hy237
           clear hy237
           have H' := Aside0.mk H
           clear H
           try go_wp2
           have n0_ := Aside0.mk (rD HO_7.out)
           have n1_ := Aside0.mk (rD HO_231002.out)
           have n2_ := Aside0.mk (rD HO_231003.out)
           have n3_ := Aside0.mk (kD BK215.out)
           have n4_ := Aside0.mk (kD BK230.out)
           have n5_ := Aside0.mk (bD HB.out)
           clear HO_7
           clear HO_231002
           clear HO_231003
           clear BK215
           clear BK230
           clear HB
           have HO_7 := n0_
           have HO_231002 := n1_
           have HO_231003 := n2_
           have BK215 := n3_
           have BK230 := n4_
           have HB := n5_
           clear n0_ n1_ n2_ n3_ n4_ n5_
           have p231 : 0 ≤ (x10_2 : Int) := oT
           have q231 : x10_2 < (x7_1.length : Int) := oT
           obtain ⟨ad231, e231, hx231_0⟩ := Kd.at_int (Kd.R_reads' HO_7.out).2.2 x10_2 p231 q231
           cases e231
           replace p231 := eq_true p231
           replace q231 := eq_true q231
           refine start_ (n := 13) (S := fun w' => w'.cell? ⟨gb230, 0, none⟩ = some (.int .i64 (wrap64 ((x7_1.length : Int) + 1))) ∧ w'.cell? ⟨gb230, 1, none⟩ = some (.int .i64 0) ∧ w'.cell? ⟨gb230, 2, none⟩ = some (u231002) ∧ w'.cell? ⟨gb230, 3, none⟩ = some (u231003) ∧ w'.cell? (ad231.add (x10_2).toNat) = some (.int .i64 (rd x7_1 x10_2))) (ds := [10, 12]) #[F,F,F,F,F,F,F,F,F,F,F,F,F] (by kernel_rfl) rfl rfl ⟨(kC BK230.out 0).trans rfl, (kC BK230.out 1).trans rfl, (kC BK230.out 2).trans rfl, (kC BK230.out 3).trans rfl, hx231_0⟩ (fun hHeld => ?_); refine with_tabW spec_l07Of.tab11 spec_l07Of.bits11 (fun HT_ HW_ => ?_)
           generalize wr.drew = w29 at HO_7 HO_231002 HO_231003 BK215 BK230 HB hx231_0 hHeld ⊢
           refine pure_ (i := 0) (N := some 40) (v := ?_) (a' := ?_) #[T,F,F,F,F,F,F,F,F,F,F,F,F] rfl rfl (any_of HT_.out (by kernel_rfl)) (fun _ _ _ h => h) (Or.inl ⟨by rfl, ?_⟩) ?_ ?_; rotate_left; (·intro w'; go_simp; with_reducible rfl); rotate_left; (·simp only [Act.put, sI, sZ, sS, iW, jW]; rfl)
           refine pure_ (i := 2) (N := some 42) (v := ?_) (a' := ?_) #[T,F,T,F,F,F,F,F,F,F,F,F,F] rfl rfl (any_of HT_.out (by kernel_rfl)) (fun _ _ _ h => h) (Or.inl ⟨by rfl, ?_⟩) ?_ ?_; rotate_left; (·intro w'; go_simp; with_reducible rfl); rotate_left; (·simp only [Act.put, sI, sZ, sS, iW, jW]; rfl)
           refine pure_ (i := 3) (N := some 43) (v := ?_) (a' := ?_) #[T,F,T,T,F,F,F,F,F,F,F,F,F] rfl rfl (any_of HT_.out (by kernel_rfl)) (fun _ _ _ h => h) (Or.inl ⟨by rfl, ?_⟩) ?_ ?_; rotate_left; (·intro w'; go_simp; with_reducible rfl); rotate_left; (·simp only [Act.put, sI, sZ, sS, iW, jW]; rfl)
           refine pure_ (i := 4) (N := some 44) (v := ?_) (a' := ?_) #[T,F,T,T,T,F,F,F,F,F,F,F,F] rfl rfl (any_of HT_.out (by kernel_rfl)) (fun _ _ _ h => h) (Or.inl ⟨by rfl, ?_⟩) ?_ ?_; rotate_left; (·intro w'; go_simp; with_reducible rfl); rotate_left; (·simp only [Act.put, sI, sZ, sS, iW, jW]; rfl)
           refine pure_ (i := 6) (N := some 46) (v := ?_) (a' := ?_) #[T,F,T,T,T,F,T,F,F,F,F,F,F] rfl rfl (any_of HT_.out (by kernel_rfl)) (fun _ _ _ h => h) (Or.inl ⟨by rfl, ?_⟩) ?_ ?_; rotate_left; (·intro w'; go_simp; with_reducible rfl); rotate_left; (·simp only [Act.put, sI, sZ, sS, iW, jW]; rfl)
           refine pure_ (i := 7) (N := some 47) (v := ?_) (a' := ?_) #[T,F,T,T,T,F,T,T,F,F,F,F,F] rfl rfl (any_of HT_.out (by kernel_rfl)) (fun _ _ _ h => h) (Or.inl ⟨by rfl, ?_⟩) ?_ ?_; rotate_left; (·intro w'; go_simp; with_reducible rfl); rotate_left; (·simp only [Act.put, sI, sZ, sS, iW, jW]; rfl)
           refine take_ (i := 1) (N := some 41) (v := ?_) (a' := ?_) #[T,T,T,T,T,F,T,T,F,F,F,F,F] rfl rfl (tW HT_.out HW_.out (by kernel_rfl)) (fun _ _ _ h => h) (Or.inl ⟨by rfl, ?_⟩) hHeld ?_ ?_; rotate_left; (·rintro w' ⟨s0, s1, s2, s3, s4⟩; go_simp; with_reducible rfl); rotate_left; (·simp only [Act.put, sI, sZ, sS, iW, jW]; rfl)
           refine take_ (i := 5) (N := some 45) (v := ?_) (a' := ?_) #[T,T,T,T,T,T,T,T,F,F,F,F,F] rfl rfl (tW HT_.out HW_.out (by kernel_rfl)) (fun _ _ _ h => h) (Or.inl ⟨by rfl, ?_⟩) hHeld ?_ ?_; rotate_left; (·rintro w' ⟨s0, s1, s2, s3, s4⟩; go_simp; with_reducible rfl); rotate_left; (·simp only [Act.put, sI, sZ, sS, iW, jW]; rfl)
           refine pure_ (i := 8) (N := some 48) (v := ?_) (a' := ?_) #[T,T,T,T,T,T,T,T,T,F,F,F,F] rfl rfl (any_of HT_.out (by kernel_rfl)) (fun _ _ _ h => h) (Or.inl ⟨by rfl, ?_⟩) ?_ ?_; rotate_left; (·intro w'; go_simp; with_reducible rfl); rotate_left; (·simp only [Act.put, sI, sZ, sS, iW, jW]; rfl)
           refine one_ (i := 9) (N := some 49) #[T,T,T,T,T,T,T,T,T,T,F,F,F] rfl rfl (oO HT_.out (by kernel_rfl)) (by decide) (fun K hK => ?_)
           refine value_ (w1 := ?_) (v := ?_) (by rfl) rfl ?_ ?_
           rotate_left 2
           ·go_simp
            constructor
            ·rfl
            ·rfl
           refine hK.out _ _ ⟨(kC (kA BK230.out _) 0).trans rfl, (kC (kA BK230.out _) 1).trans rfl, (kC (kA BK230.out _) 2).trans rfl, (kC (kA BK230.out _) 3).trans rfl, (World.cell?_alloc_lt _ _ _ (World.block_lt_of_cell? _ _ (hHeld.2.2.2.2))).trans (hHeld.2.2.2.2)⟩ (fun hHeld => ?_)
           clear hK K
           refine norm_ (a' := ?_) ?_ ?_
           rotate_left
           ·show Act.put _ (some 49) _ = _
            simp only [Act.put, sI, sZ, sS, iW, jW]
            rfl
           refine last_ (i := 10) (N := some 50) #[T,T,T,T,T,T,T,T,T,T,T,F,F] rfl rfl (oO HT_.out (by kernel_rfl)) (by decide) (fun K hK => ?_)
           refine Kd.R_append_step k67 (w0 := w) w.heap.size (by rfl) (.tmp 41) (.tmp 49) 28 67 (.agg #[(.int .i64 0), (.int .i64 0), (.int .i64 0)]) 24 rfl Try.underlying28 info67 rfl (by decide) (by omega) u231003 x231003_2 (⟨0, rd x7_1 x10_2, wrap64 (x10_2 + 1)⟩ : S67) [.int .i64 0, .int .i64 (rd x7_1 x10_2), .int .i64 (wrap64 (x10_2 + 1))] (fun _ => True) (fun _ => False) rfl rfl ?aP (fun _ hk => hk.elim) ?aF ?aO ?aB ?aS ?aL ?_
           (case aP => exact k67_mkM _ _ _ (⟨0, rd x7_1 x10_2, wrap64 (x10_2 + 1)⟩ : S67))
           (case aB => exact (by repeat (first | (with_reducible first | exact HB.out | apply bA | apply bN | apply bD | refine bS ?_ GE215.out | refine bS ?_ GE230.out) | exact HB.out)))
           (case aF => exact (fun _ _ => trivial))
           (case aO => exact (rQ HO_231003))
           (case aS => exact (bZ (by repeat (first | (with_reducible first | exact HB.out | apply bA | apply bN | apply bD | refine bS ?_ GE215.out | refine bS ?_ GE230.out) | exact HB.out))))
           (case aL => have := LMc25.out; omega)
           intro v233 w30 ho hb hg hat
           rw [← Ny232.out] at ho
           have n0_ := Aside0.mk (Kd.R_over' (rQ HO_7) (Kd.R_typed (rQ HO_231003)) (by decide) hg)
           have n1_ := Aside0.mk (Kd.R_over' (rQ HO_231002) (Kd.R_typed (rQ HO_231003)) (by decide) hg)
           have n2_ := Aside0.mk (blk_grown (kQ BK215) hg (Kd.R_ne HO_231003.out BK215.out (by decide)))
           have n3_ := Aside0.mk (blk_grown (kQ BK230) hg (Kd.R_ne HO_231003.out BK230.out (by decide)))
           have n4_ := Aside0.mk (hb)
           have n5_ := Aside0.mk (ho)
           clear HO_7
           clear HO_231002
           clear BK215
           clear BK230
           clear HB
           clear HO_231003
           have HO_7 := n0_
           have HO_231002 := n1_
           have BK215 := n2_
           have BK230 := n3_
           have HB := n4_
           have HO234 := n5_
           clear n0_ n1_ n2_ n3_ n4_ n5_
           clear ho hb hg hat
           obtain ⟨Ao31, co31, eo31⟩ := Kd.R_slice HO234.out
           (first | subst eo31 | (injection eo31 with f1_ f2_ f3_; have f4_ := f1_.symm; have f5_ := f3_.symm; clear f1_ f2_ f3_; subst f4_; subst f5_))
           refine hK.out _ _ ?_
           clear hK K
           refine norm_ (a' := ?_) ?_ ?_
           rotate_left
           ·show Act.put _ (some 50) _ = _
            simp only [Act.put, sI, sZ, sS, iW, jW]
            rfl
           refine pure_ (i := 11) (N := some 51) (v := ?_) (a' := ?_) #[T,T,T,T,T,T,T,T,T,T,T,T,F] rfl rfl (any_of HT_.out (by kernel_rfl)) (fun _ _ _ h => h) (Or.inl ⟨by rfl, ?_⟩) ?_ ?_; rotate_left; (·intro w'; go_simp; with_reducible rfl); rotate_left; (·simp only [Act.put, sI, sZ, sS, iW, jW]; rfl)
           refine last_ (i := 12) (N := none) #[T,T,T,T,T,T,T,T,T,T,T,T,T] rfl rfl (oO HT_.out (by kernel_rfl)) (by decide) (fun K hK => ?_)
           have hs32 : w30.cell? ⟨gb230, 3, none⟩ = some (u231003) := (kC BK230.out 3).trans rfl
           have hfs32 := blk_frozen BK230.out 3
           have hns32_0 := NB215_230.out
           have hms32_0 := NB230_215.out
           refine skip_ (w1 := ?_) (by rfl) rfl ?_ ?_
           rotate_left
           ·go_simp
            rfl
           refine hK.out _ _ ?_
           clear hK K
           refine done_ (done_of HT_.out (by kernel_rfl)) ?_
           have p235 : 0 ≤ (x10_2 : Int) := oT
           have q235 : x10_2 < (x7_1.length : Int) := oT
           obtain ⟨ad235, e235, hx235_0⟩ := Kd.at_int (Kd.R_reads' HO_7.out).2.2 x10_2 p235 q235
           obtain rfl : ad231 = ad235 := (by injection e235)
           have hn235_0 : ad231.block ≠ gb230 := Kd.own_blk (Kd.R_ne HO_7.out BK230.out (by decide))
           replace hx235_0 := (cell_far (p := ⟨gb230, 3, none⟩) (by first | (rw [add_block]; exact hn235_0) | (show (Addr.add _ _).block ≠ _; rw [add_block]; exact hn235_0) | exact hn235_0) (.slice Ao31 y232.length co31)).trans hx235_0
           clear hn235_0
           replace p235 := eq_true p235
           replace q235 := eq_true q235
           try go_wp2_with (first | ((with_reducible refine gC (f := 120) rfl ?_); refine goesL_ (some 56) rfl rfl Try.func120 (by kernel_rfl) rfl #[.int .i64 (rd x7_1 x10_2)] rfl lQ ?_; (with_reducible refine (spec_l03Tone.calls (rd x7_1 x10_2) t236 _ A26.out).mono ?_); rintro e w' ⟨rfl, ⟨nd, rfl⟩⟩; refine ⟨_, rfl, ?_⟩; have hnb33 := NB230_215.out; have hnc33 := NB215_230.out; have hcz34_0 : w30.cell? ⟨gb230, 0, none⟩ = some (.int .i64 (wrap64 ((x7_1.length : Int) + 1))) := (kC BK230.out 0).trans rfl; have hcz34_1 : w30.cell? ⟨gb230, 1, none⟩ = some (.int .i64 0) := (kC BK230.out 1).trans rfl; have hcz34_2 : w30.cell? ⟨gb230, 2, none⟩ = some (u231002) := (kC BK230.out 2).trans rfl; have hcz34_3 : w30.cell? ⟨gb230, 3, none⟩ = some (u231003) := (kC BK230.out 3).trans rfl; obtain ⟨hfz34_0, hfz34_1, hfz34_2, hfz34_3⟩ := fZ4 BK230.out) | ((with_reducible refine gate_builtin (b := .append) (xs := #[.tmp 59, .tmp 62]) rfl ?_); at_builtin; refine Kd.R_append (Kd.int .i64) (w0 := w) w.heap.size rfl (.tmp 59) (.tmp 62) 22 2 (.int .i64 0) 8 rfl Try.underlying22 info2 rfl (by decide) (by omega) u231002 x231002_2 (wrap64 (x10_2 + 1)) [.int .i64 (wrap64 (x10_2 + 1))] (fun k_ => some k_ ≠ (.slice (some ad231) x7_1.length co13 : Value).ownBlock) (fun _ => False) rfl (by first | (go_simp; done) | (go_simp; rfl)) ?aP (fun _ hk => hk.elim) ?aF ?aO ?aB ?aS ?aL ?_; (case aP => exact rfl); (case aB => exact (by repeat (first | (with_reducible first | exact HB.out | apply bA | apply bN | apply bD | refine bS ?_ GE215.out | refine bS ?_ GE230.out) | exact HB.out))); (case aF => exact (fun k_ hk => Kd.fresh' (rT (by (with_reducible repeat (first | apply rA | apply rN | apply rD)); exact (rM (Kd.R_far (p := ⟨gb230, 3, none⟩) (Kd.R_types HO_7.out BK230.out (by decide)) (fun _ hk => hk.2) (.slice Ao31 y232.length co31)) (fun _ h_ => h_.1)))) k_ hk)); (case aO => exact (by (with_reducible repeat (first | apply rA | apply rN | apply rD)); exact rM (Kd.R_far (p := ⟨gb230, 3, none⟩) (Kd.R_types HO_231002.out BK230.out (by decide)) (fun _ hk => hk.2) (.slice Ao31 y232.length co31)) (fun _ hk => hk.1))); (case aS => exact (bZ (by repeat (first | (with_reducible first | exact HB.out | apply bA | apply bN | apply bD | refine bS ?_ GE215.out | refine bS ?_ GE230.out) | exact HB.out)))); (case aL => have := LMc28.out; omega); intro v238 w35 ho hb hg hat; rw [← Ny237.out] at ho; have n0_ := Aside0.mk (Kd.R_after (ok := (fun _ => True)) (by (with_reducible repeat (first | apply rA | apply rN | apply rD)); exact rM (Kd.R_far (p := ⟨gb230, 3, none⟩) (Kd.R_types HO_7.out BK230.out (by decide)) (fun _ hk => hk.2) (.slice Ao31 y232.length co31)) (fun _ hk => ⟨trivial, hk.1⟩)) hg hat); have n1_ := Aside0.mk (blk_grown (g := gb215) (o := .cells #[.int .i64 0, .int .i64 0, .slice none 0 0, .slice none 0 0] 30 (0, 0)) (by (with_reducible repeat (first | refine kN ?_ _ | refine kD ?_ | refine kA ?_ _)); refine kF ?_ NB215_230.out _; (with_reducible repeat (first | refine kN ?_ _ | refine kD ?_ | refine kA ?_ _)); exact BK215.out) hg (Kd.R_ne HO_231002.out BK215.out (by decide))); have n2_ := Aside0.mk (blk_grown (g := gb230) (o := .cells #[.int .i64 (wrap64 ((x7_1.length : Int) + 1)), .int .i64 0, u231002, .slice Ao31 y232.length co31] 30 (0, 0)) (by (with_reducible repeat (first | refine kN ?_ _ | refine kD ?_ | refine kA ?_ _)); refine blk_put (cs := #[.int .i64 (wrap64 ((x7_1.length : Int) + 1)), .int .i64 0, u231002, u231003]) ?_ 3 _ rfl; (with_reducible repeat (first | refine kN ?_ _ | refine kD ?_ | refine kA ?_ _)); exact BK230.out) hg (Kd.R_ne HO_231002.out BK230.out (by decide))); have n3_ := Aside0.mk (Kd.R_over' (by (with_reducible repeat (first | apply rA | apply rN | apply rD)); exact (rM (Kd.R_far (p := ⟨gb230, 3, none⟩) (Kd.R_types HO234.out BK230.out (by decide)) (fun _ hk => hk.2) (.slice Ao31 y232.length co31)) (fun _ h_ => h_.1))) (Kd.R_typed (by (with_reducible repeat (first | apply rA | apply rN | apply rD)); exact (rM (Kd.R_far (p := ⟨gb230, 3, none⟩) (Kd.R_types HO_231002.out BK230.out (by decide)) (fun _ hk => hk.2) (.slice Ao31 y232.length co31)) (fun _ h_ => h_.1)))) (by decide) hg); have n4_ := Aside0.mk (hb); have n5_ := Aside0.mk (ho); clear HO_7; clear BK215; clear BK230; clear HO234; clear HB; clear HO_231002; have HO_7 := n0_; have BK215 := n1_; have BK230 := n2_; have HO234 := n3_; have HB := n4_; have HO239 := n5_; clear n0_ n1_ n2_ n3_ n4_ n5_; clear ho hb hg hat; obtain ⟨Ao36, co36, eo36⟩ := Kd.R_slice HO239.out; subst eo36; have hcz37_0 : w35.cell? ⟨gb230, 0, none⟩ = some (.int .i64 (wrap64 ((x7_1.length : Int) + 1))) := (kC BK230.out 0).trans rfl; have hcz37_1 : w35.cell? ⟨gb230, 1, none⟩ = some (.int .i64 0) := (kC BK230.out 1).trans rfl; have hcz37_2 : w35.cell? ⟨gb230, 2, none⟩ = some (u231002) := (kC BK230.out 2).trans rfl; have hcz37_3 : w35.cell? ⟨gb230, 3, none⟩ = some (.slice Ao31 y232.length co31) := (kC BK230.out 3).trans rfl; obtain ⟨hfz37_0, hfz37_1, hfz37_2, hfz37_3⟩ := fZ4 BK230.out))
           go_roundg k2
           case measure => have := HK1.out; have := HK2.out; omega
           case rel => exact ⟨(wrap64 (x10_2 + 1)), (y237), (y232), (.slice Ao36 y237.length co36), (.slice Ao31 y232.length co31), eT, H', ⟨by have := HK1.out; have := HK2.out; omega⟩, ⟨by (with_reducible repeat (first | apply rA | apply rN | apply rD)); exact rM (Kd.R_far (p := ⟨gb230, 2, none⟩) (Kd.R_types HO_7.out BK230.out (by decide)) (fun _ hk => hk.2) (.slice Ao36 y237.length co36)) (fun _ hk => hk.1.2)⟩, ⟨by (with_reducible repeat (first | apply rA | apply rN | apply rD)); exact rM (Kd.R_far (p := ⟨gb230, 2, none⟩) (Kd.R_types HO239.out BK230.out (by decide)) (fun _ hk => hk.2) (.slice Ao36 y237.length co36)) (fun _ hk => hk.1)⟩, ⟨by (with_reducible repeat (first | apply rA | apply rN | apply rD)); exact rM (Kd.R_far (p := ⟨gb230, 2, none⟩) (Kd.R_types HO234.out BK230.out (by decide)) (fun _ hk => hk.2) (.slice Ao36 y237.length co36)) (fun _ hk => trivial)⟩, ⟨by (with_reducible repeat (first | refine kN ?_ _ | refine kD ?_ | refine kA ?_ _)); refine kF ?_ NB215_230.out _; (with_reducible repeat (first | refine kN ?_ _ | refine kD ?_ | refine kA ?_ _)); exact BK215.out⟩, ⟨by (with_reducible repeat (first | refine kN ?_ _ | refine kD ?_ | refine kA ?_ _)); refine blk_put (cs := #[.int .i64 (wrap64 ((x7_1.length : Int) + 1)), .int .i64 0, u231002, .slice Ao31 y232.length co31]) ?_ 2 _ rfl; (with_reducible repeat (first | refine kN ?_ _ | refine kD ?_ | refine kA ?_ _)); exact BK230.out⟩, ⟨by repeat (first | (with_reducible first | exact HB.out | apply bA | apply bN | apply bD | refine bS ?_ GE215.out | refine bS ?_ GE230.out) | exact HB.out)⟩⟩
          ·rw [if_neg c28] at H
           exact absurd H (by simp)
         ·rw [if_neg c27] at H
          have c27b0 : (t236 == 0) = false := beq_eq_false_iff_ne.mpr c27
          have c27b1 : (t236 != 0) = true := bne_iff_ne.mpr c27
          have H' := Aside0.mk H
          clear H
          try go_wp2
          have n0_ := Aside0.mk (rD HO_7.out)
          have n1_ := Aside0.mk (rD HO_231002.out)
          have n2_ := Aside0.mk (rD HO_231003.out)
          have n3_ := Aside0.mk (kD BK215.out)
          have n4_ := Aside0.mk (kD BK230.out)
          have n5_ := Aside0.mk (bD HB.out)
          clear HO_7
          clear HO_231002
          clear HO_231003
          clear BK215
          clear BK230
          clear HB
          have HO_7 := n0_
          have HO_231002 := n1_
          have HO_231003 := n2_
          have BK215 := n3_
          have BK230 := n4_
          have HB := n5_
          clear n0_ n1_ n2_ n3_ n4_ n5_
          have p231 : 0 ≤ (x10_2 : Int) := oT
          have q231 : x10_2 < (x7_1.length : Int) := oT
          obtain ⟨ad231, e231, hx231_0⟩ := Kd.at_int (Kd.R_reads' HO_7.out).2.2 x10_2 p231 q231
          cases e231
          replace p231 := eq_true p231
          replace q231 := eq_true q231
          refine start_ (n := 13) (S := fun w' => w'.cell? ⟨gb230, 0, none⟩ = some (.int .i64 (wrap64 ((x7_1.length : Int) + 1))) ∧ w'.cell? ⟨gb230, 1, none⟩ = some (.int .i64 0) ∧ w'.cell? ⟨gb230, 2, none⟩ = some (u231002) ∧ w'.cell? ⟨gb230, 3, none⟩ = some (u231003) ∧ w'.cell? (ad231.add (x10_2).toNat) = some (.int .i64 (rd x7_1 x10_2))) (ds := [10, 12]) #[F,F,F,F,F,F,F,F,F,F,F,F,F] (by kernel_rfl) rfl rfl ⟨(kC BK230.out 0).trans rfl, (kC BK230.out 1).trans rfl, (kC BK230.out 2).trans rfl, (kC BK230.out 3).trans rfl, hx231_0⟩ (fun hHeld => ?_); refine with_tabW spec_l07Of.tab11 spec_l07Of.bits11 (fun HT_ HW_ => ?_)
          generalize wr.drew = w38 at HO_7 HO_231002 HO_231003 BK215 BK230 HB hx231_0 hHeld ⊢
          refine pure_ (i := 0) (N := some 40) (v := ?_) (a' := ?_) #[T,F,F,F,F,F,F,F,F,F,F,F,F] rfl rfl (any_of HT_.out (by kernel_rfl)) (fun _ _ _ h => h) (Or.inl ⟨by rfl, ?_⟩) ?_ ?_; rotate_left; (·intro w'; go_simp; with_reducible rfl); rotate_left; (·simp only [Act.put, sI, sZ, sS, iW, jW]; rfl)
          refine pure_ (i := 2) (N := some 42) (v := ?_) (a' := ?_) #[T,F,T,F,F,F,F,F,F,F,F,F,F] rfl rfl (any_of HT_.out (by kernel_rfl)) (fun _ _ _ h => h) (Or.inl ⟨by rfl, ?_⟩) ?_ ?_; rotate_left; (·intro w'; go_simp; with_reducible rfl); rotate_left; (·simp only [Act.put, sI, sZ, sS, iW, jW]; rfl)
          refine pure_ (i := 3) (N := some 43) (v := ?_) (a' := ?_) #[T,F,T,T,F,F,F,F,F,F,F,F,F] rfl rfl (any_of HT_.out (by kernel_rfl)) (fun _ _ _ h => h) (Or.inl ⟨by rfl, ?_⟩) ?_ ?_; rotate_left; (·intro w'; go_simp; with_reducible rfl); rotate_left; (·simp only [Act.put, sI, sZ, sS, iW, jW]; rfl)
          refine pure_ (i := 4) (N := some 44) (v := ?_) (a' := ?_) #[T,F,T,T,T,F,F,F,F,F,F,F,F] rfl rfl (any_of HT_.out (by kernel_rfl)) (fun _ _ _ h => h) (Or.inl ⟨by rfl, ?_⟩) ?_ ?_; rotate_left; (·intro w'; go_simp; with_reducible rfl); rotate_left; (·simp only [Act.put, sI, sZ, sS, iW, jW]; rfl)
          refine pure_ (i := 6) (N := some 46) (v := ?_) (a' := ?_) #[T,F,T,T,T,F,T,F,F,F,F,F,F] rfl rfl (any_of HT_.out (by kernel_rfl)) (fun _ _ _ h => h) (Or.inl ⟨by rfl, ?_⟩) ?_ ?_; rotate_left; (·intro w'; go_simp; with_reducible rfl); rotate_left; (·simp only [Act.put, sI, sZ, sS, iW, jW]; rfl)
          refine pure_ (i := 7) (N := some 47) (v := ?_) (a' := ?_) #[T,F,T,T,T,F,T,T,F,F,F,F,F] rfl rfl (any_of HT_.out (by kernel_rfl)) (fun _ _ _ h => h) (Or.inl ⟨by rfl, ?_⟩) ?_ ?_; rotate_left; (·intro w'; go_simp; with_reducible rfl); rotate_left; (·simp only [Act.put, sI, sZ, sS, iW, jW]; rfl)
          refine take_ (i := 1) (N := some 41) (v := ?_) (a' := ?_) #[T,T,T,T,T,F,T,T,F,F,F,F,F] rfl rfl (tW HT_.out HW_.out (by kernel_rfl)) (fun _ _ _ h => h) (Or.inl ⟨by rfl, ?_⟩) hHeld ?_ ?_; rotate_left; (·rintro w' ⟨s0, s1, s2, s3, s4⟩; go_simp; with_reducible rfl); rotate_left; (·simp only [Act.put, sI, sZ, sS, iW, jW]; rfl)
          refine take_ (i := 5) (N := some 45) (v := ?_) (a' := ?_) #[T,T,T,T,T,T,T,T,F,F,F,F,F] rfl rfl (tW HT_.out HW_.out (by kernel_rfl)) (fun _ _ _ h => h) (Or.inl ⟨by rfl, ?_⟩) hHeld ?_ ?_; rotate_left; (·rintro w' ⟨s0, s1, s2, s3, s4⟩; go_simp; with_reducible rfl); rotate_left; (·simp only [Act.put, sI, sZ, sS, iW, jW]; rfl)
          refine pure_ (i := 8) (N := some 48) (v := ?_) (a' := ?_) #[T,T,T,T,T,T,T,T,T,F,F,F,F] rfl rfl (any_of HT_.out (by kernel_rfl)) (fun _ _ _ h => h) (Or.inl ⟨by rfl, ?_⟩) ?_ ?_; rotate_left; (·intro w'; go_simp; with_reducible rfl); rotate_left; (·simp only [Act.put, sI, sZ, sS, iW, jW]; rfl)
          refine one_ (i := 9) (N := some 49) #[T,T,T,T,T,T,T,T,T,T,F,F,F] rfl rfl (oO HT_.out (by kernel_rfl)) (by decide) (fun K hK => ?_)
          refine value_ (w1 := ?_) (v := ?_) (by rfl) rfl ?_ ?_
          rotate_left 2
          ·go_simp
           constructor
           ·rfl
           ·rfl
          refine hK.out _ _ ⟨(kC (kA BK230.out _) 0).trans rfl, (kC (kA BK230.out _) 1).trans rfl, (kC (kA BK230.out _) 2).trans rfl, (kC (kA BK230.out _) 3).trans rfl, (World.cell?_alloc_lt _ _ _ (World.block_lt_of_cell? _ _ (hHeld.2.2.2.2))).trans (hHeld.2.2.2.2)⟩ (fun hHeld => ?_)
          clear hK K
          refine norm_ (a' := ?_) ?_ ?_
          rotate_left
          ·show Act.put _ (some 49) _ = _
           simp only [Act.put, sI, sZ, sS, iW, jW]
           rfl
          refine last_ (i := 10) (N := some 50) #[T,T,T,T,T,T,T,T,T,T,T,F,F] rfl rfl (oO HT_.out (by kernel_rfl)) (by decide) (fun K hK => ?_)
          refine Kd.R_append_step k67 (w0 := w) w.heap.size (by rfl) (.tmp 41) (.tmp 49) 28 67 (.agg #[(.int .i64 0), (.int .i64 0), (.int .i64 0)]) 24 rfl Try.underlying28 info67 rfl (by decide) (by omega) u231003 x231003_2 (⟨0, rd x7_1 x10_2, wrap64 (x10_2 + 1)⟩ : S67) [.int .i64 0, .int .i64 (rd x7_1 x10_2), .int .i64 (wrap64 (x10_2 + 1))] (fun _ => True) (fun _ => False) rfl rfl ?aP (fun _ hk => hk.elim) ?aF ?aO ?aB ?aS ?aL ?_
          (case aP => exact k67_mkM _ _ _ (⟨0, rd x7_1 x10_2, wrap64 (x10_2 + 1)⟩ : S67))
          (case aB => exact (by repeat (first | (with_reducible first | exact HB.out | apply bA | apply bN | apply bD | refine bS ?_ GE215.out | refine bS ?_ GE230.out) | exact HB.out)))
          (case aF => exact (fun _ _ => trivial))
          (case aO => exact (rQ HO_231003))
          (case aS => exact (bZ (by repeat (first | (with_reducible first | exact HB.out | apply bA | apply bN | apply bD | refine bS ?_ GE215.out | refine bS ?_ GE230.out) | exact HB.out))))
          (case aL => have := LMc25.out; omega)
          intro v233 w39 ho hb hg hat
          rw [← Ny232.out] at ho
          have n0_ := Aside0.mk (Kd.R_over' (rQ HO_7) (Kd.R_typed (rQ HO_231003)) (by decide) hg)
          have n1_ := Aside0.mk (Kd.R_over' (rQ HO_231002) (Kd.R_typed (rQ HO_231003)) (by decide) hg)
          have n2_ := Aside0.mk (blk_grown (kQ BK215) hg (Kd.R_ne HO_231003.out BK215.out (by decide)))
          have n3_ := Aside0.mk (blk_grown (kQ BK230) hg (Kd.R_ne HO_231003.out BK230.out (by decide)))
          have n4_ := Aside0.mk (hb)
          have n5_ := Aside0.mk (ho)
          clear HO_7
          clear HO_231002
          clear BK215
          clear BK230
          clear HB
          clear HO_231003
          have HO_7 := n0_
          have HO_231002 := n1_
          have BK215 := n2_
          have BK230 := n3_
          have HB := n4_
          have HO234 := n5_
          clear n0_ n1_ n2_ n3_ n4_ n5_
          clear ho hb hg hat
          obtain ⟨Ao40, co40, eo40⟩ := Kd.R_slice HO234.out
          (first | subst eo40 | (injection eo40 with f1_ f2_ f3_; have f4_ := f1_.symm; have f5_ := f3_.symm; clear f1_ f2_ f3_; subst f4_; subst f5_))
          refine hK.out _ _ ?_
          clear hK K
          refine norm_ (a' := ?_) ?_ ?_
          rotate_left
          ·show Act.put _ (some 50) _ = _
           simp only [Act.put, sI, sZ, sS, iW, jW]
           rfl
          refine pure_ (i := 11) (N := some 51) (v := ?_) (a' := ?_) #[T,T,T,T,T,T,T,T,T,T,T,T,F] rfl rfl (any_of HT_.out (by kernel_rfl)) (fun _ _ _ h => h) (Or.inl ⟨by rfl, ?_⟩) ?_ ?_; rotate_left; (·intro w'; go_simp; with_reducible rfl); rotate_left; (·simp only [Act.put, sI, sZ, sS, iW, jW]; rfl)
          refine last_ (i := 12) (N := none) #[T,T,T,T,T,T,T,T,T,T,T,T,T] rfl rfl (oO HT_.out (by kernel_rfl)) (by decide) (fun K hK => ?_)
          have hs41 : w39.cell? ⟨gb230, 3, none⟩ = some (u231003) := (kC BK230.out 3).trans rfl
          have hfs41 := blk_frozen BK230.out 3
          have hns41_0 := NB215_230.out
          have hms41_0 := NB230_215.out
          refine skip_ (w1 := ?_) (by rfl) rfl ?_ ?_
          rotate_left
          ·go_simp
           rfl
          refine hK.out _ _ ?_
          clear hK K
          refine done_ (done_of HT_.out (by kernel_rfl)) ?_
          have p235 : 0 ≤ (x10_2 : Int) := oT
          have q235 : x10_2 < (x7_1.length : Int) := oT
          obtain ⟨ad235, e235, hx235_0⟩ := Kd.at_int (Kd.R_reads' HO_7.out).2.2 x10_2 p235 q235
          obtain rfl : ad231 = ad235 := (by injection e235)
          have hn235_0 : ad231.block ≠ gb230 := Kd.own_blk (Kd.R_ne HO_7.out BK230.out (by decide))
          replace hx235_0 := (cell_far (p := ⟨gb230, 3, none⟩) (by first | (rw [add_block]; exact hn235_0) | (show (Addr.add _ _).block ≠ _; rw [add_block]; exact hn235_0) | exact hn235_0) (.slice Ao40 y232.length co40)).trans hx235_0
          clear hn235_0
          replace p235 := eq_true p235
          replace q235 := eq_true q235
          try go_wp2_with (first | ((with_reducible refine gC (f := 120) rfl ?_); refine goesL_ (some 56) rfl rfl Try.func120 (by kernel_rfl) rfl #[.int .i64 (rd x7_1 x10_2)] rfl lQ ?_; (with_reducible refine (spec_l03Tone.calls (rd x7_1 x10_2) t236 _ A26.out).mono ?_); rintro e w' ⟨rfl, ⟨nd, rfl⟩⟩; refine ⟨_, rfl, ?_⟩))
          go_roundg k2
          case measure => have := HK1.out; have := HK2.out; omega
          case rel => exact ⟨(wrap64 (x10_2 + 1)), (x231002_2), (y232), (u231002), (.slice Ao40 y232.length co40), eT, H', ⟨by have := HK1.out; have := HK2.out; omega⟩, ⟨by (with_reducible repeat (first | apply rA | apply rN | apply rD)); exact rM (Kd.R_far (p := ⟨gb230, 3, none⟩) (Kd.R_types HO_7.out BK230.out (by decide)) (fun _ hk => hk.2) (.slice Ao40 y232.length co40)) (fun _ hk => hk.1)⟩, ⟨by (with_reducible repeat (first | apply rA | apply rN | apply rD)); exact rM (Kd.R_far (p := ⟨gb230, 3, none⟩) (Kd.R_types HO_231002.out BK230.out (by decide)) (fun _ hk => hk.2) (.slice Ao40 y232.length co40)) (fun _ hk => hk.1)⟩, ⟨by (with_reducible repeat (first | apply rA | apply rN | apply rD)); exact rM (Kd.R_far (p := ⟨gb230, 3, none⟩) (Kd.R_types HO234.out BK230.out (by decide)) (fun _ hk => hk.2) (.slice Ao40 y232.length co40)) (fun _ hk => trivial)⟩, ⟨by (with_reducible repeat (first | refine kN ?_ _ | refine kD ?_ | refine kA ?_ _)); refine kF ?_ NB215_230.out _; (with_reducible repeat (first | refine kN ?_ _ | refine kD ?_ | refine kA ?_ _)); exact BK215.out⟩, ⟨by (with_reducible repeat (first | refine kN ?_ _ | refine kD ?_ | refine kA ?_ _)); refine blk_put (cs := #[.int .i64 (wrap64 ((x7_1.length : Int) + 1)), .int .i64 0, u231002, u231003]) ?_ 3 _ rfl; (with_reducible repeat (first | refine kN ?_ _ | refine kD ?_ | refine kA ?_ _)); exact BK230.out⟩, ⟨by repeat (first | (with_reducible first | exact HB.out | apply bA | apply bN | apply bD | refine bS ?_ GE215.out | refine bS ?_ GE230.out) | exact HB.out)⟩⟩
        ·rw [if_neg c25] at H
         exact absurd H (by simp)
       ·rw [if_neg c24] at H
        exact absurd H (by simp)
      ·rw [if_neg c23] at H
       have c23b0 : decide (x10_2 < (x7_1.length : Int)) = false := decide_eq_false c23
       clear c23
       have H' := Aside0.mk H
       clear H
       go_wp2
       go_loopg [11] k2 (fun kq v11 w' => ∃ (x11_3 : Int) (x231003_3 : List (S67)) (u231003 : Value), v11 = .int .i64 x11_3 ∧ Aside0 (spec_l07Of.l2 kq x7_1 x11_3 a0_0 l0_1 l0_2 a0_3 a0_4 l0_5 (wrap64 ((x7_1.length : Int) + 1)) 0 x231002_2 x231003_3 = some (r1, r2, r3, r4)) ∧ Aside0 (kq ≤ k2) ∧ Aside0 (Kd.R (Kd.int .i64) 2 w' w.heap.size (fun k_ => some k_ ≠ (u231002 : Value).ownBlock) (.slice Ao13 x7_1.length co13) x7_1) ∧ Aside0 (Kd.R (Kd.int .i64) 2 w' w.heap.size (fun k_ => some k_ ≠ ((.slice Ao13 x7_1.length co13) : Value).ownBlock) u231002 x231002_2) ∧ Aside0 (Kd.R k67 67 w' w.heap.size (fun _ => True) u231003 x231003_3) ∧ Aside0 (w'.heap[gb215]? = some (.cells #[.int .i64 0, .int .i64 0, (.slice none 0 0), (.slice none 0 0)] 30 (0, 0))) ∧ Aside0 (w'.heap[gb230]? = some (.cells #[.int .i64 (wrap64 ((x7_1.length : Int) + 1)), .int .i64 0, u231002, u231003] 30 (0, 0))) ∧ Aside0 (Below w.heap.size w w'))
       case atStart => exact ⟨(0), (x231003_2), (u231003), eT, H', ⟨Nat.le_refl _⟩, ⟨rQ HO_7⟩, ⟨rQ HO_231002⟩, ⟨rQ HO_231003⟩, ⟨kQ BK215⟩, ⟨kQ BK230⟩, ⟨by repeat (first | (with_reducible first | exact HB.out | apply bA | apply bN | apply bD | refine bS ?_ GE215.out | refine bS ?_ GE230.out) | exact HB.out)⟩⟩
       case round =>
        clear H'
        try clear c1
        try clear c2
        try clear p2
        try clear q2
        try clear hx2
        try clear c3
        try clear p6
        try clear c7
        try clear c7b0
        try clear c9
        try clear c10
        try clear c11
        try clear c12
        try clear c21
        try clear c23
        try clear c23b0
        try clear p23
        try clear q23
        try clear hx23
        try clear c24
        try clear c24b0
        try clear c25
        try clear c27
        try clear c27b0
        try clear c27b1
        try clear c28
        try clear c33
        try clear hcz22_0
        try clear hcz22_1
        try clear hcz22_2
        try clear hcz22_3
        try clear hcz34_0
        try clear hcz34_1
        try clear hcz34_2
        try clear hcz34_3
        try clear hcz37_0
        try clear hcz37_1
        try clear hcz37_2
        try clear hcz37_3
        try clear hfz22_0
        try clear hfz22_1
        try clear hfz22_2
        try clear hfz22_3
        try clear hfz34_0
        try clear hfz34_1
        try clear hfz34_2
        try clear hfz34_3
        try clear hfz37_0
        try clear hfz37_1
        try clear hfz37_2
        try clear hfz37_3
        try clear hx231_0
        try clear hx235_0
        try clear p2
        try clear p231
        try clear p235
        try clear p6
        try clear q231
        try clear q235
        obtain ⟨x11_3, x231003_3, u231003, rfl, HA, HK3, HO_7, HO_231002, HO_231003, BK215, BK230, HB⟩ := hrel
        cases gk with
        | zero => exact absurd HA.out (by simp [spec_l07Of.l2])
        | succ k3 =>
         have H := HA.out
         clear HA
         simp only [spec_l07Of.l2] at H
         by_cases c42 : x11_3 < (x7_1.length : Int)
         ·rw [if_pos c42] at H
          have c42b0 : decide (x11_3 < (x7_1.length : Int)) = true := decide_eq_true c42
          clear c42
          have H' := Aside0.mk H
          clear H
          go_wp2
          go_loopg [12] k3 (fun kq v12 w' => ∃ (x12_4 : Int) (x231003_4 : List (S67)) (u231003 : Value), v12 = .int .i64 x12_4 ∧ Aside0 (spec_l07Of.l3 kq x7_1 x11_3 x12_4 a0_0 l0_1 l0_2 a0_3 a0_4 l0_5 (wrap64 ((x7_1.length : Int) + 1)) 0 x231002_2 x231003_4 = some (r1, r2, r3, r4)) ∧ Aside0 (kq ≤ k3) ∧ Aside0 (Kd.R (Kd.int .i64) 2 w' w.heap.size (fun k_ => some k_ ≠ (u231002 : Value).ownBlock) (.slice Ao13 x7_1.length co13) x7_1) ∧ Aside0 (Kd.R (Kd.int .i64) 2 w' w.heap.size (fun k_ => some k_ ≠ ((.slice Ao13 x7_1.length co13) : Value).ownBlock) u231002 x231002_2) ∧ Aside0 (Kd.R k67 67 w' w.heap.size (fun _ => True) u231003 x231003_4) ∧ Aside0 (w'.heap[gb215]? = some (.cells #[.int .i64 0, .int .i64 0, (.slice none 0 0), (.slice none 0 0)] 30 (0, 0))) ∧ Aside0 (w'.heap[gb230]? = some (.cells #[.int .i64 (wrap64 ((x7_1.length : Int) + 1)), .int .i64 0, u231002, u231003] 30 (0, 0))) ∧ Aside0 (Below w.heap.size w w'))
          case atStart => exact ⟨(0), (x231003_3), (u231003), eT, H', ⟨Nat.le_refl _⟩, ⟨rQ HO_7⟩, ⟨rQ HO_231002⟩, ⟨rQ HO_231003⟩, ⟨kQ BK215⟩, ⟨kQ BK230⟩, ⟨by repeat (first | (with_reducible first | exact HB.out | apply bA | apply bN | apply bD | refine bS ?_ GE215.out | refine bS ?_ GE230.out) | exact HB.out)⟩⟩
          case round =>
           clear H'
           try clear c1
           try clear c2
           try clear p2
           try clear q2
           try clear hx2
           try clear c3
           try clear c4
           try clear p6
           try clear c7
           try clear c7b0
           try clear c9
           try clear c10
           try clear c11
           try clear c12
           try clear c21
           try clear c23
           try clear c23b0
           try clear p23
           try clear q23
           try clear hx23
           try clear c24
           try clear c24b0
           try clear c25
           try clear c27
           try clear c27b0
           try clear c27b1
           try clear c28
           try clear c33
           try clear c42
           try clear c42b0
           try clear hcz22_0
           try clear hcz22_1
           try clear hcz22_2
           try clear hcz22_3
           try clear hcz34_0
           try clear hcz34_1
           try clear hcz34_2
           try clear hcz34_3
           try clear hcz37_0
           try clear hcz37_1
           try clear hcz37_2
           try clear hcz37_3
           try clear hfz22_0
           try clear hfz22_1
           try clear hfz22_2
           try clear hfz22_3
           try clear hfz34_0
           try clear hfz34_1
           try clear hfz34_2
           try clear hfz34_3
           try clear hfz37_0
           try clear hfz37_1
           try clear hfz37_2
           try clear hfz37_3
           try clear hx231_0
           try clear hx235_0
           try clear p2
           try clear p23
           try clear p231
           try clear p235
           try clear p6
           try clear q2
           try clear q23
           try clear q231
           try clear q235
           obtain ⟨x12_4, x231003_4, u231003, rfl, HA, HK4, HO_7, HO_231002, HO_231003, BK215, BK230, HB⟩ := hrel
           cases gk with
           | zero => exact absurd HA.out (by simp [spec_l07Of.l3])
           | succ k4 =>
            have H := HA.out
            clear HA
            simp only [spec_l07Of.l3] at H
            by_cases c43 : x12_4 < (x7_1.length : Int)
            ·rw [if_pos c43] at H
             have c43b0 : decide (x12_4 < (x7_1.length : Int)) = true := decide_eq_true c43
             clear c43
             by_cases c44 : 0 ≤ x11_3
             ·rw [if_pos c44] at H
              have c44b0 : decide (0 ≤ x11_3) = true := decide_eq_true c44
              clear c44
              by_cases c45 : x11_3 < (x7_1.length : Int)
              ·rw [if_pos c45] at H
               have c45b0 : decide (x11_3 < (x7_1.length : Int)) = true := decide_eq_true c45
               clear c45
               by_cases c46 : 0 ≤ x12_4
               ·rw [if_pos c46] at H
                have c46b0 : decide (0 ≤ x12_4) = true := decide_eq_true c46
                clear c46
                replace H := Option.bind_eq_some_iff.mp H
                obtain ⟨t242, A470, H⟩ := H
                replace H : (if t242 = 0 then (if x231003_4.length < 5864062014805 then (spec_l07Of.l3 k4 x7_1 x11_3 (wrap64 (x12_4 + 1)) a0_0 l0_1 l0_2 a0_3 a0_4 l0_5 (wrap64 ((x7_1.length : Int) + 1)) 0 x231002_2 (x231003_4 ++ [(⟨wrap64 (x11_3 + 1), rd x7_1 x12_4, wrap64 (x12_4 + 1)⟩ : S67)])) else (none)) else (spec_l07Of.l3 k4 x7_1 x11_3 (wrap64 (x12_4 + 1)) a0_0 l0_1 l0_2 a0_3 a0_4 l0_5 (wrap64 ((x7_1.length : Int) + 1)) 0 x231002_2 x231003_4)) = some (r1, r2, r3, r4) := H
                have A47 := Aside0.mk A470
                clear A470
                by_cases c48 : t242 = 0
                ·rw [if_pos c48] at H
                 have c48b0 : (t242 == 0) = true := beq_iff_eq.mpr c48
                 have c48b1 : (t242 != 0) = false := bne_eq_false_iff_eq.mpr c48
                 clear c48
                 by_cases c49 : x231003_4.length < 5864062014805
                 ·rw [if_pos c49] at H
                  have LMc49 := Aside0.mk c49
                  clear c49
                  obtain ⟨y244, hy244⟩ : ∃ y_ : List (S67), y_ = (x231003_4 ++ [(⟨wrap64 (x11_3 + 1), rd x7_1 x12_4, wrap64 (x12_4 + 1)⟩ : S67)]) := ⟨_, rfl⟩
                  replace H : (spec_l07Of.l3 k4 x7_1 x11_3 (wrap64 (x12_4 + 1)) a0_0 l0_1 l0_2 a0_3 a0_4 l0_5 (wrap64 ((x7_1.length : Int) + 1)) 0 x231002_2 y244) = some (r1, r2, r3, r4) := by first | (rw [hy244]; with_reducible exact H) | (have H2_ := (Option.bind_some _ _).symm.trans H; rw [hy244]; with_reducible exact H2_) | (have H2_ := (Option.bind_some _ _).symm.trans H; with_reducible exact H2_) | with_reducible exact H | (rw [hy244]; exact H) | exact H
                  have Ny244 := Aside0.mk hy244
                  clear hy244
                  have H' := Aside0.mk H
                  clear H
                  try go_wp2
                  have n0_ := Aside0.mk (rD HO_7.out)
                  have n1_ := Aside0.mk (rD HO_231002.out)
                  have n2_ := Aside0.mk (rD HO_231003.out)
                  have n3_ := Aside0.mk (kD BK215.out)
                  have n4_ := Aside0.mk (kD BK230.out)
                  have n5_ := Aside0.mk (bD HB.out)
                  clear HO_7
                  clear HO_231002
                  clear HO_231003
                  clear BK215
                  clear BK230
                  clear HB
                  have HO_7 := n0_
                  have HO_231002 := n1_
                  have HO_231003 := n2_
                  have BK215 := n3_
                  have BK230 := n4_
                  have HB := n5_
                  clear n0_ n1_ n2_ n3_ n4_ n5_
                  have p240 : 0 ≤ (x11_3 : Int) := oT
                  have q240 : x11_3 < (x7_1.length : Int) := oT
                  obtain ⟨ad240, e240, hx240_0⟩ := Kd.at_int (Kd.R_reads' HO_7.out).2.2 x11_3 p240 q240
                  cases e240
                  replace p240 := eq_true p240
                  replace q240 := eq_true q240
                  have p241 : 0 ≤ (x12_4 : Int) := oT
                  have q241 : x12_4 < (x7_1.length : Int) := oT
                  obtain ⟨ad241, e241, hx241_0⟩ := Kd.at_int (Kd.R_reads' HO_7.out).2.2 x12_4 p241 q241
                  obtain rfl : ad240 = ad241 := (by injection e241)
                  replace p241 := eq_true p241
                  replace q241 := eq_true q241
                  refine start_ (n := 11) (S := fun w' => w'.cell? (ad240.add (x11_3).toNat) = some (.int .i64 (rd x7_1 x11_3)) ∧ w'.cell? (ad240.add (x12_4).toNat) = some (.int .i64 (rd x7_1 x12_4))) (ds := []) #[F,F,F,F,F,F,F,F,F,F,F] (by kernel_rfl) rfl rfl ⟨hx240_0, hx241_0⟩ (fun hHeld => ?_); refine with_tabW spec_l07Of.tab20 spec_l07Of.bits20 (fun HT_ HW_ => ?_)
                  generalize wr.drew = w50 at HO_7 HO_231002 HO_231003 BK215 BK230 HB hx240_0 hx241_0 hHeld ⊢
                  refine pure_ (i := 0) (N := some 77) (v := ?_) (a' := ?_) #[T,F,F,F,F,F,F,F,F,F,F] rfl rfl (any_of HT_.out (by kernel_rfl)) (fun _ _ _ h => h) (Or.inl ⟨by rfl, ?_⟩) ?_ ?_; rotate_left; (·intro w'; go_simp; with_reducible rfl); rotate_left; (·simp only [Act.put, sI, sZ, sS, iW, jW]; rfl)
                  refine pure_ (i := 1) (N := some 78) (v := ?_) (a' := ?_) #[T,T,F,F,F,F,F,F,F,F,F] rfl rfl (any_of HT_.out (by kernel_rfl)) (fun _ _ _ h => h) (Or.inl ⟨by rfl, ?_⟩) ?_ ?_; rotate_left; (·intro w'; go_simp; with_reducible rfl); rotate_left; (·simp only [Act.put, sI, sZ, sS, iW, jW]; rfl)
                  refine pure_ (i := 2) (N := some 79) (v := ?_) (a' := ?_) #[T,T,T,F,F,F,F,F,F,F,F] rfl rfl (any_of HT_.out (by kernel_rfl)) (fun _ _ _ h => h) (Or.inl ⟨by rfl, ?_⟩) ?_ ?_; rotate_left; (·intro w'; go_simp; with_reducible rfl); rotate_left; (·simp only [Act.put, sI, sZ, sS, iW, jW]; rfl)
                  refine pure_ (i := 3) (N := some 80) (v := ?_) (a' := ?_) #[T,T,T,T,F,F,F,F,F,F,F] rfl rfl (any_of HT_.out (by kernel_rfl)) (fun _ _ _ h => h) (Or.inl ⟨by rfl, ?_⟩) ?_ ?_; rotate_left; (·intro w'; go_simp; with_reducible rfl); rotate_left; (·simp only [Act.put, sI, sZ, sS, iW, jW]; rfl)
                  refine pure_ (i := 5) (N := some 82) (v := ?_) (a' := ?_) #[T,T,T,T,F,T,F,F,F,F,F] rfl rfl (any_of HT_.out (by kernel_rfl)) (fun _ _ _ h => h) (Or.inl ⟨by rfl, ?_⟩) ?_ ?_; rotate_left; (·intro w'; go_simp; with_reducible rfl); rotate_left; (·simp only [Act.put, sI, sZ, sS, iW, jW]; rfl)
                  refine pure_ (i := 6) (N := some 83) (v := ?_) (a' := ?_) #[T,T,T,T,F,T,T,F,F,F,F] rfl rfl (any_of HT_.out (by kernel_rfl)) (fun _ _ _ h => h) (Or.inl ⟨by rfl, ?_⟩) ?_ ?_; rotate_left; (·intro w'; go_simp; with_reducible rfl); rotate_left; (·simp only [Act.put, sI, sZ, sS, iW, jW]; rfl)
                  refine pure_ (i := 7) (N := some 84) (v := ?_) (a' := ?_) #[T,T,T,T,F,T,T,T,F,F,F] rfl rfl (any_of HT_.out (by kernel_rfl)) (fun _ _ _ h => h) (Or.inl ⟨by rfl, ?_⟩) ?_ ?_; rotate_left; (·intro w'; go_simp; with_reducible rfl); rotate_left; (·simp only [Act.put, sI, sZ, sS, iW, jW]; rfl)
                  refine take_ (i := 4) (N := some 81) (v := ?_) (a' := ?_) #[T,T,T,T,T,T,T,T,F,F,F] rfl rfl (tW HT_.out HW_.out (by kernel_rfl)) (fun _ _ _ h => h) (Or.inl ⟨by rfl, ?_⟩) hHeld ?_ ?_; rotate_left; (·rintro w' ⟨s0, s1⟩; go_simp; with_reducible rfl); rotate_left; (·simp only [Act.put, sI, sZ, sS, iW, jW]; rfl)
                  refine take_ (i := 8) (N := some 85) (v := ?_) (a' := ?_) #[T,T,T,T,T,T,T,T,T,F,F] rfl rfl (tW HT_.out HW_.out (by kernel_rfl)) (fun _ _ _ h => h) (Or.inl ⟨by rfl, ?_⟩) hHeld ?_ ?_; rotate_left; (·rintro w' ⟨s0, s1⟩; go_simp; with_reducible rfl); rotate_left; (·simp only [Act.put, sI, sZ, sS, iW, jW]; rfl)
                  refine one_ (i := 9) (N := some 86) #[T,T,T,T,T,T,T,T,T,T,F] rfl rfl (oO HT_.out (by kernel_rfl)) (by decide) (fun K hK => ?_)
                  refine goes_ Try.func121 (by kernel_rfl) rfl #[.pointer (some adp0), .int .i64 (rd x7_1 x11_3), .int .i64 (rd x7_1 x12_4)] (by rfl) rfl rfl lQ ?_
                  with_reducible refine (spec_l05Reason.calls k4 adp0 a0_0 l0_1 l0_2 a0_3 a0_4 l0_5 (rd x7_1 x11_3) (rd x7_1 x12_4) t242 _ ?side1 A47.out).mono ?_
                  (case side1 => exact cP (cB HRp0.out HB.out))
                  rintro e w' ⟨rfl, ⟨nd, rfl⟩⟩
                  refine ⟨_, rfl, ?_⟩
                  refine hK.out _ _ ⟨hHeld.1, hHeld.2⟩ (fun hHeld => ?_)
                  clear hK K
                  refine norm_ (a' := ?_) ?_ ?_
                  rotate_left
                  ·show Act.put _ (some 86) _ = _
                   simp only [Act.put, sI, sZ, sS, iW, jW]
                   rfl
                  refine pure_ (i := 10) (N := some 87) (v := ?_) (a' := ?_) #[T,T,T,T,T,T,T,T,T,T,T] rfl rfl (any_of HT_.out (by kernel_rfl)) (fun _ _ _ h => h) (Or.inl ⟨by rfl, ?_⟩) ?_ ?_; rotate_left; (·intro w'; go_simp; with_reducible rfl); rotate_left; (·simp only [Act.put, sI, sZ, sS, iW, jW]; rfl)
                  refine done_ (done_of HT_.out (by kernel_rfl)) ?_
                  try go_wp2
                  (try (rw [drewN_self w50]; generalize hq_ : World.drewN w50 _ = w50; have n0_ : Aside0 (Kd.R (Kd.int .i64) 2 w50 w.heap.size (fun k_ => some k_ ≠ (.slice (some ad240) x7_1.length co13 : Value).ownBlock) u231002 x231002_2) := ⟨by rw [← hq_]; exact (rQ HO_231002)⟩; have n1_ : Aside0 (Kd.R k67 67 w50 w.heap.size (fun _ => True) u231003 x231003_4) := ⟨by rw [← hq_]; exact (rQ HO_231003)⟩; have n2_ : Aside0 (Kd.R (Kd.int .i64) 2 w50 w.heap.size (fun k_ => some k_ ≠ (u231002 : Value).ownBlock) (.slice (some ad240) x7_1.length co13) x7_1) := ⟨by rw [← hq_]; exact (rQ HO_7)⟩; have n3_ : Aside0 (w50.heap[gb215]? = some (.cells #[.int .i64 0, .int .i64 0, .slice none 0 0, .slice none 0 0] 30 (0, 0))) := ⟨by rw [← hq_]; exact (kQ BK215)⟩; have n4_ : Aside0 (w50.heap[gb230]? = some (.cells #[.int .i64 (wrap64 ((x7_1.length : Int) + 1)), .int .i64 0, u231002, u231003] 30 (0, 0))) := ⟨by rw [← hq_]; exact (kQ BK230)⟩; have n5_ : Aside0 (Below w.heap.size w w50) := ⟨by rw [← hq_]; exact (by repeat (first | (with_reducible first | exact HB.out | apply bA | apply bN | apply bD | refine bS ?_ GE215.out | refine bS ?_ GE230.out) | exact HB.out))⟩; clear HO_231002 HO_231003 HO_7 BK215 BK230 HB hq_; have HO_231002 := n0_; have HO_231003 := n1_; have HO_7 := n2_; have BK215 := n3_; have BK230 := n4_; have HB := n5_; clear n0_ n1_ n2_ n3_ n4_ n5_))
                  have n0_ := Aside0.mk (rD HO_7.out)
                  have n1_ := Aside0.mk (rD HO_231002.out)
                  have n2_ := Aside0.mk (rD HO_231003.out)
                  have n3_ := Aside0.mk (kD BK215.out)
                  have n4_ := Aside0.mk (kD BK230.out)
                  have n5_ := Aside0.mk (bD HB.out)
                  clear HO_7
                  clear HO_231002
                  clear HO_231003
                  clear BK215
                  clear BK230
                  clear HB
                  have HO_7 := n0_
                  have HO_231002 := n1_
                  have HO_231003 := n2_
                  have BK215 := n3_
                  have BK230 := n4_
                  have HB := n5_
                  clear n0_ n1_ n2_ n3_ n4_ n5_
                  have p243 : 0 ≤ (x12_4 : Int) := oT
                  have q243 : x12_4 < (x7_1.length : Int) := oT
                  obtain ⟨ad243, e243, hx243_0⟩ := Kd.at_int (Kd.R_reads' HO_7.out).2.2 x12_4 p243 q243
                  obtain rfl : ad240 = ad243 := (by injection e243)
                  replace p243 := eq_true p243
                  replace q243 := eq_true q243
                  refine start_ (n := 15) (S := fun w' => w'.cell? ⟨gb230, 0, none⟩ = some (.int .i64 (wrap64 ((x7_1.length : Int) + 1))) ∧ w'.cell? ⟨gb230, 1, none⟩ = some (.int .i64 0) ∧ w'.cell? ⟨gb230, 2, none⟩ = some (u231002) ∧ w'.cell? ⟨gb230, 3, none⟩ = some (u231003) ∧ w'.cell? (ad240.add (x12_4).toNat) = some (.int .i64 (rd x7_1 x12_4))) (ds := [12, 14]) #[F,F,F,F,F,F,F,F,F,F,F,F,F,F,F] (by kernel_rfl) rfl rfl ⟨(kC BK230.out 0).trans rfl, (kC BK230.out 1).trans rfl, (kC BK230.out 2).trans rfl, (kC BK230.out 3).trans rfl, hx243_0⟩ (fun hHeld => ?_); refine with_tabW spec_l07Of.tab21 spec_l07Of.bits21 (fun HT_ HW_ => ?_)
                  generalize w50.drew = w51 at HO_7 HO_231002 HO_231003 BK215 BK230 HB hx243_0 hHeld ⊢
                  refine pure_ (i := 0) (N := some 88) (v := ?_) (a' := ?_) #[T,F,F,F,F,F,F,F,F,F,F,F,F,F,F] rfl rfl (any_of HT_.out (by kernel_rfl)) (fun _ _ _ h => h) (Or.inl ⟨by rfl, ?_⟩) ?_ ?_; rotate_left; (·intro w'; go_simp; with_reducible rfl); rotate_left; (·simp only [Act.put, sI, sZ, sS, iW, jW]; rfl)
                  refine pure_ (i := 2) (N := some 90) (v := ?_) (a' := ?_) #[T,F,T,F,F,F,F,F,F,F,F,F,F,F,F] rfl rfl (any_of HT_.out (by kernel_rfl)) (fun _ _ _ h => h) (Or.inl ⟨by rfl, ?_⟩) ?_ ?_; rotate_left; (·intro w'; go_simp; with_reducible rfl); rotate_left; (·simp only [Act.put, sI, sZ, sS, iW, jW]; rfl)
                  refine pure_ (i := 3) (N := some 91) (v := ?_) (a' := ?_) #[T,F,T,T,F,F,F,F,F,F,F,F,F,F,F] rfl rfl (any_of HT_.out (by kernel_rfl)) (fun _ _ _ h => h) (Or.inl ⟨by rfl, ?_⟩) ?_ ?_; rotate_left; (·intro w'; go_simp; with_reducible rfl); rotate_left; (·simp only [Act.put, sI, sZ, sS, iW, jW]; rfl)
                  refine pure_ (i := 4) (N := some 92) (v := ?_) (a' := ?_) #[T,F,T,T,T,F,F,F,F,F,F,F,F,F,F] rfl rfl (any_of HT_.out (by kernel_rfl)) (fun _ _ _ h => h) (Or.inl ⟨by rfl, ?_⟩) ?_ ?_; rotate_left; (·intro w'; go_simp; with_reducible rfl); rotate_left; (·simp only [Act.put, sI, sZ, sS, iW, jW]; rfl)
                  refine pure_ (i := 5) (N := some 93) (v := ?_) (a' := ?_) #[T,F,T,T,T,T,F,F,F,F,F,F,F,F,F] rfl rfl (any_of HT_.out (by kernel_rfl)) (fun _ _ _ h => h) (Or.inl ⟨by rfl, ?_⟩) ?_ ?_; rotate_left; (·intro w'; go_simp; with_reducible rfl); rotate_left; (·simp only [Act.put, sI, sZ, sS, iW, jW]; rfl)
                  refine pure_ (i := 6) (N := some 94) (v := ?_) (a' := ?_) #[T,F,T,T,T,T,T,F,F,F,F,F,F,F,F] rfl rfl (any_of HT_.out (by kernel_rfl)) (fun _ _ _ h => h) (Or.inl ⟨by rfl, ?_⟩) ?_ ?_; rotate_left; (·intro w'; go_simp; with_reducible rfl); rotate_left; (·simp only [Act.put, sI, sZ, sS, iW, jW]; rfl)
                  refine pure_ (i := 8) (N := some 96) (v := ?_) (a' := ?_) #[T,F,T,T,T,T,T,F,T,F,F,F,F,F,F] rfl rfl (any_of HT_.out (by kernel_rfl)) (fun _ _ _ h => h) (Or.inl ⟨by rfl, ?_⟩) ?_ ?_; rotate_left; (·intro w'; go_simp; with_reducible rfl); rotate_left; (·simp only [Act.put, sI, sZ, sS, iW, jW]; rfl)
                  refine pure_ (i := 9) (N := some 97) (v := ?_) (a' := ?_) #[T,F,T,T,T,T,T,F,T,T,F,F,F,F,F] rfl rfl (any_of HT_.out (by kernel_rfl)) (fun _ _ _ h => h) (Or.inl ⟨by rfl, ?_⟩) ?_ ?_; rotate_left; (·intro w'; go_simp; with_reducible rfl); rotate_left; (·simp only [Act.put, sI, sZ, sS, iW, jW]; rfl)
                  refine take_ (i := 1) (N := some 89) (v := ?_) (a' := ?_) #[T,T,T,T,T,T,T,F,T,T,F,F,F,F,F] rfl rfl (tW HT_.out HW_.out (by kernel_rfl)) (fun _ _ _ h => h) (Or.inl ⟨by rfl, ?_⟩) hHeld ?_ ?_; rotate_left; (·rintro w' ⟨s0, s1, s2, s3, s4⟩; go_simp; with_reducible rfl); rotate_left; (·simp only [Act.put, sI, sZ, sS, iW, jW]; rfl)
                  refine take_ (i := 7) (N := some 95) (v := ?_) (a' := ?_) #[T,T,T,T,T,T,T,T,T,T,F,F,F,F,F] rfl rfl (tW HT_.out HW_.out (by kernel_rfl)) (fun _ _ _ h => h) (Or.inl ⟨by rfl, ?_⟩) hHeld ?_ ?_; rotate_left; (·rintro w' ⟨s0, s1, s2, s3, s4⟩; go_simp; with_reducible rfl); rotate_left; (·simp only [Act.put, sI, sZ, sS, iW, jW]; rfl)
                  refine pure_ (i := 10) (N := some 98) (v := ?_) (a' := ?_) #[T,T,T,T,T,T,T,T,T,T,T,F,F,F,F] rfl rfl (any_of HT_.out (by kernel_rfl)) (fun _ _ _ h => h) (Or.inl ⟨by rfl, ?_⟩) ?_ ?_; rotate_left; (·intro w'; go_simp; with_reducible rfl); rotate_left; (·simp only [Act.put, sI, sZ, sS, iW, jW]; rfl)
                  refine one_ (i := 11) (N := some 99) #[T,T,T,T,T,T,T,T,T,T,T,T,F,F,F] rfl rfl (oO HT_.out (by kernel_rfl)) (by decide) (fun K hK => ?_)
                  refine value_ (w1 := ?_) (v := ?_) (by rfl) rfl ?_ ?_
                  rotate_left 2
                  ·go_simp
                   constructor
                   ·rfl
                   ·rfl
                  refine hK.out _ _ ⟨(kC (kA BK230.out _) 0).trans rfl, (kC (kA BK230.out _) 1).trans rfl, (kC (kA BK230.out _) 2).trans rfl, (kC (kA BK230.out _) 3).trans rfl, (World.cell?_alloc_lt _ _ _ (World.block_lt_of_cell? _ _ (hHeld.2.2.2.2))).trans (hHeld.2.2.2.2)⟩ (fun hHeld => ?_)
                  clear hK K
                  refine norm_ (a' := ?_) ?_ ?_
                  rotate_left
                  ·show Act.put _ (some 99) _ = _
                   simp only [Act.put, sI, sZ, sS, iW, jW]
                   rfl
                  refine last_ (i := 12) (N := some 100) #[T,T,T,T,T,T,T,T,T,T,T,T,T,F,F] rfl rfl (oO HT_.out (by kernel_rfl)) (by decide) (fun K hK => ?_)
                  refine Kd.R_append_step k67 (w0 := w) w.heap.size (by rfl) (.tmp 89) (.tmp 99) 28 67 (.agg #[(.int .i64 0), (.int .i64 0), (.int .i64 0)]) 24 rfl Try.underlying28 info67 rfl (by decide) (by omega) u231003 x231003_4 (⟨wrap64 (x11_3 + 1), rd x7_1 x12_4, wrap64 (x12_4 + 1)⟩ : S67) [.int .i64 (wrap64 (x11_3 + 1)), .int .i64 (rd x7_1 x12_4), .int .i64 (wrap64 (x12_4 + 1))] (fun _ => True) (fun _ => False) rfl rfl ?aP (fun _ hk => hk.elim) ?aF ?aO ?aB ?aS ?aL ?_
                  (case aP => exact k67_mkM _ _ _ (⟨wrap64 (x11_3 + 1), rd x7_1 x12_4, wrap64 (x12_4 + 1)⟩ : S67))
                  (case aB => exact (by repeat (first | (with_reducible first | exact HB.out | apply bA | apply bN | apply bD | refine bS ?_ GE215.out | refine bS ?_ GE230.out) | exact HB.out)))
                  (case aF => exact (fun _ _ => trivial))
                  (case aO => exact (rQ HO_231003))
                  (case aS => exact (bZ (by repeat (first | (with_reducible first | exact HB.out | apply bA | apply bN | apply bD | refine bS ?_ GE215.out | refine bS ?_ GE230.out) | exact HB.out))))
                  (case aL => have := LMc49.out; omega)
                  intro v245 w52 ho hb hg hat
                  rw [← Ny244.out] at ho
                  have n0_ := Aside0.mk (Kd.R_over' (rQ HO_7) (Kd.R_typed (rQ HO_231003)) (by decide) hg)
                  have n1_ := Aside0.mk (Kd.R_over' (rQ HO_231002) (Kd.R_typed (rQ HO_231003)) (by decide) hg)
                  have n2_ := Aside0.mk (blk_grown (kQ BK215) hg (Kd.R_ne HO_231003.out BK215.out (by decide)))
                  have n3_ := Aside0.mk (blk_grown (kQ BK230) hg (Kd.R_ne HO_231003.out BK230.out (by decide)))
                  have n4_ := Aside0.mk (hb)
                  have n5_ := Aside0.mk (ho)
                  clear HO_7
                  clear HO_231002
                  clear BK215
                  clear BK230
                  clear HB
                  clear HO_231003
                  have HO_7 := n0_
                  have HO_231002 := n1_
                  have BK215 := n2_
                  have BK230 := n3_
                  have HB := n4_
                  have HO246 := n5_
                  clear n0_ n1_ n2_ n3_ n4_ n5_
                  clear ho hb hg hat
                  obtain ⟨Ao53, co53, eo53⟩ := Kd.R_slice HO246.out
                  (first | subst eo53 | (injection eo53 with f1_ f2_ f3_; have f4_ := f1_.symm; have f5_ := f3_.symm; clear f1_ f2_ f3_; subst f4_; subst f5_))
                  refine hK.out _ _ ?_
                  clear hK K
                  refine norm_ (a' := ?_) ?_ ?_
                  rotate_left
                  ·show Act.put _ (some 100) _ = _
                   simp only [Act.put, sI, sZ, sS, iW, jW]
                   rfl
                  refine pure_ (i := 13) (N := some 101) (v := ?_) (a' := ?_) #[T,T,T,T,T,T,T,T,T,T,T,T,T,T,F] rfl rfl (any_of HT_.out (by kernel_rfl)) (fun _ _ _ h => h) (Or.inl ⟨by rfl, ?_⟩) ?_ ?_; rotate_left; (·intro w'; go_simp; with_reducible rfl); rotate_left; (·simp only [Act.put, sI, sZ, sS, iW, jW]; rfl)
                  refine last_ (i := 14) (N := none) #[T,T,T,T,T,T,T,T,T,T,T,T,T,T,T] rfl rfl (oO HT_.out (by kernel_rfl)) (by decide) (fun K hK => ?_)
                  have hs54 : w52.cell? ⟨gb230, 3, none⟩ = some (u231003) := (kC BK230.out 3).trans rfl
                  have hfs54 := blk_frozen BK230.out 3
                  have hns54_0 := NB215_230.out
                  have hms54_0 := NB230_215.out
                  refine skip_ (w1 := ?_) (by rfl) rfl ?_ ?_
                  rotate_left
                  ·go_simp
                   rfl
                  refine hK.out _ _ ?_
                  clear hK K
                  refine done_ (done_of HT_.out (by kernel_rfl)) ?_
                  try go_wp2
                  go_roundg k4
                  case measure => have := HK1.out; have := HK2.out; have := HK3.out; have := HK4.out; omega
                  case rel => exact ⟨(wrap64 (x12_4 + 1)), (y244), (.slice Ao53 y244.length co53), eT, H', ⟨by have := HK1.out; have := HK2.out; have := HK3.out; have := HK4.out; omega⟩, ⟨by (with_reducible repeat (first | apply rA | apply rN | apply rD)); exact rM (Kd.R_far (p := ⟨gb230, 3, none⟩) (Kd.R_types HO_7.out BK230.out (by decide)) (fun _ hk => hk.2) (.slice Ao53 y244.length co53)) (fun _ hk => hk.1)⟩, ⟨by (with_reducible repeat (first | apply rA | apply rN | apply rD)); exact rM (Kd.R_far (p := ⟨gb230, 3, none⟩) (Kd.R_types HO_231002.out BK230.out (by decide)) (fun _ hk => hk.2) (.slice Ao53 y244.length co53)) (fun _ hk => hk.1)⟩, ⟨by (with_reducible repeat (first | apply rA | apply rN | apply rD)); exact rM (Kd.R_far (p := ⟨gb230, 3, none⟩) (Kd.R_types HO246.out BK230.out (by decide)) (fun _ hk => hk.2) (.slice Ao53 y244.length co53)) (fun _ hk => trivial)⟩, ⟨by (with_reducible repeat (first | refine kN ?_ _ | refine kD ?_ | refine kA ?_ _)); refine kF ?_ NB215_230.out _; (with_reducible repeat (first | refine kN ?_ _ | refine kD ?_ | refine kA ?_ _)); exact BK215.out⟩, ⟨by (with_reducible repeat (first | refine kN ?_ _ | refine kD ?_ | refine kA ?_ _)); refine blk_put (cs := #[.int .i64 (wrap64 ((x7_1.length : Int) + 1)), .int .i64 0, u231002, u231003]) ?_ 3 _ rfl; (with_reducible repeat (first | refine kN ?_ _ | refine kD ?_ | refine kA ?_ _)); exact BK230.out⟩, ⟨by repeat (first | (with_reducible first | exact HB.out | apply bA | apply bN | apply bD | refine bS ?_ GE215.out | refine bS ?_ GE230.out) | exact HB.out)⟩⟩
                 ·rw [if_neg c49] at H
                  exact absurd H (by simp)
                ·rw [if_neg c48] at H
                 have c48b0 : (t242 == 0) = false := beq_eq_false_iff_ne.mpr c48
                 have c48b1 : (t242 != 0) = true := bne_iff_ne.mpr c48
                 have H' := Aside0.mk H
                 clear H
                 try go_wp2
                 have n0_ := Aside0.mk (rD HO_7.out)
                 have n1_ := Aside0.mk (rD HO_231002.out)
                 have n2_ := Aside0.mk (rD HO_231003.out)
                 have n3_ := Aside0.mk (kD BK215.out)
                 have n4_ := Aside0.mk (kD BK230.out)
                 have n5_ := Aside0.mk (bD HB.out)
                 clear HO_7
                 clear HO_231002
                 clear HO_231003
                 clear BK215
                 clear BK230
                 clear HB
                 have HO_7 := n0_
                 have HO_231002 := n1_
                 have HO_231003 := n2_
                 have BK215 := n3_
                 have BK230 := n4_
                 have HB := n5_
                 clear n0_ n1_ n2_ n3_ n4_ n5_
                 have p240 : 0 ≤ (x11_3 : Int) := oT
                 have q240 : x11_3 < (x7_1.length : Int) := oT
                 obtain ⟨ad240, e240, hx240_0⟩ := Kd.at_int (Kd.R_reads' HO_7.out).2.2 x11_3 p240 q240
                 cases e240
                 replace p240 := eq_true p240
                 replace q240 := eq_true q240
                 have p241 : 0 ≤ (x12_4 : Int) := oT
                 have q241 : x12_4 < (x7_1.length : Int) := oT
                 obtain ⟨ad241, e241, hx241_0⟩ := Kd.at_int (Kd.R_reads' HO_7.out).2.2 x12_4 p241 q241
                 obtain rfl : ad240 = ad241 := (by injection e241)
                 replace p241 := eq_true p241
                 replace q241 := eq_true q241
                 refine start_ (n := 11) (S := fun w' => w'.cell? (ad240.add (x11_3).toNat) = some (.int .i64 (rd x7_1 x11_3)) ∧ w'.cell? (ad240.add (x12_4).toNat) = some (.int .i64 (rd x7_1 x12_4))) (ds := []) #[F,F,F,F,F,F,F,F,F,F,F] (by kernel_rfl) rfl rfl ⟨hx240_0, hx241_0⟩ (fun hHeld => ?_); refine with_tabW spec_l07Of.tab20 spec_l07Of.bits20 (fun HT_ HW_ => ?_)
                 generalize wr.drew = w55 at HO_7 HO_231002 HO_231003 BK215 BK230 HB hx240_0 hx241_0 hHeld ⊢
                 refine pure_ (i := 0) (N := some 77) (v := ?_) (a' := ?_) #[T,F,F,F,F,F,F,F,F,F,F] rfl rfl (any_of HT_.out (by kernel_rfl)) (fun _ _ _ h => h) (Or.inl ⟨by rfl, ?_⟩) ?_ ?_; rotate_left; (·intro w'; go_simp; with_reducible rfl); rotate_left; (·simp only [Act.put, sI, sZ, sS, iW, jW]; rfl)
                 refine pure_ (i := 1) (N := some 78) (v := ?_) (a' := ?_) #[T,T,F,F,F,F,F,F,F,F,F] rfl rfl (any_of HT_.out (by kernel_rfl)) (fun _ _ _ h => h) (Or.inl ⟨by rfl, ?_⟩) ?_ ?_; rotate_left; (·intro w'; go_simp; with_reducible rfl); rotate_left; (·simp only [Act.put, sI, sZ, sS, iW, jW]; rfl)
                 refine pure_ (i := 2) (N := some 79) (v := ?_) (a' := ?_) #[T,T,T,F,F,F,F,F,F,F,F] rfl rfl (any_of HT_.out (by kernel_rfl)) (fun _ _ _ h => h) (Or.inl ⟨by rfl, ?_⟩) ?_ ?_; rotate_left; (·intro w'; go_simp; with_reducible rfl); rotate_left; (·simp only [Act.put, sI, sZ, sS, iW, jW]; rfl)
                 refine pure_ (i := 3) (N := some 80) (v := ?_) (a' := ?_) #[T,T,T,T,F,F,F,F,F,F,F] rfl rfl (any_of HT_.out (by kernel_rfl)) (fun _ _ _ h => h) (Or.inl ⟨by rfl, ?_⟩) ?_ ?_; rotate_left; (·intro w'; go_simp; with_reducible rfl); rotate_left; (·simp only [Act.put, sI, sZ, sS, iW, jW]; rfl)
                 refine pure_ (i := 5) (N := some 82) (v := ?_) (a' := ?_) #[T,T,T,T,F,T,F,F,F,F,F] rfl rfl (any_of HT_.out (by kernel_rfl)) (fun _ _ _ h => h) (Or.inl ⟨by rfl, ?_⟩) ?_ ?_; rotate_left; (·intro w'; go_simp; with_reducible rfl); rotate_left; (·simp only [Act.put, sI, sZ, sS, iW, jW]; rfl)
                 refine pure_ (i := 6) (N := some 83) (v := ?_) (a' := ?_) #[T,T,T,T,F,T,T,F,F,F,F] rfl rfl (any_of HT_.out (by kernel_rfl)) (fun _ _ _ h => h) (Or.inl ⟨by rfl, ?_⟩) ?_ ?_; rotate_left; (·intro w'; go_simp; with_reducible rfl); rotate_left; (·simp only [Act.put, sI, sZ, sS, iW, jW]; rfl)
                 refine pure_ (i := 7) (N := some 84) (v := ?_) (a' := ?_) #[T,T,T,T,F,T,T,T,F,F,F] rfl rfl (any_of HT_.out (by kernel_rfl)) (fun _ _ _ h => h) (Or.inl ⟨by rfl, ?_⟩) ?_ ?_; rotate_left; (·intro w'; go_simp; with_reducible rfl); rotate_left; (·simp only [Act.put, sI, sZ, sS, iW, jW]; rfl)
                 refine take_ (i := 4) (N := some 81) (v := ?_) (a' := ?_) #[T,T,T,T,T,T,T,T,F,F,F] rfl rfl (tW HT_.out HW_.out (by kernel_rfl)) (fun _ _ _ h => h) (Or.inl ⟨by rfl, ?_⟩) hHeld ?_ ?_; rotate_left; (·rintro w' ⟨s0, s1⟩; go_simp; with_reducible rfl); rotate_left; (·simp only [Act.put, sI, sZ, sS, iW, jW]; rfl)
                 refine take_ (i := 8) (N := some 85) (v := ?_) (a' := ?_) #[T,T,T,T,T,T,T,T,T,F,F] rfl rfl (tW HT_.out HW_.out (by kernel_rfl)) (fun _ _ _ h => h) (Or.inl ⟨by rfl, ?_⟩) hHeld ?_ ?_; rotate_left; (·rintro w' ⟨s0, s1⟩; go_simp; with_reducible rfl); rotate_left; (·simp only [Act.put, sI, sZ, sS, iW, jW]; rfl)
                 refine one_ (i := 9) (N := some 86) #[T,T,T,T,T,T,T,T,T,T,F] rfl rfl (oO HT_.out (by kernel_rfl)) (by decide) (fun K hK => ?_)
                 refine goes_ Try.func121 (by kernel_rfl) rfl #[.pointer (some adp0), .int .i64 (rd x7_1 x11_3), .int .i64 (rd x7_1 x12_4)] (by rfl) rfl rfl lQ ?_
                 with_reducible refine (spec_l05Reason.calls k4 adp0 a0_0 l0_1 l0_2 a0_3 a0_4 l0_5 (rd x7_1 x11_3) (rd x7_1 x12_4) t242 _ ?side1 A47.out).mono ?_
                 (case side1 => exact cP (cB HRp0.out HB.out))
                 rintro e w' ⟨rfl, ⟨nd, rfl⟩⟩
                 refine ⟨_, rfl, ?_⟩
                 refine hK.out _ _ ⟨hHeld.1, hHeld.2⟩ (fun hHeld => ?_)
                 clear hK K
                 refine norm_ (a' := ?_) ?_ ?_
                 rotate_left
                 ·show Act.put _ (some 86) _ = _
                  simp only [Act.put, sI, sZ, sS, iW, jW]
                  rfl
                 refine pure_ (i := 10) (N := some 87) (v := ?_) (a' := ?_) #[T,T,T,T,T,T,T,T,T,T,T] rfl rfl (any_of HT_.out (by kernel_rfl)) (fun _ _ _ h => h) (Or.inl ⟨by rfl, ?_⟩) ?_ ?_; rotate_left; (·intro w'; go_simp; with_reducible rfl); rotate_left; (·simp only [Act.put, sI, sZ, sS, iW, jW]; rfl)
                 refine done_ (done_of HT_.out (by kernel_rfl)) ?_
                 try go_wp2
                 go_roundg k4
                 case measure => have := HK1.out; have := HK2.out; have := HK3.out; have := HK4.out; omega
                 case rel => exact ⟨(wrap64 (x12_4 + 1)), (x231003_4), (u231003), eT, H', ⟨by have := HK1.out; have := HK2.out; have := HK3.out; have := HK4.out; omega⟩, ⟨rQ HO_7⟩, ⟨rQ HO_231002⟩, ⟨rQ HO_231003⟩, ⟨kQ BK215⟩, ⟨kQ BK230⟩, ⟨by repeat (first | (with_reducible first | exact HB.out | apply bA | apply bN | apply bD | refine bS ?_ GE215.out | refine bS ?_ GE230.out) | exact HB.out)⟩⟩
               ·rw [if_neg c46] at H
                exact absurd H (by simp)
              ·rw [if_neg c45] at H
               exact absurd H (by simp)
             ·rw [if_neg c44] at H
              exact absurd H (by simp)
            ·rw [if_neg c43] at H
             have c43b0 : decide (x12_4 < (x7_1.length : Int)) = false := decide_eq_false c43
             clear c43
             have H' := Aside0.mk H
             clear H
             go_wp2
             go_roundg k4
             case measure => have := HK1.out; have := HK2.out; have := HK3.out; have := HK4.out; omega
             case rel => exact ⟨(wrap64 (x11_3 + 1)), (x231003_4), (u231003), eT, H', ⟨by have := HK1.out; have := HK2.out; have := HK3.out; have := HK4.out; omega⟩, ⟨rQ HO_7⟩, ⟨rQ HO_231002⟩, ⟨rQ HO_231003⟩, ⟨kQ BK215⟩, ⟨kQ BK230⟩, ⟨by repeat (first | (with_reducible first | exact HB.out | apply bA | apply bN | apply bD | refine bS ?_ GE215.out | refine bS ?_ GE230.out) | exact HB.out)⟩⟩
         ·rw [if_neg c42] at H
          have c42b0 : decide (x11_3 < (x7_1.length : Int)) = false := decide_eq_false c42
          clear c42
          simp only [Option.some.injEq, Prod.mk.injEq] at H
          obtain ⟨rfl, rfl, rfl, rfl⟩ := H
          have hnb56 := NB230_215.out
          have hnc56 := NB215_230.out
          have hcz57_0 : wr.cell? ⟨gb230, 0, none⟩ = some (.int .i64 (wrap64 ((x7_1.length : Int) + 1))) := (kC BK230.out 0).trans rfl
          have hcz57_1 : wr.cell? ⟨gb230, 1, none⟩ = some (.int .i64 0) := (kC BK230.out 1).trans rfl
          have hcz57_2 : wr.cell? ⟨gb230, 2, none⟩ = some (u231002) := (kC BK230.out 2).trans rfl
          have hcz57_3 : wr.cell? ⟨gb230, 3, none⟩ = some (u231003) := (kC BK230.out 3).trans rfl
          obtain ⟨hfz57_0, hfz57_1, hfz57_2, hfz57_3⟩ := fZ4 BK230.out
          obtain ⟨hcz58_0, hcz58_1, hcz58_2, hcz58_3⟩ := cZ4 BK215.out
          obtain ⟨hfz58_0, hfz58_1, hfz58_2, hfz58_3⟩ := fZ4 BK215.out
          obtain ⟨Ao59, co59, eo59⟩ := Kd.R_slice HO_231002.out
          subst eo59
          obtain ⟨Ao60, co60, eo60⟩ := Kd.R_slice HO_231003.out
          subst eo60
          go_wp2
          refine bodyPost_ret (results_cell_row rfl _ _ gb215 30 #[.int .i64 (wrap64 ((x7_1.length : Int) + 1)), .int .i64 0, .slice Ao59 x231002_2.length co59, .slice Ao60 x231003_3.length co60] (0, 0) _ rfl (by (with_reducible repeat (first | refine kN ?_ _ | refine kD ?_ | refine kA ?_ _)); refine blk_put (cs := #[.int .i64 (wrap64 ((x7_1.length : Int) + 1)), .int .i64 0, .slice Ao59 x231002_2.length co59, .slice none 0 0]) ?_ 3 _ rfl; (with_reducible repeat (first | refine kN ?_ _ | refine kD ?_ | refine kA ?_ _)); refine blk_put (cs := #[.int .i64 (wrap64 ((x7_1.length : Int) + 1)), .int .i64 0, .slice none 0 0, .slice none 0 0]) ?_ 2 _ rfl; (with_reducible repeat (first | refine kN ?_ _ | refine kD ?_ | refine kA ?_ _)); refine blk_put (cs := #[.int .i64 (wrap64 ((x7_1.length : Int) + 1)), .int .i64 0, .slice none 0 0, .slice none 0 0]) ?_ 1 _ rfl; (with_reducible repeat (first | refine kN ?_ _ | refine kD ?_ | refine kA ?_ _)); refine blk_put (cs := #[.int .i64 0, .int .i64 0, .slice none 0 0, .slice none 0 0]) ?_ 0 _ rfl; (with_reducible repeat (first | refine kN ?_ _ | refine kD ?_ | refine kA ?_ _)); exact BK215.out) Try.underlying30 rfl (by kernel_rfl)) rfl ?_
          exact ⟨_, _, by first | rfl | (simp [errW_none, errW_some] <;> rfl) | (simp [*, errW_none, errW_some] <;> rfl), by (with_reducible repeat (first | apply rA | apply rN | apply rD)); exact rM (Kd.R_far (p := ⟨gb215, 3, none⟩) (Kd.R_far (p := ⟨gb215, 2, none⟩) (Kd.R_far (p := ⟨gb215, 1, none⟩) (Kd.R_far (p := ⟨gb215, 0, none⟩) (Kd.R_types HO_231002.out BK215.out (by decide)) (fun _ hk => hk.2) (.int .i64 (wrap64 ((x7_1.length : Int) + 1)))) (fun _ hk => hk.2) (.int .i64 0)) (fun _ hk => hk.2) (.slice Ao59 x231002_2.length co59)) (fun _ hk => hk.2) (.slice Ao60 x231003_3.length co60)) (fun _ hk => trivial), by (with_reducible repeat (first | apply rA | apply rN | apply rD)); exact rM (Kd.R_far (p := ⟨gb215, 3, none⟩) (Kd.R_far (p := ⟨gb215, 2, none⟩) (Kd.R_far (p := ⟨gb215, 1, none⟩) (Kd.R_far (p := ⟨gb215, 0, none⟩) (Kd.R_types HO_231003.out BK215.out (by decide)) (fun _ hk => hk.2) (.int .i64 (wrap64 ((x7_1.length : Int) + 1)))) (fun _ hk => hk.2) (.int .i64 0)) (fun _ hk => hk.2) (.slice Ao59 x231002_2.length co59)) (fun _ hk => hk.2) (.slice Ao60 x231003_3.length co60)) (fun _ hk => trivial), by repeat (first | (with_reducible first | exact HB.out | apply bA | apply bN | apply bD | refine bS ?_ GE215.out | refine bS ?_ GE230.out) | exact HB.out)⟩

end Go.Proofs.Ytijbhcalknfijaa.M7
-- shrunk
-- tight
-- tight2
-- tight3
