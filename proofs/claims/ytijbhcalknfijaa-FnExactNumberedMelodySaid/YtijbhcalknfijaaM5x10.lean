/- What functions of the given program compute, as plain Lean functions, and that the code comes to just that; by a program of this session over the kit's print. No condition. -/
import Derived.Test.YtijbhcalknfijaaM5x0
namespace Go.Proofs.Ytijbhcalknfijaa.M5
open Go.RowKit Go.Proofs.YtijbhcalknfijaaW.PrintWords Go.Proofs.YtijbhcalknfijaaW.PrintLast Go.Proofs.YtijbhcalknfijaaW.PrintMore
open Go.Proofs.YtijbhcalknfijaaW.PrintWords renaming below_alloc → bA, pw_below_drewN → bN, below_drew1 → bD, below_set → bS, below_size → bZ, below_step → bP
open Go.Proofs.YtijbhcalknfijaaW.PrintLast renaming take_ofW → tW, any_of → aO, one_of → oO, i64_w → iW, i32_w → jW
open Go.Proofs.YtijbhcalknfijaaW.PrintWords.Kd renaming R_alloc → rA, R_drewN → rN, R_drew → rD, R_lower → rL, R_elder' → rE, R_new' → rW, R_lt → rT, R_mono → rM
open List renaming setIfInBounds_toArray → sI, set_cons_zero → sZ, set_cons_succ → sS
open Bool renaming true → T, false → F
attribute [local go_sem] max2_int min2_int max_two min_two max_three min_three max_four min_four   -- for this text's walks alone
set_option linter.unusedVariables false
set_option linter.unusedSimpArgs false

/-! ### spec_l07Counts: function 67 -/
mutual
def spec_l07Counts.l0 : Nat → Int → List Int → Int → Int → Int → List Int → List (S67) → Option (List Int)
 | 0, _, _, _, _, _, _, _ => none
 | k + 1, x1, x5, x6, x1000, x1001, x1002, x1003 => if x6 < (x1002.length : Int) then (if 0 ≤ x6 then (if 0 ≤ (rd x1002 x6) then (if (rd x1002 x6) < (x5.length : Int) then (spec_l07Counts.l0 k x1 (x5.set ((rd x1002 x6) : Int).toNat 1) (wrap64 (x6 + 1)) x1000 x1001 x1002 x1003) else (none)) else (none)) else (none)) else (spec_l07Counts.l1 k x1 x5 0 x1000 x1001 x1002 x1003)
def spec_l07Counts.l1 : Nat → Int → List Int → Int → Int → Int → List Int → List (S67) → Option (List Int)
 | 0, _, _, _, _, _, _, _ => none
 | k + 1, x1, x5, x7, x1000, x1001, x1002, x1003 => if x7 < x1 then (if 0 ≤ x1000 then (if (x1000 : Int).toNat ≤ 35184372088832 then (spec_l07Counts.l2 k x1 x5 x7 (List.replicate (x1000 : Int).toNat 0) 0 x1000 x1001 x1002 x1003) else (none)) else (none)) else (some x5)
def spec_l07Counts.l2 : Nat → Int → List Int → Int → List Int → Int → Int → Int → List Int → List (S67) → Option (List Int)
 | 0, _, _, _, _, _, _, _, _, _ => none
 | k + 1, x1, x5, x7, x8, x9, x1000, x1001, x1002, x1003 => if x9 < (x1003.length : Int) then (if 0 ≤ x9 then (if 0 ≤ ((rd_T67 x1003 x9).f0) then (if ((rd_T67 x1003 x9).f0) < (x8.length : Int) then (if 0 ≤ ((rd_T67 x1003 x9).f2) then (if ((rd_T67 x1003 x9).f2) < (x5.length : Int) then (spec_l07Counts.l2 k x1 x5 x7 (x8.set (((rd_T67 x1003 x9).f0) : Int).toNat (wrap64 ((rd x8 ((rd_T67 x1003 x9).f0)) + (rd x5 ((rd_T67 x1003 x9).f2))))) (wrap64 (x9 + 1)) x1000 x1001 x1002 x1003) else (none)) else (none)) else (none)) else (none)) else (none)) else (spec_l07Counts.l1 k x1 x8 (wrap64 (x7 + 1)) x1000 x1001 x1002 x1003)
end
def spec_l07Counts.f (k : Nat) (a0_0 : Int) (a0_1 : Int) (l0_2 : List Int) (l0_3 : List (S67)) (a1 : Int) : Option (List Int) := if 0 ≤ a0_0 then (if (a0_0 : Int).toNat ≤ 35184372088832 then (spec_l07Counts.l0 k a1 (List.replicate (a0_0 : Int).toNat 0) 0 a0_0 a0_1 l0_2 l0_3) else (none)) else (none)
theorem spec_l07Counts.mono_l : ∀ k, (∀ y0 y1 y2 y3 y4 y5 y6, LeO (spec_l07Counts.l0 k y0 y1 y2 y3 y4 y5 y6) (spec_l07Counts.l0 (k + 1) y0 y1 y2 y3 y4 y5 y6)) ∧ (∀ y0 y1 y2 y3 y4 y5 y6, LeO (spec_l07Counts.l1 k y0 y1 y2 y3 y4 y5 y6) (spec_l07Counts.l1 (k + 1) y0 y1 y2 y3 y4 y5 y6)) ∧ (∀ y0 y1 y2 y3 y4 y5 y6 y7 y8, LeO (spec_l07Counts.l2 k y0 y1 y2 y3 y4 y5 y6 y7 y8) (spec_l07Counts.l2 (k + 1) y0 y1 y2 y3 y4 y5 y6 y7 y8))
 | 0 => ⟨fun _ _ _ _ _ _ _ r h => by simp [spec_l07Counts.l0] at h, fun _ _ _ _ _ _ _ r h => by simp [spec_l07Counts.l1] at h, fun _ _ _ _ _ _ _ _ _ r h => by simp [spec_l07Counts.l2] at h⟩
 | k + 1 => by
  obtain ⟨ih0, ih1, ih2⟩ := spec_l07Counts.mono_l k
  refine ⟨?_, ?_, ?_⟩
  ·intro y0 y1 y2 y3 y4 y5 y6
   unfold spec_l07Counts.l0
   repeat' first
   | (with_reducible exact ih0 _ _ _ _ _ _ _)
   | (with_reducible exact ih1 _ _ _ _ _ _ _)
   | (with_reducible exact ih2 _ _ _ _ _ _ _ _ _)
   | (with_reducible exact LeO.refl _)
   | (with_reducible exact LeO.none _)
   | (with_reducible refine LeO.ite ?_ ?_)
   | (with_reducible refine LeO.bind ?_ (fun _ => ?_))
   | exact ih0 _ _ _ _ _ _ _
   | exact ih1 _ _ _ _ _ _ _
   | exact ih2 _ _ _ _ _ _ _ _ _
   | exact LeO.none _
   | refine LeO.ite ?_ ?_
   | refine LeO.bind ?_ (fun _ => ?_)
  ·intro y0 y1 y2 y3 y4 y5 y6
   unfold spec_l07Counts.l1
   repeat' first
   | (with_reducible exact ih0 _ _ _ _ _ _ _)
   | (with_reducible exact ih1 _ _ _ _ _ _ _)
   | (with_reducible exact ih2 _ _ _ _ _ _ _ _ _)
   | (with_reducible exact LeO.refl _)
   | (with_reducible exact LeO.none _)
   | (with_reducible refine LeO.ite ?_ ?_)
   | (with_reducible refine LeO.bind ?_ (fun _ => ?_))
   | exact ih0 _ _ _ _ _ _ _
   | exact ih1 _ _ _ _ _ _ _
   | exact ih2 _ _ _ _ _ _ _ _ _
   | exact LeO.none _
   | refine LeO.ite ?_ ?_
   | refine LeO.bind ?_ (fun _ => ?_)
  ·intro y0 y1 y2 y3 y4 y5 y6 y7 y8
   unfold spec_l07Counts.l2
   repeat' first
   | (with_reducible exact ih0 _ _ _ _ _ _ _)
   | (with_reducible exact ih1 _ _ _ _ _ _ _)
   | (with_reducible exact ih2 _ _ _ _ _ _ _ _ _)
   | (with_reducible exact LeO.refl _)
   | (with_reducible exact LeO.none _)
   | (with_reducible refine LeO.ite ?_ ?_)
   | (with_reducible refine LeO.bind ?_ (fun _ => ?_))
   | exact ih0 _ _ _ _ _ _ _
   | exact ih1 _ _ _ _ _ _ _
   | exact ih2 _ _ _ _ _ _ _ _ _
   | exact LeO.none _
   | refine LeO.ite ?_ ?_
   | refine LeO.bind ?_ (fun _ => ?_)
theorem spec_l07Counts.mono : ∀ a0 a1 a2 a3 a4 k, LeO (spec_l07Counts.f k a0 a1 a2 a3 a4) (spec_l07Counts.f (k + 1) a0 a1 a2 a3 a4) := by
 intro a0 a1 a2 a3 a4 k
 obtain ⟨ih0, ih1, ih2⟩ := spec_l07Counts.mono_l k
 unfold spec_l07Counts.f
 repeat' first
   | (with_reducible exact ih0 _ _ _ _ _ _ _)
   | (with_reducible exact ih1 _ _ _ _ _ _ _)
   | (with_reducible exact ih2 _ _ _ _ _ _ _ _ _)
   | (with_reducible exact LeO.refl _)
   | (with_reducible exact LeO.none _)
   | (with_reducible refine LeO.ite ?_ ?_)
   | (with_reducible refine LeO.bind ?_ (fun _ => ?_))
   | exact ih0 _ _ _ _ _ _ _
   | exact ih1 _ _ _ _ _ _ _
   | exact ih2 _ _ _ _ _ _ _ _ _
   | exact LeO.none _
   | refine LeO.ite ?_ ?_
   | refine LeO.bind ?_ (fun _ => ?_)
def spec_l07Counts.T13 : Bool × List (List Nat × List Nat) := (true, [([], []), ([], []), ([1], [1]), ([2], [2]), ([3], [3]), ([], []), ([4, 5], [4, 5]), ([6], [6]), ([7], [7]), ([0, 8], [0, 8]), ([9], [9]), ([], []), ([], []), ([12], [12]), ([13], [13]), ([14], [14]), ([], []), ([15, 16], [15, 16]), ([17], [17]), ([18], [18]), ([11, 19], [11, 19]), ([20], [20]), ([10, 21], [10, 21]), ([0, 8, 0, 1, 2, 3, 4, 5, 6, 7, 8, 9, 10, 11, 12, 13, 14, 15, 16, 17, 18, 19, 20, 21, 22], [0, 8]), ([23, 22, 0, 1, 2, 3, 4, 5, 6, 7, 8, 9, 10, 11, 12, 13, 14, 15, 16, 17, 18, 19, 20, 21, 22], [22, 23])])
def spec_l07Counts.B13 : List Nat := [0, 0, 2, 6, 14, 0, 62, 126, 254, 511, 1023, 0, 0, 4096, 12288, 28672, 0, 126976, 258048, 520192, 1046528, 2095104, 4194303, 8388607, 16777215]
theorem spec_l07Counts.tab13 : rtab .any (opsOf Try.f67 13) = spec_l07Counts.T13 := by kernel_rfl
theorem spec_l07Counts.bits13 : waitsOk spec_l07Counts.T13.2 spec_l07Counts.B13 = true := by kernel_rfl
set_option maxHeartbeats 8000000 in
set_option maxRecDepth 100000 in
theorem spec_l07Counts.calls (k : Nat) (adp0 : Addr) (a0_0 : Int) (a0_1 : Int) (l0_2 : List Int) (l0_3 : List (S67)) (a1 : Int) (r : List Int) (w : World) (hp0 : Kd.C k30 w (some adp0) 1 [(⟨a0_0, a0_1, l0_2, l0_3⟩ : S30)]) (h : spec_l07Counts.f k a0_0 a0_1 l0_2 l0_3 a1 = some r) :
  Calls Try.prog 67 #[.pointer (some adp0), .int .i64 a1] w fun e w' => ∃ v0_ : Value, e = .returned (v0_) ∧ Kd.R (Kd.int .i64) 2 w' w.heap.size (fun _ => True) v0_ r ∧ Below w.heap.size w w' := by
 have HRp0 := Aside0.mk hp0
 clear hp0
 have HB := Aside0.mk (Below.refl w.heap.size w)
 have H : (if 0 ≤ a0_0 then (if (a0_0 : Int).toNat ≤ 35184372088832 then (spec_l07Counts.l0 k a1 (List.replicate (a0_0 : Int).toNat 0) 0 a0_0 a0_1 l0_2 l0_3) else (none)) else (none)) = some r := h
 clear h
 by_cases c3 : 0 ≤ a0_0
 ·rw [if_pos c3] at H
  have c3b0 := eq_true c3
  have c3b1 : decide (0 ≤ a0_0) = true := decide_eq_true c3
  clear c3
  by_cases c4 : (a0_0 : Int).toNat ≤ 35184372088832
  ·rw [if_pos c4] at H
   have c4b0 := eq_true c4
   have c4b1 : decide ((a0_0 : Int).toNat ≤ 35184372088832) = true := decide_eq_true c4
   clear c4
   obtain ⟨y171, hy171⟩ : ∃ y_ : List Int, y_ = (List.replicate (a0_0 : Int).toNat 0) := ⟨_, rfl⟩
   replace H : (spec_l07Counts.l0 k a1 y171 0 a0_0 a0_1 l0_2 l0_3) = some r := by first | (rw [hy171]; with_reducible exact H) | (have H2_ := (Option.bind_some _ _).symm.trans H; rw [hy171]; with_reducible exact H2_) | (have H2_ := (Option.bind_some _ _).symm.trans H; with_reducible exact H2_) | with_reducible exact H | (rw [hy171]; exact H) | exact H
   have Ny171 := Aside0.mk hy171
   clear hy171
   have H' := Aside0.mk H
   clear H
   have p170 : 0 ≤ (0 : Int) := (by omega)
   have q170 : 0 < ([(⟨a0_0, a0_1, l0_2, l0_3⟩ : S30)].length : Int) := (by simp)
   obtain ⟨ad170, A170_2, c170_2, A170_3, c170_3, e170, hx170_0, hx170_1, hx170_2, hx170_3, hl170_2, hi170_2, hl170_3, hi170_3⟩ := at_T30 HRp0.out 0 p170 q170
   replace hx170_0 : _ = (some (.int .i64 a0_0) : Option Value) := hx170_0
   replace hx170_1 : _ = (some (.int .i64 a0_1) : Option Value) := hx170_1
   replace hx170_2 : _ = (some (.slice A170_2 l0_2.length c170_2) : Option Value) := hx170_2
   replace hi170_2 : Kd.C (Kd.int .i64) _ _ l0_2.length l0_2 := hi170_2
   replace hl170_2 : l0_2.length ≤ _ := hl170_2
   replace hx170_3 : _ = (some (.slice A170_3 l0_3.length c170_3) : Option Value) := hx170_3
   replace hi170_3 : Kd.C k67 _ _ l0_3.length l0_3 := hi170_3
   replace hl170_3 : l0_3.length ≤ _ := hl170_3
   obtain rfl : adp0 = ad170 := (by injection e170)
   have qi170 : (0 < [(⟨a0_0, a0_1, l0_2, l0_3⟩ : S30)].length) = True := eq_true (by simp)
   (try rw [show ((0 : Int)).toNat = 0 from rfl] at hx170_0)
   (try rw [show 0 * 4 = 0 from rfl] at hx170_0)
   (try rw [Addr.add_zero'] at hx170_0)
   (try rw [show ((0 : Int)).toNat = 0 from rfl] at hx170_1)
   (try rw [show 0 * 4 = 0 from rfl] at hx170_1)
   (try rw [Addr.add_zero'] at hx170_1)
   (try rw [show ((0 : Int)).toNat = 0 from rfl] at hx170_2)
   (try rw [show 0 * 4 = 0 from rfl] at hx170_2)
   (try rw [Addr.add_zero'] at hx170_2)
   (try rw [show ((0 : Int)).toNat = 0 from rfl] at hx170_3)
   (try rw [show 0 * 4 = 0 from rfl] at hx170_3)
   (try rw [Addr.add_zero'] at hx170_3)
   have HR170_2 := Aside0.mk hi170_2
   have HC170_2 := Aside0.mk hl170_2
   clear hi170_2 hl170_2
   have HR170_3 := Aside0.mk hi170_3
   have HC170_3 := Aside0.mk hl170_3
   clear hi170_3 hl170_3
   replace p170 := eq_true p170
   replace q170 := eq_true q170
   go_enter Try.func67, Try.ntmps67
   go_wp2_with (first | ((with_reducible refine gate_dst (N := 14) rfl ?_); refine Kd.R_make (Kd.int .i64) _ 2 rfl (N := 14) rfl 22 _ _ rfl a0_0 rfl rfl Try.underlying22 (.int .i64 0) 8 info2 rfl (by decide) (by omega) 0 (ok := fun _ => True) (okp := fun _ => True) rfl (fun _ hk => hk) trivial (of_decide_eq_true (by first | (with_reducible assumption) | assumption)) (Nat.le_trans (Nat.mul_le_mul_right _ (of_decide_eq_true (by first | (with_reducible assumption) | assumption) : a0_0.toNat ≤ 35184372088832)) (by omega)) (Below.refl _ _) (Nat.le_refl _) ?_; intro v172 w5 ho6 hb hg_ hnew_; clear hg_ hnew_; (first | rw [← Ny171.out] at ho6 | (simp only [Int.reduceToNat] at ho6; rw [← Ny171.out] at ho6)); have n0_ := Aside0.mk (rL ho6 (bZ (by repeat (first | (with_reducible first | exact HB.out | apply bA | apply bN | apply bD) | exact HB.out)))); have n1_ := Aside0.mk (bP (by repeat (first | (with_reducible first | exact HB.out | apply bA | apply bN | apply bD) | exact HB.out)) hb); clear HB; have HO173 := n0_; have HB := n1_; clear n0_ n1_; clear hb ho6))
   go_loopg [6] k (fun kq v6 w' => ∃ (x5_1 : List Int) (x6_1 : Int), v6 = .int .i64 x6_1 ∧ Aside0 (spec_l07Counts.l0 kq a1 x5_1 x6_1 a0_0 a0_1 l0_2 l0_3 = some r) ∧ Aside0 (kq ≤ k) ∧ Aside0 (Kd.R (Kd.int .i64) 2 w' w.heap.size (fun _ => True) v172 x5_1) ∧ Aside0 (Below w.heap.size w w'))
   case atStart => exact ⟨(y171), (0), (by first | rfl | (simp; done) | (simp [*]; done)), H', ⟨Nat.le_refl _⟩, ⟨by (with_reducible repeat (first | apply rA | apply rN | apply rD)); exact HO173.out⟩, ⟨by repeat (first | (with_reducible first | exact HB.out | apply bA | apply bN | apply bD) | exact HB.out)⟩⟩
   case round =>
    clear H'
    try clear c1
    try clear p1
    try clear q1
    try clear hx1
    try clear qi1
    try clear p2
    try clear c3
    try clear c3b0
    try clear c3b1
    try clear c4
    try clear c4b0
    try clear c4b1
    try clear c6
    try clear hx170_0
    try clear hx170_1
    try clear hx170_2
    try clear hx170_3
    try clear p170
    try clear q170
    obtain ⟨x5_1, x6_1, rfl, HA, HK1, HO_5, HB⟩ := hrel
    cases gk with
    | zero => exact absurd HA.out (by simp [spec_l07Counts.l0])
    | succ k1 =>
     have H := HA.out
     clear HA
     simp only [spec_l07Counts.l0] at H
     by_cases c7 : x6_1 < (l0_2.length : Int)
     ·rw [if_pos c7] at H
      have c7b0 : decide (x6_1 < (l0_2.length : Int)) = true := decide_eq_true c7
      clear c7
      by_cases c8 : 0 ≤ x6_1
      ·rw [if_pos c8] at H
       have c8b0 : decide (0 ≤ x6_1) = true := decide_eq_true c8
       clear c8
       by_cases c9 : 0 ≤ (rd l0_2 x6_1)
       ·rw [if_pos c9] at H
        have c9b0 : decide (0 ≤ (rd l0_2 x6_1)) = true := decide_eq_true c9
        clear c9
        by_cases c10 : (rd l0_2 x6_1) < (x5_1.length : Int)
        ·rw [if_pos c10] at H
         have c10b0 : decide ((rd l0_2 x6_1) < (x5_1.length : Int)) = true := decide_eq_true c10
         clear c10
         obtain ⟨y177, hy177⟩ : ∃ y_ : List Int, y_ = (x5_1.set ((rd l0_2 x6_1) : Int).toNat 1) := ⟨_, rfl⟩
         replace H : (spec_l07Counts.l0 k1 a1 y177 (wrap64 (x6_1 + 1)) a0_0 a0_1 l0_2 l0_3) = some r := by first | (rw [hy177]; with_reducible exact H) | (have H2_ := (Option.bind_some _ _).symm.trans H; rw [hy177]; with_reducible exact H2_) | (have H2_ := (Option.bind_some _ _).symm.trans H; with_reducible exact H2_) | with_reducible exact H | (rw [hy177]; exact H) | exact H
         have Ny177 := Aside0.mk hy177
         clear hy177
         have H' := Aside0.mk H
         clear H
         have p174 : 0 ≤ (0 : Int) := (by omega)
         have q174 : 0 < ([(⟨a0_0, a0_1, l0_2, l0_3⟩ : S30)].length : Int) := (by simp)
         obtain ⟨ad174, A174_2, c174_2, A174_3, c174_3, e174, hx174_0, hx174_1, hx174_2, hx174_3, hl174_2, hi174_2, hl174_3, hi174_3⟩ := at_T30 HRp0.out 0 p174 q174
         replace hx174_0 : _ = (some (.int .i64 a0_0) : Option Value) := hx174_0
         replace hx174_1 : _ = (some (.int .i64 a0_1) : Option Value) := hx174_1
         replace hx174_2 : _ = (some (.slice A174_2 l0_2.length c174_2) : Option Value) := hx174_2
         replace hi174_2 : Kd.C (Kd.int .i64) _ _ l0_2.length l0_2 := hi174_2
         replace hl174_2 : l0_2.length ≤ _ := hl174_2
         replace hx174_3 : _ = (some (.slice A174_3 l0_3.length c174_3) : Option Value) := hx174_3
         replace hi174_3 : Kd.C k67 _ _ l0_3.length l0_3 := hi174_3
         replace hl174_3 : l0_3.length ≤ _ := hl174_3
         obtain rfl : adp0 = ad174 := (by injection e174)
         have qi174 : (0 < [(⟨a0_0, a0_1, l0_2, l0_3⟩ : S30)].length) = True := eq_true (by simp)
         (try rw [show ((0 : Int)).toNat = 0 from rfl] at hx174_0)
         (try rw [show 0 * 4 = 0 from rfl] at hx174_0)
         (try rw [Addr.add_zero'] at hx174_0)
         (try rw [show ((0 : Int)).toNat = 0 from rfl] at hx174_1)
         (try rw [show 0 * 4 = 0 from rfl] at hx174_1)
         (try rw [Addr.add_zero'] at hx174_1)
         (try rw [show ((0 : Int)).toNat = 0 from rfl] at hx174_2)
         (try rw [show 0 * 4 = 0 from rfl] at hx174_2)
         (try rw [Addr.add_zero'] at hx174_2)
         (try rw [show ((0 : Int)).toNat = 0 from rfl] at hx174_3)
         (try rw [show 0 * 4 = 0 from rfl] at hx174_3)
         (try rw [Addr.add_zero'] at hx174_3)
         replace hx174_0 := (HB.out.cell (World.block_lt_of_cell? w _ hx174_0)).trans hx174_0
         replace hx174_1 := (HB.out.cell (World.block_lt_of_cell? w _ hx174_1)).trans hx174_1
         replace hx174_2 := (HB.out.cell (World.block_lt_of_cell? w _ hx174_2)).trans hx174_2
         replace hx174_3 := (HB.out.cell (World.block_lt_of_cell? w _ hx174_3)).trans hx174_3
         have HR174_2 := Aside0.mk hi174_2
         have HC174_2 := Aside0.mk hl174_2
         clear hi174_2 hl174_2
         have HR174_3 := Aside0.mk hi174_3
         have HC174_3 := Aside0.mk hl174_3
         clear hi174_3 hl174_3
         replace p174 := eq_true p174
         replace q174 := eq_true q174
         have p175 : 0 ≤ (0 : Int) := (by omega)
         have q175 : 0 < ([(⟨a0_0, a0_1, l0_2, l0_3⟩ : S30)].length : Int) := (by simp)
         obtain ⟨ad175, A175_2, c175_2, A175_3, c175_3, e175, hx175_0, hx175_1, hx175_2, hx175_3, hl175_2, hi175_2, hl175_3, hi175_3⟩ := at_T30 HRp0.out 0 p175 q175
         replace hx175_0 : _ = (some (.int .i64 a0_0) : Option Value) := hx175_0
         replace hx175_1 : _ = (some (.int .i64 a0_1) : Option Value) := hx175_1
         replace hx175_2 : _ = (some (.slice A175_2 l0_2.length c175_2) : Option Value) := hx175_2
         replace hi175_2 : Kd.C (Kd.int .i64) _ _ l0_2.length l0_2 := hi175_2
         replace hl175_2 : l0_2.length ≤ _ := hl175_2
         replace hx175_3 : _ = (some (.slice A175_3 l0_3.length c175_3) : Option Value) := hx175_3
         replace hi175_3 : Kd.C k67 _ _ l0_3.length l0_3 := hi175_3
         replace hl175_3 : l0_3.length ≤ _ := hl175_3
         obtain rfl : adp0 = ad175 := (by injection e175)
         have qi175 : (0 < [(⟨a0_0, a0_1, l0_2, l0_3⟩ : S30)].length) = True := eq_true (by simp)
         (try rw [show ((0 : Int)).toNat = 0 from rfl] at hx175_0)
         (try rw [show 0 * 4 = 0 from rfl] at hx175_0)
         (try rw [Addr.add_zero'] at hx175_0)
         (try rw [show ((0 : Int)).toNat = 0 from rfl] at hx175_1)
         (try rw [show 0 * 4 = 0 from rfl] at hx175_1)
         (try rw [Addr.add_zero'] at hx175_1)
         (try rw [show ((0 : Int)).toNat = 0 from rfl] at hx175_2)
         (try rw [show 0 * 4 = 0 from rfl] at hx175_2)
         (try rw [Addr.add_zero'] at hx175_2)
         (try rw [show ((0 : Int)).toNat = 0 from rfl] at hx175_3)
         (try rw [show 0 * 4 = 0 from rfl] at hx175_3)
         (try rw [Addr.add_zero'] at hx175_3)
         replace hx175_0 := (HB.out.cell (World.block_lt_of_cell? w _ hx175_0)).trans hx175_0
         replace hx175_1 := (HB.out.cell (World.block_lt_of_cell? w _ hx175_1)).trans hx175_1
         replace hx175_2 := (HB.out.cell (World.block_lt_of_cell? w _ hx175_2)).trans hx175_2
         replace hx175_3 := (HB.out.cell (World.block_lt_of_cell? w _ hx175_3)).trans hx175_3
         have HR175_2 := Aside0.mk hi175_2
         have HC175_2 := Aside0.mk hl175_2
         clear hi175_2 hl175_2
         have HR175_3 := Aside0.mk hi175_3
         have HC175_3 := Aside0.mk hl175_3
         clear hi175_3 hl175_3
         replace p175 := eq_true p175
         replace q175 := eq_true q175
         have ea_ := Option.some.inj (hx174_2.symm.trans hx175_2)
         injection ea_ with ea_ en_ ec_
         subst ea_
         subst ec_
         clear en_
         have ea_ := Option.some.inj (hx174_3.symm.trans hx175_3)
         injection ea_ with ea_ en_ ec_
         subst ea_
         subst ec_
         clear en_
         have p176 : 0 ≤ (x6_1 : Int) := of_decide_eq_true (by first | (with_reducible assumption) | assumption)
         have q176 : x6_1 < (l0_2.length : Int) := of_decide_eq_true (by first | (with_reducible assumption) | assumption)
         obtain ⟨ad176, e176, hx176_0⟩ := Kd.at_int HR175_2.out x6_1 p176 q176
         cases e176
         replace hx176_0 := (HB.out.cell (World.block_lt_of_cell? w _ hx176_0)).trans hx176_0
         replace p176 := eq_true p176
         replace q176 := eq_true q176
         have p11 : 0 ≤ ((rd l0_2 x6_1) : Int) := of_decide_eq_true (by first | (with_reducible assumption) | assumption)
         have q11 : ((rd l0_2 x6_1) : Int) < ((x5_1.length : Int) : Int) := of_decide_eq_true (by first | (with_reducible assumption) | assumption)
         obtain ⟨go11, co11, eo11, gb11, gl11, cl11, HG11⟩ := Kd.R_form HO_5.out (by omega)
         (first | cases eo11 | (injection eo11 with ea_ en_ ec_; (first | subst ea_ | (injection ea_ with ea_; subst ea_)); subst ec_; clear en_))
         have GB11 := Aside0.mk gb11
         have GG11 := Aside0.mk HG11
         clear gb11 gl11 HG11
         obtain ⟨hx11_0, hf11_0⟩ := Kd.R_celln 0 HO_5.out ((rd l0_2 x6_1) : Int) p11 q11
         replace p11 := eq_true p11
         replace q11 := eq_true q11
         have HP12 := Kd.R_putg HO_5.out ((rd l0_2 x6_1) : Int) 1
         go_wp2_with (first | ((with_reducible refine gate_store (t := 2) (p := 32) rfl ?_); refine store_event (t := 2) (p := 32) (v := ?vo_w13) (w1 := (wr.setCell ⟨go11, ((rd l0_2 x6_1) : Int).toNat, none⟩ (.int .i64 1))) ?hg ?ho ?hn ?hr ?_; (case ho => rfl); (case hg => rfl); (case hn => rfl); (case hr => first | (go_simp; done) | (go_simp; rfl)); intro w13 hw; have hg : wr.grownBy w13 (some go11) := (by rw [hw]; exact HP12.2); have hp_ : Kd.R (Kd.int .i64) 2 w13 w.heap.size (fun _ => True) (.slice (some ⟨go11, 0, none⟩) x5_1.length co11) y177 := (by rw [hw, Ny177.out]; exact HP12.1); clear HP12; have n0_ := Aside0.mk (hp_); have n1_ := Aside0.mk ((by rw [hw]; exact bS (HB.out) GB11.out : Below w.heap.size w w13)); clear HO_5; clear HB; have HO_5 := n0_; have HB := n1_; clear n0_ n1_; clear hg hw hp_))
         go_roundg k1
         case measure => have := HK1.out; omega
         case rel => exact ⟨(y177), (wrap64 (x6_1 + 1)), (by first | rfl | (simp; done) | (simp [*]; done)), H', ⟨by have := HK1.out; omega⟩, ⟨by (with_reducible repeat (first | apply rA | apply rN | apply rD)); exact HO_5.out⟩, ⟨by repeat (first | (with_reducible first | exact HB.out | apply bA | apply bN | apply bD) | exact HB.out)⟩⟩
        ·rw [if_neg c10] at H
         exact absurd H (by simp)
       ·rw [if_neg c9] at H
        exact absurd H (by simp)
      ·rw [if_neg c8] at H
       exact absurd H (by simp)
     ·rw [if_neg c7] at H
      have c7b0 : decide (x6_1 < (l0_2.length : Int)) = false := decide_eq_false c7
      clear c7
      have H' := Aside0.mk H
      clear H
      have p174 : 0 ≤ (0 : Int) := (by omega)
      have q174 : 0 < ([(⟨a0_0, a0_1, l0_2, l0_3⟩ : S30)].length : Int) := (by simp)
      obtain ⟨ad174, A174_2, c174_2, A174_3, c174_3, e174, hx174_0, hx174_1, hx174_2, hx174_3, hl174_2, hi174_2, hl174_3, hi174_3⟩ := at_T30 HRp0.out 0 p174 q174
      replace hx174_0 : _ = (some (.int .i64 a0_0) : Option Value) := hx174_0
      replace hx174_1 : _ = (some (.int .i64 a0_1) : Option Value) := hx174_1
      replace hx174_2 : _ = (some (.slice A174_2 l0_2.length c174_2) : Option Value) := hx174_2
      replace hi174_2 : Kd.C (Kd.int .i64) _ _ l0_2.length l0_2 := hi174_2
      replace hl174_2 : l0_2.length ≤ _ := hl174_2
      replace hx174_3 : _ = (some (.slice A174_3 l0_3.length c174_3) : Option Value) := hx174_3
      replace hi174_3 : Kd.C k67 _ _ l0_3.length l0_3 := hi174_3
      replace hl174_3 : l0_3.length ≤ _ := hl174_3
      obtain rfl : adp0 = ad174 := (by injection e174)
      have qi174 : (0 < [(⟨a0_0, a0_1, l0_2, l0_3⟩ : S30)].length) = True := eq_true (by simp)
      (try rw [show ((0 : Int)).toNat = 0 from rfl] at hx174_0)
      (try rw [show 0 * 4 = 0 from rfl] at hx174_0)
      (try rw [Addr.add_zero'] at hx174_0)
      (try rw [show ((0 : Int)).toNat = 0 from rfl] at hx174_1)
      (try rw [show 0 * 4 = 0 from rfl] at hx174_1)
      (try rw [Addr.add_zero'] at hx174_1)
      (try rw [show ((0 : Int)).toNat = 0 from rfl] at hx174_2)
      (try rw [show 0 * 4 = 0 from rfl] at hx174_2)
      (try rw [Addr.add_zero'] at hx174_2)
      (try rw [show ((0 : Int)).toNat = 0 from rfl] at hx174_3)
      (try rw [show 0 * 4 = 0 from rfl] at hx174_3)
      (try rw [Addr.add_zero'] at hx174_3)
      replace hx174_0 := (HB.out.cell (World.block_lt_of_cell? w _ hx174_0)).trans hx174_0
      replace hx174_1 := (HB.out.cell (World.block_lt_of_cell? w _ hx174_1)).trans hx174_1
      replace hx174_2 := (HB.out.cell (World.block_lt_of_cell? w _ hx174_2)).trans hx174_2
      replace hx174_3 := (HB.out.cell (World.block_lt_of_cell? w _ hx174_3)).trans hx174_3
      have HR174_2 := Aside0.mk hi174_2
      have HC174_2 := Aside0.mk hl174_2
      clear hi174_2 hl174_2
      have HR174_3 := Aside0.mk hi174_3
      have HC174_3 := Aside0.mk hl174_3
      clear hi174_3 hl174_3
      replace p174 := eq_true p174
      replace q174 := eq_true q174
      go_wp2
      go_loopg [5, 7] k1 (fun kq v5 v7 w' => ∃ (x5_2 : List Int) (x7_2 : Int), v7 = .int .i64 x7_2 ∧ Aside0 (spec_l07Counts.l1 kq a1 x5_2 x7_2 a0_0 a0_1 l0_2 l0_3 = some r) ∧ Aside0 (kq ≤ k1) ∧ Aside0 (Kd.R (Kd.int .i64) 2 w' w.heap.size (fun _ => True) v5 x5_2) ∧ Aside0 (Below w.heap.size w w'))
      case atStart => exact ⟨(x5_1), (0), (by first | rfl | (simp; done) | (simp [*]; done)), H', ⟨Nat.le_refl _⟩, ⟨by (with_reducible repeat (first | apply rA | apply rN | apply rD)); exact HO_5.out⟩, ⟨by repeat (first | (with_reducible first | exact HB.out | apply bA | apply bN | apply bD) | exact HB.out)⟩⟩
      case round =>
       clear H'
       try clear c1
       try clear p1
       try clear q1
       try clear hx1
       try clear qi1
       try clear p2
       try clear c3
       try clear c3b0
       try clear c3b1
       try clear c4
       try clear c4b0
       try clear c4b1
       try clear c6
       try clear p6
       try clear c7
       try clear c7b0
       try clear c8
       try clear c8b0
       try clear c9
       try clear c9b0
       try clear c10
       try clear c10b0
       try clear p11
       try clear q11
       try clear hx11
       try clear hf11
       try clear hx11_0
       try clear hx170_0
       try clear hx170_1
       try clear hx170_2
       try clear hx170_3
       try clear hx174_0
       try clear hx174_1
       try clear hx174_2
       try clear hx174_3
       try clear hx175_0
       try clear hx175_1
       try clear hx175_2
       try clear hx175_3
       try clear hx176_0
       try clear p1
       try clear p11
       try clear p170
       try clear p174
       try clear p175
       try clear p176
       try clear p2
       try clear q1
       try clear q11
       try clear q170
       try clear q174
       try clear q175
       try clear q176
       obtain ⟨x5_2, x7_2, rfl, HA, HK2, HO_5, HB⟩ := hrel
       cases gk with
       | zero => exact absurd HA.out (by simp [spec_l07Counts.l1])
       | succ k2 =>
        have H := HA.out
        clear HA
        simp only [spec_l07Counts.l1] at H
        by_cases c14 : x7_2 < a1
        ·rw [if_pos c14] at H
         have c14b0 : decide (x7_2 < a1) = true := decide_eq_true c14
         clear c14
         by_cases c15 : 0 ≤ a0_0
         ·rw [if_pos c15] at H
          have c15b0 := eq_true c15
          have c15b1 : decide (0 ≤ a0_0) = true := decide_eq_true c15
          clear c15
          by_cases c16 : (a0_0 : Int).toNat ≤ 35184372088832
          ·rw [if_pos c16] at H
           have c16b0 := eq_true c16
           have c16b1 : decide ((a0_0 : Int).toNat ≤ 35184372088832) = true := decide_eq_true c16
           clear c16
           obtain ⟨y179, hy179⟩ : ∃ y_ : List Int, y_ = (List.replicate (a0_0 : Int).toNat 0) := ⟨_, rfl⟩
           replace H : (spec_l07Counts.l2 k2 a1 x5_2 x7_2 y179 0 a0_0 a0_1 l0_2 l0_3) = some r := by first | (rw [hy179]; with_reducible exact H) | (have H2_ := (Option.bind_some _ _).symm.trans H; rw [hy179]; with_reducible exact H2_) | (have H2_ := (Option.bind_some _ _).symm.trans H; with_reducible exact H2_) | with_reducible exact H | (rw [hy179]; exact H) | exact H
           have Ny179 := Aside0.mk hy179
           clear hy179
           have H' := Aside0.mk H
           clear H
           have p178 : 0 ≤ (0 : Int) := (by omega)
           have q178 : 0 < ([(⟨a0_0, a0_1, l0_2, l0_3⟩ : S30)].length : Int) := (by simp)
           obtain ⟨ad178, A178_2, c178_2, A178_3, c178_3, e178, hx178_0, hx178_1, hx178_2, hx178_3, hl178_2, hi178_2, hl178_3, hi178_3⟩ := at_T30 HRp0.out 0 p178 q178
           replace hx178_0 : _ = (some (.int .i64 a0_0) : Option Value) := hx178_0
           replace hx178_1 : _ = (some (.int .i64 a0_1) : Option Value) := hx178_1
           replace hx178_2 : _ = (some (.slice A178_2 l0_2.length c178_2) : Option Value) := hx178_2
           replace hi178_2 : Kd.C (Kd.int .i64) _ _ l0_2.length l0_2 := hi178_2
           replace hl178_2 : l0_2.length ≤ _ := hl178_2
           replace hx178_3 : _ = (some (.slice A178_3 l0_3.length c178_3) : Option Value) := hx178_3
           replace hi178_3 : Kd.C k67 _ _ l0_3.length l0_3 := hi178_3
           replace hl178_3 : l0_3.length ≤ _ := hl178_3
           obtain rfl : adp0 = ad178 := (by injection e178)
           have qi178 : (0 < [(⟨a0_0, a0_1, l0_2, l0_3⟩ : S30)].length) = True := eq_true (by simp)
           (try rw [show ((0 : Int)).toNat = 0 from rfl] at hx178_0)
           (try rw [show 0 * 4 = 0 from rfl] at hx178_0)
           (try rw [Addr.add_zero'] at hx178_0)
           (try rw [show ((0 : Int)).toNat = 0 from rfl] at hx178_1)
           (try rw [show 0 * 4 = 0 from rfl] at hx178_1)
           (try rw [Addr.add_zero'] at hx178_1)
           (try rw [show ((0 : Int)).toNat = 0 from rfl] at hx178_2)
           (try rw [show 0 * 4 = 0 from rfl] at hx178_2)
           (try rw [Addr.add_zero'] at hx178_2)
           (try rw [show ((0 : Int)).toNat = 0 from rfl] at hx178_3)
           (try rw [show 0 * 4 = 0 from rfl] at hx178_3)
           (try rw [Addr.add_zero'] at hx178_3)
           replace hx178_0 := (HB.out.cell (World.block_lt_of_cell? w _ hx178_0)).trans hx178_0
           replace hx178_1 := (HB.out.cell (World.block_lt_of_cell? w _ hx178_1)).trans hx178_1
           replace hx178_2 := (HB.out.cell (World.block_lt_of_cell? w _ hx178_2)).trans hx178_2
           replace hx178_3 := (HB.out.cell (World.block_lt_of_cell? w _ hx178_3)).trans hx178_3
           have HR178_2 := Aside0.mk hi178_2
           have HC178_2 := Aside0.mk hl178_2
           clear hi178_2 hl178_2
           have HR178_3 := Aside0.mk hi178_3
           have HC178_3 := Aside0.mk hl178_3
           clear hi178_3 hl178_3
           replace p178 := eq_true p178
           replace q178 := eq_true q178
           go_wp2_with (first | ((with_reducible refine gate_dst (N := 42) rfl ?_); refine Kd.R_make (Kd.int .i64) _ 2 rfl (N := 42) rfl 22 _ _ rfl a0_0 rfl rfl Try.underlying22 (.int .i64 0) 8 info2 rfl (by decide) (by omega) 0 (ok := fun _ => True) (okp := fun _ => True) rfl (fun _ hk => hk) trivial (of_decide_eq_true (by first | (with_reducible assumption) | assumption)) (Nat.le_trans (Nat.mul_le_mul_right _ (of_decide_eq_true (by first | (with_reducible assumption) | assumption) : a0_0.toNat ≤ 35184372088832)) (by omega)) (Below.refl _ _) (Nat.le_refl _) ?_; intro v180 w17 ho18 hb hg_ hnew_; clear hg_ hnew_; (first | rw [← Ny179.out] at ho18 | (simp only [Int.reduceToNat] at ho18; rw [← Ny179.out] at ho18)); have n0_ := Aside0.mk (rE (by (with_reducible repeat (first | apply rA | apply rN | apply rD)); exact HO_5.out) (Kd.R_base ho18) hb); have n1_ := Aside0.mk (rL (rW ho18 (rT (by (with_reducible repeat (first | apply rA | apply rN | apply rD)); exact HO_5.out))) (bZ (by repeat (first | (with_reducible first | exact HB.out | apply bA | apply bN | apply bD) | exact HB.out)))); have n2_ := Aside0.mk (bP (by repeat (first | (with_reducible first | exact HB.out | apply bA | apply bN | apply bD) | exact HB.out)) hb); clear HO_5; clear HB; have HO_5 := n0_; have HO181 := n1_; have HB := n2_; clear n0_ n1_ n2_; clear hb ho18))
           go_loopg [9] k2 (fun kq v9 w' => ∃ (x8_3 : List Int) (x9_3 : Int), v9 = .int .i64 x9_3 ∧ Aside0 (spec_l07Counts.l2 kq a1 x5_2 x7_2 x8_3 x9_3 a0_0 a0_1 l0_2 l0_3 = some r) ∧ Aside0 (kq ≤ k2) ∧ Aside0 (Kd.R (Kd.int .i64) 2 w' w.heap.size (fun k_ => some k_ ≠ (v180 : Value).ownBlock) u5 x5_2) ∧ Aside0 (Kd.R (Kd.int .i64) 2 w' w.heap.size (fun k_ => some k_ ≠ (u5 : Value).ownBlock) v180 x8_3) ∧ Aside0 (Below w.heap.size w w'))
           case atStart => exact ⟨(y179), (0), (by first | rfl | (simp; done) | (simp [*]; done)), H', ⟨Nat.le_refl _⟩, ⟨by (with_reducible repeat (first | apply rA | apply rN | apply rD)); exact rM HO_5.out (fun _ hk => hk.2)⟩, ⟨by (with_reducible repeat (first | apply rA | apply rN | apply rD)); exact rM HO181.out (fun _ hk => hk.2)⟩, ⟨by repeat (first | (with_reducible first | exact HB.out | apply bA | apply bN | apply bD) | exact HB.out)⟩⟩
           case round =>
            clear H'
            try clear c1
            try clear p1
            try clear q1
            try clear hx1
            try clear qi1
            try clear p2
            try clear c3
            try clear c3b0
            try clear c3b1
            try clear c4
            try clear c4b0
            try clear c4b1
            try clear c6
            try clear p6
            try clear c7
            try clear c7b0
            try clear c8
            try clear c8b0
            try clear c9
            try clear c9b0
            try clear c10
            try clear c10b0
            try clear p11
            try clear q11
            try clear hx11
            try clear hf11
            try clear c14
            try clear c14b0
            try clear c15
            try clear c15b0
            try clear c15b1
            try clear c16
            try clear c16b0
            try clear c16b1
            try clear c17
            try clear p17
            try clear q17
            try clear hx17
            try clear qi17
            try clear hx11_0
            try clear hx170_0
            try clear hx170_1
            try clear hx170_2
            try clear hx170_3
            try clear hx174_0
            try clear hx174_1
            try clear hx174_2
            try clear hx174_3
            try clear hx175_0
            try clear hx175_1
            try clear hx175_2
            try clear hx175_3
            try clear hx176_0
            try clear hx178_0
            try clear hx178_1
            try clear hx178_2
            try clear hx178_3
            try clear p1
            try clear p11
            try clear p170
            try clear p174
            try clear p175
            try clear p176
            try clear p178
            try clear p2
            try clear p6
            try clear q1
            try clear q11
            try clear q170
            try clear q174
            try clear q175
            try clear q176
            try clear q178
            obtain ⟨x8_3, x9_3, rfl, HA, HK3, HO_5, HO_8, HB⟩ := hrel
            cases gk with
            | zero => exact absurd HA.out (by simp [spec_l07Counts.l2])
            | succ k3 =>
             have H := HA.out
             clear HA
             simp only [spec_l07Counts.l2] at H
             by_cases c19 : x9_3 < (l0_3.length : Int)
             ·rw [if_pos c19] at H
              have c19b0 : decide (x9_3 < (l0_3.length : Int)) = true := decide_eq_true c19
              clear c19
              by_cases c20 : 0 ≤ x9_3
              ·rw [if_pos c20] at H
               have c20b0 : decide (0 ≤ x9_3) = true := decide_eq_true c20
               clear c20
               by_cases c21 : 0 ≤ ((rd_T67 l0_3 x9_3).f0)
               ·rw [if_pos c21] at H
                have c21b0 : decide (0 ≤ ((rd_T67 l0_3 x9_3).f0)) = true := decide_eq_true c21
                clear c21
                by_cases c22 : ((rd_T67 l0_3 x9_3).f0) < (x8_3.length : Int)
                ·rw [if_pos c22] at H
                 have c22b0 : decide (((rd_T67 l0_3 x9_3).f0) < (x8_3.length : Int)) = true := decide_eq_true c22
                 clear c22
                 by_cases c23 : 0 ≤ ((rd_T67 l0_3 x9_3).f2)
                 ·rw [if_pos c23] at H
                  have c23b0 : decide (0 ≤ ((rd_T67 l0_3 x9_3).f2)) = true := decide_eq_true c23
                  clear c23
                  by_cases c24 : ((rd_T67 l0_3 x9_3).f2) < (x5_2.length : Int)
                  ·rw [if_pos c24] at H
                   have c24b0 : decide (((rd_T67 l0_3 x9_3).f2) < (x5_2.length : Int)) = true := decide_eq_true c24
                   clear c24
                   obtain ⟨y189, hy189⟩ : ∃ y_ : List Int, y_ = (x8_3.set (((rd_T67 l0_3 x9_3).f0) : Int).toNat (wrap64 ((rd x8_3 ((rd_T67 l0_3 x9_3).f0)) + (rd x5_2 ((rd_T67 l0_3 x9_3).f2))))) := ⟨_, rfl⟩
                   replace H : (spec_l07Counts.l2 k3 a1 x5_2 x7_2 y189 (wrap64 (x9_3 + 1)) a0_0 a0_1 l0_2 l0_3) = some r := by first | (rw [hy189]; with_reducible exact H) | (have H2_ := (Option.bind_some _ _).symm.trans H; rw [hy189]; with_reducible exact H2_) | (have H2_ := (Option.bind_some _ _).symm.trans H; with_reducible exact H2_) | with_reducible exact H | (rw [hy189]; exact H) | exact H
                   have Ny189 := Aside0.mk hy189
                   clear hy189
                   have H' := Aside0.mk H
                   clear H
                   have p182 : 0 ≤ (0 : Int) := (by omega)
                   have q182 : 0 < ([(⟨a0_0, a0_1, l0_2, l0_3⟩ : S30)].length : Int) := (by simp)
                   obtain ⟨ad182, A182_2, c182_2, A182_3, c182_3, e182, hx182_0, hx182_1, hx182_2, hx182_3, hl182_2, hi182_2, hl182_3, hi182_3⟩ := at_T30 HRp0.out 0 p182 q182
                   replace hx182_0 : _ = (some (.int .i64 a0_0) : Option Value) := hx182_0
                   replace hx182_1 : _ = (some (.int .i64 a0_1) : Option Value) := hx182_1
                   replace hx182_2 : _ = (some (.slice A182_2 l0_2.length c182_2) : Option Value) := hx182_2
                   replace hi182_2 : Kd.C (Kd.int .i64) _ _ l0_2.length l0_2 := hi182_2
                   replace hl182_2 : l0_2.length ≤ _ := hl182_2
                   replace hx182_3 : _ = (some (.slice A182_3 l0_3.length c182_3) : Option Value) := hx182_3
                   replace hi182_3 : Kd.C k67 _ _ l0_3.length l0_3 := hi182_3
                   replace hl182_3 : l0_3.length ≤ _ := hl182_3
                   obtain rfl : adp0 = ad182 := (by injection e182)
                   have qi182 : (0 < [(⟨a0_0, a0_1, l0_2, l0_3⟩ : S30)].length) = True := eq_true (by simp)
                   (try rw [show ((0 : Int)).toNat = 0 from rfl] at hx182_0)
                   (try rw [show 0 * 4 = 0 from rfl] at hx182_0)
                   (try rw [Addr.add_zero'] at hx182_0)
                   (try rw [show ((0 : Int)).toNat = 0 from rfl] at hx182_1)
                   (try rw [show 0 * 4 = 0 from rfl] at hx182_1)
                   (try rw [Addr.add_zero'] at hx182_1)
                   (try rw [show ((0 : Int)).toNat = 0 from rfl] at hx182_2)
                   (try rw [show 0 * 4 = 0 from rfl] at hx182_2)
                   (try rw [Addr.add_zero'] at hx182_2)
                   (try rw [show ((0 : Int)).toNat = 0 from rfl] at hx182_3)
                   (try rw [show 0 * 4 = 0 from rfl] at hx182_3)
                   (try rw [Addr.add_zero'] at hx182_3)
                   replace hx182_0 := (HB.out.cell (World.block_lt_of_cell? w _ hx182_0)).trans hx182_0
                   replace hx182_1 := (HB.out.cell (World.block_lt_of_cell? w _ hx182_1)).trans hx182_1
                   replace hx182_2 := (HB.out.cell (World.block_lt_of_cell? w _ hx182_2)).trans hx182_2
                   replace hx182_3 := (HB.out.cell (World.block_lt_of_cell? w _ hx182_3)).trans hx182_3
                   have HR182_2 := Aside0.mk hi182_2
                   have HC182_2 := Aside0.mk hl182_2
                   clear hi182_2 hl182_2
                   have HR182_3 := Aside0.mk hi182_3
                   have HC182_3 := Aside0.mk hl182_3
                   clear hi182_3 hl182_3
                   replace p182 := eq_true p182
                   replace q182 := eq_true q182
                   try go_wp2
                   have n0_ := Aside0.mk (rD HO_5.out)
                   have n1_ := Aside0.mk (rD HO_8.out)
                   have n2_ := Aside0.mk (bD HB.out)
                   clear HO_5
                   clear HO_8
                   clear HB
                   have HO_5 := n0_
                   have HO_8 := n1_
                   have HB := n2_
                   clear n0_ n1_ n2_
                   have p183 : 0 ≤ (0 : Int) := (by omega)
                   have q183 : 0 < ([(⟨a0_0, a0_1, l0_2, l0_3⟩ : S30)].length : Int) := (by simp)
                   obtain ⟨ad183, A183_2, c183_2, A183_3, c183_3, e183, hx183_0, hx183_1, hx183_2, hx183_3, hl183_2, hi183_2, hl183_3, hi183_3⟩ := at_T30 HRp0.out 0 p183 q183
                   have hw183_3 := hx183_3
                   (try rw [show ((0 : Int)).toNat = 0 from rfl] at hw183_3)
                   (try rw [show 0 * 4 = 0 from rfl] at hw183_3)
                   (try rw [Addr.add_zero'] at hw183_3)
                   have hw183_2 := hx183_2
                   (try rw [show ((0 : Int)).toNat = 0 from rfl] at hw183_2)
                   (try rw [show 0 * 4 = 0 from rfl] at hw183_2)
                   (try rw [Addr.add_zero'] at hw183_2)
                   have hw183_1 := hx183_1
                   (try rw [show ((0 : Int)).toNat = 0 from rfl] at hw183_1)
                   (try rw [show 0 * 4 = 0 from rfl] at hw183_1)
                   (try rw [Addr.add_zero'] at hw183_1)
                   have hw183_0 := hx183_0
                   (try rw [show ((0 : Int)).toNat = 0 from rfl] at hw183_0)
                   (try rw [show 0 * 4 = 0 from rfl] at hw183_0)
                   (try rw [Addr.add_zero'] at hw183_0)
                   replace hx183_0 : _ = (some (.int .i64 a0_0) : Option Value) := hx183_0
                   replace hx183_1 : _ = (some (.int .i64 a0_1) : Option Value) := hx183_1
                   replace hx183_2 : _ = (some (.slice A183_2 l0_2.length c183_2) : Option Value) := hx183_2
                   replace hi183_2 : Kd.C (Kd.int .i64) _ _ l0_2.length l0_2 := hi183_2
                   replace hl183_2 : l0_2.length ≤ _ := hl183_2
                   replace hx183_3 : _ = (some (.slice A183_3 l0_3.length c183_3) : Option Value) := hx183_3
                   replace hi183_3 : Kd.C k67 _ _ l0_3.length l0_3 := hi183_3
                   replace hl183_3 : l0_3.length ≤ _ := hl183_3
                   obtain rfl : adp0 = ad183 := (by injection e183)
                   have qi183 : (0 < [(⟨a0_0, a0_1, l0_2, l0_3⟩ : S30)].length) = True := eq_true (by simp)
                   (try rw [show ((0 : Int)).toNat = 0 from rfl] at hx183_0)
                   (try rw [show 0 * 4 = 0 from rfl] at hx183_0)
                   (try rw [Addr.add_zero'] at hx183_0)
                   (try rw [show ((0 : Int)).toNat = 0 from rfl] at hx183_1)
                   (try rw [show 0 * 4 = 0 from rfl] at hx183_1)
                   (try rw [Addr.add_zero'] at hx183_1)
                   (try rw [show ((0 : Int)).toNat = 0 from rfl] at hx183_2)
                   (try rw [show 0 * 4 = 0 from rfl] at hx183_2)
                   (try rw [Addr.add_zero'] at hx183_2)
                   (try rw [show ((0 : Int)).toNat = 0 from rfl] at hx183_3)
                   (try rw [show 0 * 4 = 0 from rfl] at hx183_3)
                   (try rw [Addr.add_zero'] at hx183_3)
                   replace hx183_0 := (HB.out.cell (World.block_lt_of_cell? w _ hx183_0)).trans hx183_0
                   replace hx183_1 := (HB.out.cell (World.block_lt_of_cell? w _ hx183_1)).trans hx183_1
                   replace hx183_2 := (HB.out.cell (World.block_lt_of_cell? w _ hx183_2)).trans hx183_2
                   replace hx183_3 := (HB.out.cell (World.block_lt_of_cell? w _ hx183_3)).trans hx183_3
                   have HR183_2 := Aside0.mk hi183_2
                   have HC183_2 := Aside0.mk hl183_2
                   clear hi183_2 hl183_2
                   have HR183_3 := Aside0.mk hi183_3
                   have HC183_3 := Aside0.mk hl183_3
                   clear hi183_3 hl183_3
                   replace p183 := eq_true p183
                   replace q183 := eq_true q183
                   have p184 : 0 ≤ (x9_3 : Int) := of_decide_eq_true (by first | (with_reducible assumption) | assumption)
                   have q184 : x9_3 < (l0_3.length : Int) := of_decide_eq_true (by first | (with_reducible assumption) | assumption)
                   obtain ⟨ad184, e184, hx184_0, hx184_1, hx184_2⟩ := at_T67 HR183_3.out x9_3 p184 q184
                   have hw184_2 := hx184_2
                   have hw184_1 := hx184_1
                   have hw184_0 := hx184_0
                   cases e184
                   replace hx184_0 := (HB.out.cell (World.block_lt_of_cell? w _ hx184_0)).trans hx184_0
                   replace hx184_1 := (HB.out.cell (World.block_lt_of_cell? w _ hx184_1)).trans hx184_1
                   replace hx184_2 := (HB.out.cell (World.block_lt_of_cell? w _ hx184_2)).trans hx184_2
                   replace p184 := eq_true p184
                   replace q184 := eq_true q184
                   obtain ⟨Ao27, co27, eo27⟩ := Kd.R_slice HO_8.out
                   (first | subst eo27 | (injection eo27 with f1_ f2_ f3_; have f4_ := f1_.symm; have f5_ := f3_.symm; clear f1_ f2_ f3_; subst f4_; subst f5_))
                   have p185 : 0 ≤ (((rd_T67 l0_3 x9_3).f0) : Int) := of_decide_eq_true (by first | (with_reducible assumption) | assumption)
                   have q185 : ((rd_T67 l0_3 x9_3).f0) < (x8_3.length : Int) := of_decide_eq_true (by first | (with_reducible assumption) | assumption)
                   obtain ⟨ad185, e185, hx185_0⟩ := Kd.at_int (Kd.R_reads' HO_8.out).2.2 ((rd_T67 l0_3 x9_3).f0) p185 q185
                   cases e185
                   replace p185 := eq_true p185
                   replace q185 := eq_true q185
                   have p186 : 0 ≤ (0 : Int) := (by omega)
                   have q186 : 0 < ([(⟨a0_0, a0_1, l0_2, l0_3⟩ : S30)].length : Int) := (by simp)
                   obtain ⟨ad186, A186_2, c186_2, A186_3, c186_3, e186, hx186_0, hx186_1, hx186_2, hx186_3, hl186_2, hi186_2, hl186_3, hi186_3⟩ := at_T30 HRp0.out 0 p186 q186
                   have hw186_3 := hx186_3
                   (try rw [show ((0 : Int)).toNat = 0 from rfl] at hw186_3)
                   (try rw [show 0 * 4 = 0 from rfl] at hw186_3)
                   (try rw [Addr.add_zero'] at hw186_3)
                   have hw186_2 := hx186_2
                   (try rw [show ((0 : Int)).toNat = 0 from rfl] at hw186_2)
                   (try rw [show 0 * 4 = 0 from rfl] at hw186_2)
                   (try rw [Addr.add_zero'] at hw186_2)
                   have hw186_1 := hx186_1
                   (try rw [show ((0 : Int)).toNat = 0 from rfl] at hw186_1)
                   (try rw [show 0 * 4 = 0 from rfl] at hw186_1)
                   (try rw [Addr.add_zero'] at hw186_1)
                   have hw186_0 := hx186_0
                   (try rw [show ((0 : Int)).toNat = 0 from rfl] at hw186_0)
                   (try rw [show 0 * 4 = 0 from rfl] at hw186_0)
                   (try rw [Addr.add_zero'] at hw186_0)
                   replace hx186_0 : _ = (some (.int .i64 a0_0) : Option Value) := hx186_0
                   replace hx186_1 : _ = (some (.int .i64 a0_1) : Option Value) := hx186_1
                   replace hx186_2 : _ = (some (.slice A186_2 l0_2.length c186_2) : Option Value) := hx186_2
                   replace hi186_2 : Kd.C (Kd.int .i64) _ _ l0_2.length l0_2 := hi186_2
                   replace hl186_2 : l0_2.length ≤ _ := hl186_2
                   replace hx186_3 : _ = (some (.slice A186_3 l0_3.length c186_3) : Option Value) := hx186_3
                   replace hi186_3 : Kd.C k67 _ _ l0_3.length l0_3 := hi186_3
                   replace hl186_3 : l0_3.length ≤ _ := hl186_3
                   obtain rfl : adp0 = ad186 := (by injection e186)
                   have qi186 : (0 < [(⟨a0_0, a0_1, l0_2, l0_3⟩ : S30)].length) = True := eq_true (by simp)
                   (try rw [show ((0 : Int)).toNat = 0 from rfl] at hx186_0)
                   (try rw [show 0 * 4 = 0 from rfl] at hx186_0)
                   (try rw [Addr.add_zero'] at hx186_0)
                   (try rw [show ((0 : Int)).toNat = 0 from rfl] at hx186_1)
                   (try rw [show 0 * 4 = 0 from rfl] at hx186_1)
                   (try rw [Addr.add_zero'] at hx186_1)
                   (try rw [show ((0 : Int)).toNat = 0 from rfl] at hx186_2)
                   (try rw [show 0 * 4 = 0 from rfl] at hx186_2)
                   (try rw [Addr.add_zero'] at hx186_2)
                   (try rw [show ((0 : Int)).toNat = 0 from rfl] at hx186_3)
                   (try rw [show 0 * 4 = 0 from rfl] at hx186_3)
                   (try rw [Addr.add_zero'] at hx186_3)
                   replace hx186_0 := (HB.out.cell (World.block_lt_of_cell? w _ hx186_0)).trans hx186_0
                   replace hx186_1 := (HB.out.cell (World.block_lt_of_cell? w _ hx186_1)).trans hx186_1
                   replace hx186_2 := (HB.out.cell (World.block_lt_of_cell? w _ hx186_2)).trans hx186_2
                   replace hx186_3 := (HB.out.cell (World.block_lt_of_cell? w _ hx186_3)).trans hx186_3
                   have HR186_2 := Aside0.mk hi186_2
                   have HC186_2 := Aside0.mk hl186_2
                   clear hi186_2 hl186_2
                   have HR186_3 := Aside0.mk hi186_3
                   have HC186_3 := Aside0.mk hl186_3
                   clear hi186_3 hl186_3
                   replace p186 := eq_true p186
                   replace q186 := eq_true q186
                   have ea_ := Option.some.inj (hx183_2.symm.trans hx186_2)
                   injection ea_ with ea_ en_ ec_
                   subst ea_
                   subst ec_
                   clear en_
                   have ea_ := Option.some.inj (hx183_3.symm.trans hx186_3)
                   injection ea_ with ea_ en_ ec_
                   subst ea_
                   subst ec_
                   clear en_
                   have p187 : 0 ≤ (x9_3 : Int) := of_decide_eq_true (by first | (with_reducible assumption) | assumption)
                   have q187 : x9_3 < (l0_3.length : Int) := of_decide_eq_true (by first | (with_reducible assumption) | assumption)
                   obtain ⟨ad187, e187, hx187_0, hx187_1, hx187_2⟩ := at_T67 HR186_3.out x9_3 p187 q187
                   have hw187_2 := hx187_2
                   have hw187_1 := hx187_1
                   have hw187_0 := hx187_0
                   cases e187
                   replace hx187_0 := (HB.out.cell (World.block_lt_of_cell? w _ hx187_0)).trans hx187_0
                   replace hx187_1 := (HB.out.cell (World.block_lt_of_cell? w _ hx187_1)).trans hx187_1
                   replace hx187_2 := (HB.out.cell (World.block_lt_of_cell? w _ hx187_2)).trans hx187_2
                   replace p187 := eq_true p187
                   replace q187 := eq_true q187
                   obtain ⟨Ao28, co28, eo28⟩ := Kd.R_slice HO_5.out
                   (first | subst eo28 | (injection eo28 with f1_ f2_ f3_; have f4_ := f1_.symm; have f5_ := f3_.symm; clear f1_ f2_ f3_; subst f4_; subst f5_))
                   have p188 : 0 ≤ (((rd_T67 l0_3 x9_3).f2) : Int) := of_decide_eq_true (by first | (with_reducible assumption) | assumption)
                   have q188 : ((rd_T67 l0_3 x9_3).f2) < (x5_2.length : Int) := of_decide_eq_true (by first | (with_reducible assumption) | assumption)
                   obtain ⟨ad188, e188, hx188_0⟩ := Kd.at_int (Kd.R_reads' HO_5.out).2.2 ((rd_T67 l0_3 x9_3).f2) p188 q188
                   cases e188
                   replace p188 := eq_true p188
                   replace q188 := eq_true q188
                   have p25 : 0 ≤ (((rd_T67 l0_3 x9_3).f0) : Int) := of_decide_eq_true (by first | (with_reducible assumption) | assumption)
                   have q25 : (((rd_T67 l0_3 x9_3).f0) : Int) < ((x8_3.length : Int) : Int) := of_decide_eq_true (by first | (with_reducible assumption) | assumption)
                   obtain ⟨go25, co25, eo25, gb25, gl25, cl25, HG25⟩ := Kd.R_form HO_8.out (by omega)
                   (first | cases eo25 | (injection eo25 with ea_ en_ ec_; (first | subst ea_ | (injection ea_ with ea_; subst ea_)); subst ec_; clear en_))
                   have GB25 := Aside0.mk gb25
                   have GG25 := Aside0.mk HG25
                   clear gb25 gl25 HG25
                   (first | simp only [add_plain] at hx185_0 | skip)
                   obtain ⟨hx25_0, hf25_0⟩ := Kd.R_celln 0 HO_8.out (((rd_T67 l0_3 x9_3).f0) : Int) p25 q25
                   replace p25 := eq_true p25
                   replace q25 := eq_true q25
                   have HP29 := Kd.R_putn HO_8.out (((rd_T67 l0_3 x9_3).f0) : Int) (wrap64 ((rd x8_3 ((rd_T67 l0_3 x9_3).f0)) + (rd x5_2 ((rd_T67 l0_3 x9_3).f2))))
                   rw [← Ny189.out] at HP29
                   have HQ29 := Aside0.mk HP29
                   clear HP29
                   refine start_ (n := 25) (S := fun w' => w'.cell? adp0 = some (.int .i64 a0_0) ∧ w'.cell? ⟨adp0.block, adp0.off + 1, none⟩ = some (.int .i64 a0_1) ∧ w'.cell? ⟨adp0.block, adp0.off + 2, none⟩ = some (.slice A183_2 l0_2.length c183_2) ∧ w'.cell? ⟨adp0.block, adp0.off + 3, none⟩ = some (.slice (some ad184) l0_3.length c183_3) ∧ w'.cell? (ad184.add ((x9_3).toNat * 3)) = some (.int .i64 ((rd_T67 l0_3 x9_3).f0)) ∧ w'.cell? ⟨(ad184.add ((x9_3).toNat * 3)).block, (ad184.add ((x9_3).toNat * 3)).off + 1, none⟩ = some (.int .i64 ((rd_T67 l0_3 x9_3).f1)) ∧ w'.cell? ⟨(ad184.add ((x9_3).toNat * 3)).block, (ad184.add ((x9_3).toNat * 3)).off + 2, none⟩ = some (.int .i64 ((rd_T67 l0_3 x9_3).f2)) ∧ w'.cell? ⟨go25, (((rd_T67 l0_3 x9_3).f0)).toNat, none⟩ = some (.int .i64 (rd x8_3 ((rd_T67 l0_3 x9_3).f0))) ∧ w'.cell? adp0 = some (.int .i64 a0_0) ∧ w'.cell? ⟨adp0.block, adp0.off + 1, none⟩ = some (.int .i64 a0_1) ∧ w'.cell? ⟨adp0.block, adp0.off + 2, none⟩ = some (.slice A183_2 l0_2.length c183_2) ∧ w'.cell? ⟨adp0.block, adp0.off + 3, none⟩ = some (.slice (some ad184) l0_3.length c183_3) ∧ w'.cell? (ad184.add ((x9_3).toNat * 3)) = some (.int .i64 ((rd_T67 l0_3 x9_3).f0)) ∧ w'.cell? ⟨(ad184.add ((x9_3).toNat * 3)).block, (ad184.add ((x9_3).toNat * 3)).off + 1, none⟩ = some (.int .i64 ((rd_T67 l0_3 x9_3).f1)) ∧ w'.cell? ⟨(ad184.add ((x9_3).toNat * 3)).block, (ad184.add ((x9_3).toNat * 3)).off + 2, none⟩ = some (.int .i64 ((rd_T67 l0_3 x9_3).f2)) ∧ w'.cell? (ad188.add (((rd_T67 l0_3 x9_3).f2)).toNat) = some (.int .i64 (rd x5_2 ((rd_T67 l0_3 x9_3).f2)))) (ds := [24]) #[F,F,F,F,F,F,F,F,F,F,F,F,F,F,F,F,F,F,F,F,F,F,F,F,F] (by kernel_rfl) rfl rfl ⟨((HB.out.cell (World.block_lt_of_cell? w _ hw183_0)).trans hw183_0), ((HB.out.cell (World.block_lt_of_cell? w _ hw183_1)).trans hw183_1), ((HB.out.cell (World.block_lt_of_cell? w _ hw183_2)).trans hw183_2), ((HB.out.cell (World.block_lt_of_cell? w _ hw183_3)).trans hw183_3), ((HB.out.cell (World.block_lt_of_cell? w _ hw184_0)).trans hw184_0), ((HB.out.cell (World.block_lt_of_cell? w _ hw184_1)).trans hw184_1), ((HB.out.cell (World.block_lt_of_cell? w _ hw184_2)).trans hw184_2), hx185_0, ((HB.out.cell (World.block_lt_of_cell? w _ hw186_0)).trans hw186_0), ((HB.out.cell (World.block_lt_of_cell? w _ hw186_1)).trans hw186_1), ((HB.out.cell (World.block_lt_of_cell? w _ hw186_2)).trans hw186_2), ((HB.out.cell (World.block_lt_of_cell? w _ hw186_3)).trans hw186_3), ((HB.out.cell (World.block_lt_of_cell? w _ hw187_0)).trans hw187_0), ((HB.out.cell (World.block_lt_of_cell? w _ hw187_1)).trans hw187_1), ((HB.out.cell (World.block_lt_of_cell? w _ hw187_2)).trans hw187_2), hx188_0⟩ (fun hHeld => ?_); refine with_tabW spec_l07Counts.tab13 spec_l07Counts.bits13 (fun HT_ HW_ => ?_)
                   generalize wr.drew = w26 at HO_5 HO_8 HB GG25 HQ29 HR183_2 HR183_3 HR186_2 HR186_3 hf25_0 hx183_0 hx183_1 hx183_2 hx183_3 hx184_0 hx184_1 hx184_2 hx185_0 hx186_0 hx186_1 hx186_2 hx186_3 hx187_0 hx187_1 hx187_2 hx188_0 hx25_0 hHeld ⊢
                   refine pure_ (i := 0) (N := some 52) (v := ?_) (a' := ?_) #[T,F,F,F,F,F,F,F,F,F,F,F,F,F,F,F,F,F,F,F,F,F,F,F,F] rfl rfl (aO HT_.out (by kernel_rfl)) (fun _ _ _ h => h) (Or.inl ⟨by rfl, ?_⟩) ?_ ?_; rotate_left; (·intro w'; go_simp; with_reducible rfl); rotate_left; (·simp only [Act.put, sI, sZ, sS, iW, jW]; rfl)
                   refine pure_ (i := 1) (N := some 53) (v := ?_) (a' := ?_) #[T,T,F,F,F,F,F,F,F,F,F,F,F,F,F,F,F,F,F,F,F,F,F,F,F] rfl rfl (aO HT_.out (by kernel_rfl)) (fun _ _ _ h => h) (Or.inl ⟨by rfl, ?_⟩) ?_ ?_; rotate_left; (·intro w'; go_simp; with_reducible rfl); rotate_left; (·simp only [Act.put, sI, sZ, sS, iW, jW]; rfl)
                   refine pure_ (i := 2) (N := some 54) (v := ?_) (a' := ?_) #[T,T,T,F,F,F,F,F,F,F,F,F,F,F,F,F,F,F,F,F,F,F,F,F,F] rfl rfl (aO HT_.out (by kernel_rfl)) (fun _ _ _ h => h) (Or.inl ⟨by rfl, ?_⟩) ?_ ?_; rotate_left; (·intro w'; go_simp; with_reducible rfl); rotate_left; (·simp only [Act.put, sI, sZ, sS, iW, jW]; rfl)
                   refine pure_ (i := 3) (N := some 55) (v := ?_) (a' := ?_) #[T,T,T,T,F,F,F,F,F,F,F,F,F,F,F,F,F,F,F,F,F,F,F,F,F] rfl rfl (aO HT_.out (by kernel_rfl)) (fun _ _ _ h => h) (Or.inl ⟨by rfl, ?_⟩) ?_ ?_; rotate_left; (·intro w'; go_simp; with_reducible rfl); rotate_left; (·simp only [Act.put, sI, sZ, sS, iW, jW]; rfl)
                   refine pure_ (i := 5) (N := some 57) (v := ?_) (a' := ?_) #[T,T,T,T,F,T,F,F,F,F,F,F,F,F,F,F,F,F,F,F,F,F,F,F,F] rfl rfl (aO HT_.out (by kernel_rfl)) (fun _ _ _ h => h) (Or.inl ⟨by rfl, ?_⟩) ?_ ?_; rotate_left; (·intro w'; go_simp; with_reducible rfl); rotate_left; (·simp only [Act.put, sI, sZ, sS, iW, jW]; rfl)
                   refine pure_ (i := 11) (N := some 63) (v := ?_) (a' := ?_) #[T,T,T,T,F,T,F,F,F,F,F,T,F,F,F,F,F,F,F,F,F,F,F,F,F] rfl rfl (aO HT_.out (by kernel_rfl)) (fun _ _ _ h => h) (Or.inl ⟨by rfl, ?_⟩) ?_ ?_; rotate_left; (·intro w'; go_simp; with_reducible rfl); rotate_left; (·simp only [Act.put, sI, sZ, sS, iW, jW]; rfl)
                   refine pure_ (i := 12) (N := some 64) (v := ?_) (a' := ?_) #[T,T,T,T,F,T,F,F,F,F,F,T,T,F,F,F,F,F,F,F,F,F,F,F,F] rfl rfl (aO HT_.out (by kernel_rfl)) (fun _ _ _ h => h) (Or.inl ⟨by rfl, ?_⟩) ?_ ?_; rotate_left; (·intro w'; go_simp; with_reducible rfl); rotate_left; (·simp only [Act.put, sI, sZ, sS, iW, jW]; rfl)
                   refine pure_ (i := 13) (N := some 65) (v := ?_) (a' := ?_) #[T,T,T,T,F,T,F,F,F,F,F,T,T,T,F,F,F,F,F,F,F,F,F,F,F] rfl rfl (aO HT_.out (by kernel_rfl)) (fun _ _ _ h => h) (Or.inl ⟨by rfl, ?_⟩) ?_ ?_; rotate_left; (·intro w'; go_simp; with_reducible rfl); rotate_left; (·simp only [Act.put, sI, sZ, sS, iW, jW]; rfl)
                   refine pure_ (i := 14) (N := some 66) (v := ?_) (a' := ?_) #[T,T,T,T,F,T,F,F,F,F,F,T,T,T,T,F,F,F,F,F,F,F,F,F,F] rfl rfl (aO HT_.out (by kernel_rfl)) (fun _ _ _ h => h) (Or.inl ⟨by rfl, ?_⟩) ?_ ?_; rotate_left; (·intro w'; go_simp; with_reducible rfl); rotate_left; (·simp only [Act.put, sI, sZ, sS, iW, jW]; rfl)
                   refine pure_ (i := 16) (N := some 68) (v := ?_) (a' := ?_) #[T,T,T,T,F,T,F,F,F,F,F,T,T,T,T,F,T,F,F,F,F,F,F,F,F] rfl rfl (aO HT_.out (by kernel_rfl)) (fun _ _ _ h => h) (Or.inl ⟨by rfl, ?_⟩) ?_ ?_; rotate_left; (·intro w'; go_simp; with_reducible rfl); rotate_left; (·simp only [Act.put, sI, sZ, sS, iW, jW]; rfl)
                   refine take_ (i := 4) (N := some 56) (v := ?_) (a' := ?_) #[T,T,T,T,T,T,F,F,F,F,F,T,T,T,T,F,T,F,F,F,F,F,F,F,F] rfl rfl (tW HT_.out HW_.out (by kernel_rfl)) (fun _ _ _ h => h) (Or.inl ⟨by rfl, ?_⟩) hHeld ?_ ?_; rotate_left; (·rintro w' ⟨s0, s1, s2, s3, s4, s5, s6, s7, s8, s9, s10, s11, s12, s13, s14, s15⟩; go_simp; with_reducible rfl); rotate_left; (·simp only [Act.put, sI, sZ, sS, iW, jW]; rfl)
                   refine pure_ (i := 6) (N := some 58) (v := ?_) (a' := ?_) #[T,T,T,T,T,T,T,F,F,F,F,T,T,T,T,F,T,F,F,F,F,F,F,F,F] rfl rfl (aO HT_.out (by kernel_rfl)) (fun _ _ _ h => h) (Or.inl ⟨by rfl, ?_⟩) ?_ ?_; rotate_left; (·intro w'; go_simp; with_reducible rfl); rotate_left; (·simp only [Act.put, sI, sZ, sS, iW, jW]; rfl)
                   refine pure_ (i := 7) (N := some 59) (v := ?_) (a' := ?_) #[T,T,T,T,T,T,T,T,F,F,F,T,T,T,T,F,T,F,F,F,F,F,F,F,F] rfl rfl (aO HT_.out (by kernel_rfl)) (fun _ _ _ h => h) (Or.inl ⟨by rfl, ?_⟩) ?_ ?_; rotate_left; (·intro w'; go_simp; with_reducible rfl); rotate_left; (·simp only [Act.put, sI, sZ, sS, iW, jW]; rfl)
                   refine take_ (i := 8) (N := some 60) (v := ?_) (a' := ?_) #[T,T,T,T,T,T,T,T,T,F,F,T,T,T,T,F,T,F,F,F,F,F,F,F,F] rfl rfl (tW HT_.out HW_.out (by kernel_rfl)) (fun _ _ _ h => h) (Or.inl ⟨by rfl, ?_⟩) hHeld ?_ ?_; rotate_left; (·rintro w' ⟨s0, s1, s2, s3, s4, s5, s6, s7, s8, s9, s10, s11, s12, s13, s14, s15⟩; go_simp; with_reducible rfl); rotate_left; (·simp only [Act.put, sI, sZ, sS, iW, jW]; rfl)
                   refine pure_ (i := 9) (N := some 61) (v := ?_) (a' := ?_) #[T,T,T,T,T,T,T,T,T,T,F,T,T,T,T,F,T,F,F,F,F,F,F,F,F] rfl rfl (aO HT_.out (by kernel_rfl)) (fun _ _ _ h => h) (Or.inl ⟨by rfl, ?_⟩) ?_ ?_; rotate_left; (·intro w'; go_simp; with_reducible rfl); rotate_left; (·simp only [Act.put, sI, sZ, sS, iW, jW]; rfl)
                   refine take_ (i := 10) (N := some 62) (v := ?_) (a' := ?_) #[T,T,T,T,T,T,T,T,T,T,T,T,T,T,T,F,T,F,F,F,F,F,F,F,F] rfl rfl (tW HT_.out HW_.out (by kernel_rfl)) (fun _ _ _ h => h) (Or.inl ⟨by rfl, ?_⟩) hHeld ?_ ?_; rotate_left; (·rintro w' ⟨s0, s1, s2, s3, s4, s5, s6, s7, s8, s9, s10, s11, s12, s13, s14, s15⟩; go_simp; with_reducible rfl); rotate_left; (·simp only [Act.put, sI, sZ, sS, iW, jW]; rfl)
                   refine take_ (i := 15) (N := some 67) (v := ?_) (a' := ?_) #[T,T,T,T,T,T,T,T,T,T,T,T,T,T,T,T,T,F,F,F,F,F,F,F,F] rfl rfl (tW HT_.out HW_.out (by kernel_rfl)) (fun _ _ _ h => h) (Or.inl ⟨by rfl, ?_⟩) hHeld ?_ ?_; rotate_left; (·rintro w' ⟨s0, s1, s2, s3, s4, s5, s6, s7, s8, s9, s10, s11, s12, s13, s14, s15⟩; go_simp; with_reducible rfl); rotate_left; (·simp only [Act.put, sI, sZ, sS, iW, jW]; rfl)
                   refine pure_ (i := 17) (N := some 69) (v := ?_) (a' := ?_) #[T,T,T,T,T,T,T,T,T,T,T,T,T,T,T,T,T,T,F,F,F,F,F,F,F] rfl rfl (aO HT_.out (by kernel_rfl)) (fun _ _ _ h => h) (Or.inl ⟨by rfl, ?_⟩) ?_ ?_; rotate_left; (·intro w'; go_simp; with_reducible rfl); rotate_left; (·simp only [Act.put, sI, sZ, sS, iW, jW]; rfl)
                   refine pure_ (i := 18) (N := some 70) (v := ?_) (a' := ?_) #[T,T,T,T,T,T,T,T,T,T,T,T,T,T,T,T,T,T,T,F,F,F,F,F,F] rfl rfl (aO HT_.out (by kernel_rfl)) (fun _ _ _ h => h) (Or.inl ⟨by rfl, ?_⟩) ?_ ?_; rotate_left; (·intro w'; go_simp; with_reducible rfl); rotate_left; (·simp only [Act.put, sI, sZ, sS, iW, jW]; rfl)
                   refine take_ (i := 19) (N := some 71) (v := ?_) (a' := ?_) #[T,T,T,T,T,T,T,T,T,T,T,T,T,T,T,T,T,T,T,T,F,F,F,F,F] rfl rfl (tW HT_.out HW_.out (by kernel_rfl)) (fun _ _ _ h => h) (Or.inl ⟨by rfl, ?_⟩) hHeld ?_ ?_; rotate_left; (·rintro w' ⟨s0, s1, s2, s3, s4, s5, s6, s7, s8, s9, s10, s11, s12, s13, s14, s15⟩; go_simp; with_reducible rfl); rotate_left; (·simp only [Act.put, sI, sZ, sS, iW, jW]; rfl)
                   refine pure_ (i := 20) (N := some 72) (v := ?_) (a' := ?_) #[T,T,T,T,T,T,T,T,T,T,T,T,T,T,T,T,T,T,T,T,T,F,F,F,F] rfl rfl (aO HT_.out (by kernel_rfl)) (fun _ _ _ h => h) (Or.inl ⟨by rfl, ?_⟩) ?_ ?_; rotate_left; (·intro w'; go_simp; with_reducible rfl); rotate_left; (·simp only [Act.put, sI, sZ, sS, iW, jW]; rfl)
                   refine take_ (i := 21) (N := some 73) (v := ?_) (a' := ?_) #[T,T,T,T,T,T,T,T,T,T,T,T,T,T,T,T,T,T,T,T,T,T,F,F,F] rfl rfl (tW HT_.out HW_.out (by kernel_rfl)) (fun _ _ _ h => h) (Or.inl ⟨by rfl, ?_⟩) hHeld ?_ ?_; rotate_left; (·rintro w' ⟨s0, s1, s2, s3, s4, s5, s6, s7, s8, s9, s10, s11, s12, s13, s14, s15⟩; go_simp; with_reducible rfl); rotate_left; (·simp only [Act.put, sI, sZ, sS, iW, jW]; rfl)
                   refine pure_ (i := 22) (N := some 74) (v := ?_) (a' := ?_) #[T,T,T,T,T,T,T,T,T,T,T,T,T,T,T,T,T,T,T,T,T,T,T,F,F] rfl rfl (aO HT_.out (by kernel_rfl)) (fun _ _ _ h => h) (Or.inl ⟨by rfl, ?_⟩) ?_ ?_; rotate_left; (·intro w'; go_simp; with_reducible rfl); rotate_left; (·simp only [Act.put, sI, sZ, sS, iW, jW]; rfl)
                   refine pure_ (i := 23) (N := some 75) (v := ?_) (a' := ?_) #[T,T,T,T,T,T,T,T,T,T,T,T,T,T,T,T,T,T,T,T,T,T,T,T,F] rfl rfl (aO HT_.out (by kernel_rfl)) (fun _ _ _ h => h) (Or.inl ⟨by rfl, ?_⟩) ?_ ?_; rotate_left; (·intro w'; go_simp; with_reducible rfl); rotate_left; (·simp only [Act.put, sI, sZ, sS, iW, jW]; rfl)
                   refine last_ (i := 24) (N := none) #[T,T,T,T,T,T,T,T,T,T,T,T,T,T,T,T,T,T,T,T,T,T,T,T,T] rfl rfl (oO HT_.out (by kernel_rfl)) (by decide) (fun K hK => ?_)
                   refine skip_ (w1 := ?_) (by rfl) rfl ?_ ?_
                   rotate_left
                   ·go_simp
                    rfl
                   refine hK.out _ _ ?_
                   clear hK K
                   refine done_ (done_of HT_.out (by kernel_rfl)) ?_
                   try go_wp2
                   go_roundg k3
                   case measure => have := HK1.out; have := HK2.out; have := HK3.out; omega
                   case rel => exact ⟨(y189), (wrap64 (x9_3 + 1)), (by first | rfl | (simp; done) | (simp [*]; done)), H', ⟨by have := HK1.out; have := HK2.out; have := HK3.out; omega⟩, ⟨by (with_reducible repeat (first | apply rA | apply rN | apply rD)); exact rM (Kd.R_far (p := ⟨go25, (((rd_T67 l0_3 x9_3).f0) : Int).toNat, none⟩) (rM HO_5.out (fun k_ hk => (⟨hk, fun e_ => hk (by rw [e_]; rfl)⟩ : _ ∧ k_ ≠ go25))) (fun _ hk => hk.2) (.int .i64 (wrap64 ((rd x8_3 ((rd_T67 l0_3 x9_3).f0)) + (rd x5_2 ((rd_T67 l0_3 x9_3).f2)))))) (fun _ hk => hk.1)⟩, ⟨by (with_reducible repeat (first | apply rA | apply rN | apply rD)); exact HQ29.out⟩, ⟨by repeat (first | (with_reducible first | exact HB.out | apply bA | apply bN | apply bD | refine bS ?_ GB25.out) | exact HB.out)⟩⟩
                  ·rw [if_neg c24] at H
                   exact absurd H (by simp)
                 ·rw [if_neg c23] at H
                  exact absurd H (by simp)
                ·rw [if_neg c22] at H
                 exact absurd H (by simp)
               ·rw [if_neg c21] at H
                exact absurd H (by simp)
              ·rw [if_neg c20] at H
               exact absurd H (by simp)
             ·rw [if_neg c19] at H
              have c19b0 : decide (x9_3 < (l0_3.length : Int)) = false := decide_eq_false c19
              clear c19
              have H' := Aside0.mk H
              clear H
              have p182 : 0 ≤ (0 : Int) := (by omega)
              have q182 : 0 < ([(⟨a0_0, a0_1, l0_2, l0_3⟩ : S30)].length : Int) := (by simp)
              obtain ⟨ad182, A182_2, c182_2, A182_3, c182_3, e182, hx182_0, hx182_1, hx182_2, hx182_3, hl182_2, hi182_2, hl182_3, hi182_3⟩ := at_T30 HRp0.out 0 p182 q182
              replace hx182_0 : _ = (some (.int .i64 a0_0) : Option Value) := hx182_0
              replace hx182_1 : _ = (some (.int .i64 a0_1) : Option Value) := hx182_1
              replace hx182_2 : _ = (some (.slice A182_2 l0_2.length c182_2) : Option Value) := hx182_2
              replace hi182_2 : Kd.C (Kd.int .i64) _ _ l0_2.length l0_2 := hi182_2
              replace hl182_2 : l0_2.length ≤ _ := hl182_2
              replace hx182_3 : _ = (some (.slice A182_3 l0_3.length c182_3) : Option Value) := hx182_3
              replace hi182_3 : Kd.C k67 _ _ l0_3.length l0_3 := hi182_3
              replace hl182_3 : l0_3.length ≤ _ := hl182_3
              obtain rfl : adp0 = ad182 := (by injection e182)
              have qi182 : (0 < [(⟨a0_0, a0_1, l0_2, l0_3⟩ : S30)].length) = True := eq_true (by simp)
              (try rw [show ((0 : Int)).toNat = 0 from rfl] at hx182_0)
              (try rw [show 0 * 4 = 0 from rfl] at hx182_0)
              (try rw [Addr.add_zero'] at hx182_0)
              (try rw [show ((0 : Int)).toNat = 0 from rfl] at hx182_1)
              (try rw [show 0 * 4 = 0 from rfl] at hx182_1)
              (try rw [Addr.add_zero'] at hx182_1)
              (try rw [show ((0 : Int)).toNat = 0 from rfl] at hx182_2)
              (try rw [show 0 * 4 = 0 from rfl] at hx182_2)
              (try rw [Addr.add_zero'] at hx182_2)
              (try rw [show ((0 : Int)).toNat = 0 from rfl] at hx182_3)
              (try rw [show 0 * 4 = 0 from rfl] at hx182_3)
              (try rw [Addr.add_zero'] at hx182_3)
              replace hx182_0 := (HB.out.cell (World.block_lt_of_cell? w _ hx182_0)).trans hx182_0
              replace hx182_1 := (HB.out.cell (World.block_lt_of_cell? w _ hx182_1)).trans hx182_1
              replace hx182_2 := (HB.out.cell (World.block_lt_of_cell? w _ hx182_2)).trans hx182_2
              replace hx182_3 := (HB.out.cell (World.block_lt_of_cell? w _ hx182_3)).trans hx182_3
              have HR182_2 := Aside0.mk hi182_2
              have HC182_2 := Aside0.mk hl182_2
              clear hi182_2 hl182_2
              have HR182_3 := Aside0.mk hi182_3
              have HC182_3 := Aside0.mk hl182_3
              clear hi182_3 hl182_3
              replace p182 := eq_true p182
              replace q182 := eq_true q182
              go_wp2
              go_roundg k3
              case measure => have := HK1.out; have := HK2.out; have := HK3.out; omega
              case rel => exact ⟨(x8_3), (wrap64 (x7_2 + 1)), (by first | rfl | (simp; done) | (simp [*]; done)), H', ⟨by have := HK1.out; have := HK2.out; have := HK3.out; omega⟩, ⟨by (with_reducible repeat (first | apply rA | apply rN | apply rD)); exact rM HO_8.out (fun _ hk => trivial)⟩, ⟨by repeat (first | (with_reducible first | exact HB.out | apply bA | apply bN | apply bD) | exact HB.out)⟩⟩
          ·rw [if_neg c16] at H
           exact absurd H (by simp)
         ·rw [if_neg c15] at H
          exact absurd H (by simp)
        ·rw [if_neg c14] at H
         have c14b0 : decide (x7_2 < a1) = false := decide_eq_false c14
         clear c14
         obtain rfl := Option.some.inj H
         go_wp2
         go_ret
         exact ⟨_, by first | rfl | (simp [errW_none, errW_some] <;> rfl) | (simp [*, errW_none, errW_some] <;> rfl), by (with_reducible repeat (first | apply rA | apply rN | apply rD)); exact HO_5.out, by repeat (first | (with_reducible first | exact HB.out | apply bA | apply bN | apply bD) | exact HB.out)⟩
  ·rw [if_neg c4] at H
   exact absurd H (by simp)
 ·rw [if_neg c3] at H
  exact absurd H (by simp)

end Go.Proofs.Ytijbhcalknfijaa.M5
-- shrunk
-- tight
