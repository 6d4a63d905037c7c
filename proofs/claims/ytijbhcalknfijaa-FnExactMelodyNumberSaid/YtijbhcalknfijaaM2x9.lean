/- What functions of the given program compute, as plain Lean functions, and that the code comes to just that; by a program of this session over the kit's print. No condition. -/
import Derived.Test.YtijbhcalknfijaaM2x0
namespace Go.Proofs.Ytijbhcalknfijaa.M2
open Go.RowKit Go.Proofs.YtijbhcalknfijaaW.PrintWords Go.Proofs.YtijbhcalknfijaaW.PrintLast Go.Proofs.YtijbhcalknfijaaW.PrintMore
open Go.Proofs.YtijbhcalknfijaaW.PrintWords renaming below_alloc → bA, pw_below_drewN → bN, below_drew1 → bD, below_set → bS, below_size → bZ, below_step → bP
open Go.Proofs.YtijbhcalknfijaaW.PrintLast renaming take_ofW → tW, any_of → aO, one_of → oO, i64_w → iW, i32_w → jW
open Go.Proofs.YtijbhcalknfijaaW.PrintWords.Kd renaming R_alloc → rA, R_drewN → rN, R_drew → rD, R_lower → rL, R_elder' → rE, R_new' → rW, R_lt → rT, R_mono → rM
open List renaming setIfInBounds_toArray → sI, set_cons_zero → sZ, set_cons_succ → sS
open Bool renaming true → T, false → F
attribute [local go_sem] max2_int min2_int max_two min_two max_three min_three max_four min_four   -- for this text's walks alone
set_option linter.unusedVariables false
set_option linter.unusedSimpArgs false

/-! ### spec_l07Counts: function 67 -/
mutual
def spec_l07Counts.l0 : Nat → Int → List Int → Int → Int → Int → List Int → List (S67) → Option (List Int)
 | 0, _, _, _, _, _, _, _ => none
 | k + 1, x1, x5, x6, x1000, x1001, x1002, x1003 => if x6 < (x1002.length : Int) then (if 0 ≤ x6 then (if 0 ≤ (rd x1002 x6) then (if (rd x1002 x6) < (x5.length : Int) then (spec_l07Counts.l0 k x1 (x5.set ((rd x1002 x6) : Int).toNat 1) (wrap64 (x6 + 1)) x1000 x1001 x1002 x1003) else (none)) else (none)) else (none)) else (spec_l07Counts.l1 k x1 x5 0 x1000 x1001 x1002 x1003)
def spec_l07Counts.l1 : Nat → Int → List Int → Int → Int → Int → List Int → List (S67) → Option (List Int)
 | 0, _, _, _, _, _, _, _ => none
 | k + 1, x1, x5, x7, x1000, x1001, x1002, x1003 => if x7 < x1 then (if 0 ≤ x1000 then (if (x1000 : Int).toNat ≤ 35184372088832 then (spec_l07Counts.l2 k x1 x5 x7 (List.replicate (x1000 : Int).toNat 0) 0 x1000 x1001 x1002 x1003) else (none)) else (none)) else (some x5)
def spec_l07Counts.l2 : Nat → Int → List Int → Int → List Int → Int → Int → Int → List Int → List (S67) → Option (List Int)
 | 0, _, _, _, _, _, _, _, _, _ => none
 | k + 1, x1, x5, x7, x8, x9, x1000, x1001, x1002, x1003 => if x9 < (x1003.length : Int) then (if 0 ≤ x9 then (if 0 ≤ ((rd_T67 x1003 x9).f0) then (if ((rd_T67 x1003 x9).f0) < (x8.length : Int) then (if 0 ≤ ((rd_T67 x1003 x9).f2) then (if ((rd_T67 x1003 x9).f2) < (x5.length : Int) then (spec_l07Counts.l2 k x1 x5 x7 (x8.set (((rd_T67 x1003 x9).f0) : Int).toNat (wrap64 ((rd x8 ((rd_T67 x1003 x9).f0)) + (rd x5 ((rd_T67 x1003 x9).f2))))) (wrap64 (x9 + 1)) x1000 x1001 x1002 x1003) else (none)) else (none)) else (none)) else (none)) else (none)) else (spec_l07Counts.l1 k x1 x8 (wrap64 (x7 + 1)) x1000 x1001 x1002 x1003)
end
def spec_l07Counts.f (k : Nat) (a0_0 : Int) (a0_1 : Int) (l0_2 : List Int) (l0_3 : List (S67)) (a1 : Int) : Option (List Int) := if 0 ≤ a0_0 then (if (a0_0 : Int).toNat ≤ 35184372088832 then (spec_l07Counts.l0 k a1 (List.replicate (a0_0 : Int).toNat 0) 0 a0_0 a0_1 l0_2 l0_3) else (none)) else (none)
theorem spec_l07Counts.mono_l : ∀ k, (∀ y0 y1 y2 y3 y4 y5 y6, LeO (spec_l07Counts.l0 k y0 y1 y2 y3 y4 y5 y6) (spec_l07Counts.l0 (k + 1) y0 y1 y2 y3 y4 y5 y6)) ∧ (∀ y0 y1 y2 y3 y4 y5 y6, LeO (spec_l07Counts.l1 k y0 y1 y2 y3 y4 y5 y6) (spec_l07Counts.l1 (k + 1) y0 y1 y2 y3 y4 y5 y6)) ∧ (∀ y0 y1 y2 y3 y4 y5 y6 y7 y8, LeO (spec_l07Counts.l2 k y0 y1 y2 y3 y4 y5 y6 y7 y8) (spec_l07Counts.l2 (k + 1) y0 y1 y2 y3 y4 y5 y6 y7 y8))
 | 0 => ⟨fun _ _ _ _ _ _ _ r h => by simp [spec_l07Counts.l0] at h, fun _ _ _ _ _ _ _ r h => by simp [spec_l07Counts.l1] at h, fun _ _ _ _ _ _ _ _ _ r h => by simp [spec_l07Counts.l2] at h⟩
 | k + 1 => by
  obtain ⟨ih0, ih1, ih2⟩ := spec_l07Counts.mono_l k
  refine ⟨?_, ?_, ?_⟩
  ·intro y0 y1 y2 y3 y4 y5 y6
   unfold spec_l07Counts.l0
   repeat' first
   | (with_reducible exact ih0 _ _ _ _ _ _ _)
   | (with_reducible exact ih1 _ _ _ _ _ _ _)
   | (with_reducible exact ih2 _ _ _ _ _ _ _ _ _)
   | (with_reducible exact LeO.refl _)
   | (with_reducible exact LeO.none _)
   | (with_reducible refine LeO.ite ?_ ?_)
   | (with_reducible refine LeO.bind ?_ (fun _ => ?_))
   | exact ih0 _ _ _ _ _ _ _
   | exact ih1 _ _ _ _ _ _ _
   | exact ih2 _ _ _ _ _ _ _ _ _
   | exact LeO.none _
   | refine LeO.ite ?_ ?_
   | refine LeO.bind ?_ (fun _ => ?_)
  ·intro y0 y1 y2 y3 y4 y5 y6
   unfold spec_l07Counts.l1
   repeat' first
   | (with_reducible exact ih0 _ _ _ _ _ _ _)
   | (with_reducible exact ih1 _ _ _ _ _ _ _)
   | (with_reducible exact ih2 _ _ _ _ _ _ _ _ _)
   | (with_reducible exact LeO.refl _)
   | (with_reducible exact LeO.none _)
   | (with_reducible refine LeO.ite ?_ ?_)
   | (with_reducible refine LeO.bind ?_ (fun _ => ?_))
   | exact ih0 _ _ _ _ _ _ _
   | exact ih1 _ _ _ _ _ _ _
   | exact ih2 _ _ _ _ _ _ _ _ _
   | exact LeO.none _
   | refine LeO.ite ?_ ?_
   | refine LeO.bind ?_ (fun _ => ?_)
  ·intro y0 y1 y2 y3 y4 y5 y6 y7 y8
   unfold spec_l07Counts.l2
   repeat' first
   | (with_reducible exact ih0 _ _ _ _ _ _ _)
   | (with_reducible exact ih1 _ _ _ _ _ _ _)
   | (with_reducible exact ih2 _ _ _ _ _ _ _ _ _)
   | (with_reducible exact LeO.refl _)
   | (with_reducible exact LeO.none _)
   | (with_reducible refine LeO.ite ?_ ?_)
   | (with_reducible refine LeO.bind ?_ (fun _ => ?_))
   | exact ih0 _ _ _ _ _ _ _
   | exact ih1 _ _ _ _ _ _ _
   | exact ih2 _ _ _ _ _ _ _ _ _
   | exact LeO.none _
   | refine LeO.ite ?_ ?_
   | refine LeO.bind ?_ (fun _ => ?_)
theorem spec_l07Counts.mono : ∀ a0 a1 a2 a3 a4 k, LeO (spec_l07Counts.f k a0 a1 a2 a3 a4) (spec_l07Counts.f (k + 1) a0 a1 a2 a3 a4) := by
 intro a0 a1 a2 a3 a4 k
 obtain ⟨ih0, ih1, ih2⟩ := spec_l07Counts.mono_l k
 unfold spec_l07Counts.f
 repeat' first
   | (with_reducible exact ih0 _ _ _ _ _ _ _)
   | (with_reducible exact ih1 _ _ _ _ _ _ _)
   | (with_reducible exact ih2 _ _ _ _ _ _ _ _ _)
   | (with_reducible exact LeO.refl _)
   | (with_reducible exact LeO.none _)
   | (with_reducible refine LeO.ite ?_ ?_)
   | (with_reducible refine LeO.bind ?_ (fun _ => ?_))
   | exact ih0 _ _ _ _ _ _ _
   | exact ih1 _ _ _ _ _ _ _
   | exact ih2 _ _ _ _ _ _ _ _ _
   | exact LeO.none _
   | refine LeO.ite ?_ ?_
   | refine LeO.bind ?_ (fun _ => ?_)
def spec_l07Counts.T13 : Bool × List (List Nat × List Nat) := (true, [([], []), ([], []), ([1], [1]), ([2], [2]), ([3], [3]), ([], []), ([4, 5], [4, 5]), ([6], [6]), ([7], [7]), ([0, 8], [0, 8]), ([9], [9]), ([], []), ([], []), ([12], [12]), ([13], [13]), ([14], [14]), ([], []), ([15, 16], [15, 16]), ([17], [17]), ([18], [18]), ([11, 19], [11, 19]), ([20], [20]), ([10, 21], [10, 21]), ([0, 8, 0, 1, 2, 3, 4, 5, 6, 7, 8, 9, 10, 11, 12, 13, 14, 15, 16, 17, 18, 19, 20, 21, 22], [0, 8]), ([23, 22, 0, 1, 2, 3, 4, 5, 6, 7, 8, 9, 10, 11, 12, 13, 14, 15, 16, 17, 18, 19, 20, 21, 22], [22, 23])])
def spec_l07Counts.B13 : List Nat := [0, 0, 2, 6, 14, 0, 62, 126, 254, 511, 1023, 0, 0, 4096, 12288, 28672, 0, 126976, 258048, 520192, 1046528, 2095104, 4194303, 8388607, 16777215]
theorem spec_l07Counts.tab13 : rtab .any (opsOf Try.f67 13) = spec_l07Counts.T13 := by kernel_rfl
theorem spec_l07Counts.bits13 : waitsOk spec_l07Counts.T13.2 spec_l07Counts.B13 = true := by kernel_rfl
set_option maxHeartbeats 8000000 in
set_option maxRecDepth 100000 in
theorem spec_l07Counts.calls (k : Nat) (adp0 : Addr) (a0_0 : Int) (a0_1 : Int) (l0_2 : List Int) (l0_3 : List (S67)) (a1 : Int) (r : List Int) (w : World) (hp0 : Kd.C k30 w (some adp0) 1 [(⟨a0_0, a0_1, l0_2, l0_3⟩ : S30)]) (h : spec_l07Counts.f k a0_0 a0_1 l0_2 l0_3 a1 = some r) :
  Calls Try.prog 67 #[.pointer (some adp0), .int .i64 a1] w fun e w' => ∃ v0_ : Value, e = .returned (v0_) ∧ Kd.R (Kd.int .i64) 2 w' w.heap.size (fun _ => True) v0_ r ∧ Below w.heap.size w w' := by
 have HRp0 := Aside0.mk hp0
 clear hp0
 have HB := Aside0.mk (Below.refl w.heap.size w)
 have H : (if 0 ≤ a0_0 then (if (a0_0 : Int).toNat ≤ 35184372088832 then (spec_l07Counts.l0 k a1 (List.replicate (a0_0 : Int).toNat 0) 0 a0_0 a0_1 l0_2 l0_3) else (none)) else (none)) = some r := h
 clear h
 by_cases c3 : 0 ≤ a0_0
 ·rw [if_pos c3] at H
  have c3b0 := eq_true c3
  have c3b1 : decide (0 ≤ a0_0) = true := decide_eq_true c3
  clear c3
  by_cases c4 : (a0_0 : Int).toNat ≤ 35184372088832
  ·rw [if_pos c4] at H
   have c4b0 := eq_true c4
   have c4b1 : decide ((a0_0 : Int).toNat ≤ 35184372088832) = true := decide_eq_true c4
   clear c4
   obtain ⟨y161, hy161⟩ : ∃ y_ : List Int, y_ = (List.replicate (a0_0 : Int).toNat 0) := ⟨_, rfl⟩
   replace H : (spec_l07Counts.l0 k a1 y161 0 a0_0 a0_1 l0_2 l0_3) = some r := by first | (rw [hy161]; with_reducible exact H) | (have H2_ := (Option.bind_some _ _).symm.trans H; rw [hy161]; with_reducible exact H2_) | (have H2_ := (Option.bind_some _ _).symm.trans H; with_reducible exact H2_) | with_reducible exact H | (rw [hy161]; exact H) | exact H
   have Ny161 := Aside0.mk hy161
   clear hy161
   have H' := Aside0.mk H
   clear H
   have p160 : 0 ≤ (0 : Int) := (by omega)
   have q160 : 0 < ([(⟨a0_0, a0_1, l0_2, l0_3⟩ : S30)].length : Int) := (by simp)
   obtain ⟨ad160, A160_2, c160_2, A160_3, c160_3, e160, hx160_0, hx160_1, hx160_2, hx160_3, hl160_2, hi160_2, hl160_3, hi160_3⟩ := at_T30 HRp0.out 0 p160 q160
   replace hx160_0 : _ = (some (.int .i64 a0_0) : Option Value) := hx160_0
   replace hx160_1 : _ = (some (.int .i64 a0_1) : Option Value) := hx160_1
   replace hx160_2 : _ = (some (.slice A160_2 l0_2.length c160_2) : Option Value) := hx160_2
   replace hi160_2 : Kd.C (Kd.int .i64) _ _ l0_2.length l0_2 := hi160_2
   replace hl160_2 : l0_2.length ≤ _ := hl160_2
   replace hx160_3 : _ = (some (.slice A160_3 l0_3.length c160_3) : Option Value) := hx160_3
   replace hi160_3 : Kd.C k67 _ _ l0_3.length l0_3 := hi160_3
   replace hl160_3 : l0_3.length ≤ _ := hl160_3
   obtain rfl : adp0 = ad160 := (by injection e160)
   have qi160 : (0 < [(⟨a0_0, a0_1, l0_2, l0_3⟩ : S30)].length) = True := eq_true (by simp)
   (try rw [show ((0 : Int)).toNat = 0 from rfl] at hx160_0)
   (try rw [show 0 * 4 = 0 from rfl] at hx160_0)
   (try rw [Addr.add_zero'] at hx160_0)
   (try rw [show ((0 : Int)).toNat = 0 from rfl] at hx160_1)
   (try rw [show 0 * 4 = 0 from rfl] at hx160_1)
   (try rw [Addr.add_zero'] at hx160_1)
   (try rw [show ((0 : Int)).toNat = 0 from rfl] at hx160_2)
   (try rw [show 0 * 4 = 0 from rfl] at hx160_2)
   (try rw [Addr.add_zero'] at hx160_2)
   (try rw [show ((0 : Int)).toNat = 0 from rfl] at hx160_3)
   (try rw [show 0 * 4 = 0 from rfl] at hx160_3)
   (try rw [Addr.add_zero'] at hx160_3)
   have HR160_2 := Aside0.mk hi160_2
   have HC160_2 := Aside0.mk hl160_2
   clear hi160_2 hl160_2
   have HR160_3 := Aside0.mk hi160_3
   have HC160_3 := Aside0.mk hl160_3
   clear hi160_3 hl160_3
   replace p160 := eq_true p160
   replace q160 := eq_true q160
   go_enter Try.func67, Try.ntmps67
   go_wp2_with (first | ((with_reducible refine gate_dst (N := 14) rfl ?_); refine Kd.R_make (Kd.int .i64) _ 2 rfl (N := 14) rfl 22 _ _ rfl a0_0 rfl rfl Try.underlying22 (.int .i64 0) 8 info2 rfl (by decide) (by omega) 0 (ok := fun _ => True) (okp := fun _ => True) rfl (fun _ hk => hk) trivial (of_decide_eq_true (by first | (with_reducible assumption) | assumption)) (Nat.le_trans (Nat.mul_le_mul_right _ (of_decide_eq_true (by first | (with_reducible assumption) | assumption) : a0_0.toNat ≤ 35184372088832)) (by omega)) (Below.refl _ _) (Nat.le_refl _) ?_; intro v162 w5 ho6 hb hg_ hnew_; clear hg_ hnew_; (first | rw [← Ny161.out] at ho6 | (simp only [Int.reduceToNat] at ho6; rw [← Ny161.out] at ho6)); have n0_ := Aside0.mk (rL ho6 (bZ (by repeat (first | (with_reducible first | exact HB.out | apply bA | apply bN | apply bD) | exact HB.out)))); have n1_ := Aside0.mk (bP (by repeat (first | (with_reducible first | exact HB.out | apply bA | apply bN | apply bD) | exact HB.out)) hb); clear HB; have HO163 := n0_; have HB := n1_; clear n0_ n1_; clear hb ho6))
   go_loopg [6] k (fun kq v6 w' => ∃ (x5_1 : List Int) (x6_1 : Int), v6 = .int .i64 x6_1 ∧ Aside0 (spec_l07Counts.l0 kq a1 x5_1 x6_1 a0_0 a0_1 l0_2 l0_3 = some r) ∧ Aside0 (kq ≤ k) ∧ Aside0 (Kd.R (Kd.int .i64) 2 w' w.heap.size (fun _ => True) v162 x5_1) ∧ Aside0 (Below w.heap.size w w'))
   case atStart => exact ⟨(y161), (0), (by first | rfl | (simp; done) | (simp [*]; done)), H', ⟨Nat.le_refl _⟩, ⟨by (with_reducible repeat (first | apply rA | apply rN | apply rD)); exact HO163.out⟩, ⟨by repeat (first | (with_reducible first | exact HB.out | apply bA | apply bN | apply bD) | exact HB.out)⟩⟩
   case round =>
    clear H'
    try clear c1
    try clear p1
    try clear q1
    try clear hx1
    try clear qi1
    try clear p2
    try clear c3
    try clear c3b0
    try clear c3b1
    try clear c4
    try clear c4b0
    try clear c4b1
    try clear c6
    try clear hx160_0
    try clear hx160_1
    try clear hx160_2
    try clear hx160_3
    try clear p160
    try clear q160
    obtain ⟨x5_1, x6_1, rfl, HA, HK1, HO_5, HB⟩ := hrel
    cases gk with
    | zero => exact absurd HA.out (by simp [spec_l07Counts.l0])
    | succ k1 =>
     have H := HA.out
     clear HA
     simp only [spec_l07Counts.l0] at H
     by_cases c7 : x6_1 < (l0_2.length : Int)
     ·rw [if_pos c7] at H
      have c7b0 : decide (x6_1 < (l0_2.length : Int)) = true := decide_eq_true c7
      clear c7
      by_cases c8 : 0 ≤ x6_1
      ·rw [if_pos c8] at H
       have c8b0 : decide (0 ≤ x6_1) = true := decide_eq_true c8
       clear c8
       by_cases c9 : 0 ≤ (rd l0_2 x6_1)
       ·rw [if_pos c9] at H
        have c9b0 : decide (0 ≤ (rd l0_2 x6_1)) = true := decide_eq_true c9
        clear c9
        by_cases c10 : (rd l0_2 x6_1) < (x5_1.length : Int)
        ·rw [if_pos c10] at H
         have c10b0 : decide ((rd l0_2 x6_1) < (x5_1.length : Int)) = true := decide_eq_true c10
         clear c10
         obtain ⟨y167, hy167⟩ : ∃ y_ : List Int, y_ = (x5_1.set ((rd l0_2 x6_1) : Int).toNat 1) := ⟨_, rfl⟩
         replace H : (spec_l07Counts.l0 k1 a1 y167 (wrap64 (x6_1 + 1)) a0_0 a0_1 l0_2 l0_3) = some r := by first | (rw [hy167]; with_reducible exact H) | (have H2_ := (Option.bind_some _ _).symm.trans H; rw [hy167]; with_reducible exact H2_) | (have H2_ := (Option.bind_some _ _).symm.trans H; with_reducible exact H2_) | with_reducible exact H | (rw [hy167]; exact H) | exact H
         have Ny167 := Aside0.mk hy167
         clear hy167
         have H' := Aside0.mk H
         clear H
         have p164 : 0 ≤ (0 : Int) := (by omega)
         have q164 : 0 < ([(⟨a0_0, a0_1, l0_2, l0_3⟩ : S30)].length : Int) := (by simp)
         obtain ⟨ad164, A164_2, c164_2, A164_3, c164_3, e164, hx164_0, hx164_1, hx164_2, hx164_3, hl164_2, hi164_2, hl164_3, hi164_3⟩ := at_T30 HRp0.out 0 p164 q164
         replace hx164_0 : _ = (some (.int .i64 a0_0) : Option Value) := hx164_0
         replace hx164_1 : _ = (some (.int .i64 a0_1) : Option Value) := hx164_1
         replace hx164_2 : _ = (some (.slice A164_2 l0_2.length c164_2) : Option Value) := hx164_2
         replace hi164_2 : Kd.C (Kd.int .i64) _ _ l0_2.length l0_2 := hi164_2
         replace hl164_2 : l0_2.length ≤ _ := hl164_2
         replace hx164_3 : _ = (some (.slice A164_3 l0_3.length c164_3) : Option Value) := hx164_3
         replace hi164_3 : Kd.C k67 _ _ l0_3.length l0_3 := hi164_3
         replace hl164_3 : l0_3.length ≤ _ := hl164_3
         obtain rfl : adp0 = ad164 := (by injection e164)
         have qi164 : (0 < [(⟨a0_0, a0_1, l0_2, l0_3⟩ : S30)].length) = True := eq_true (by simp)
         (try rw [show ((0 : Int)).toNat = 0 from rfl] at hx164_0)
         (try rw [show 0 * 4 = 0 from rfl] at hx164_0)
         (try rw [Addr.add_zero'] at hx164_0)
         (try rw [show ((0 : Int)).toNat = 0 from rfl] at hx164_1)
         (try rw [show 0 * 4 = 0 from rfl] at hx164_1)
         (try rw [Addr.add_zero'] at hx164_1)
         (try rw [show ((0 : Int)).toNat = 0 from rfl] at hx164_2)
         (try rw [show 0 * 4 = 0 from rfl] at hx164_2)
         (try rw [Addr.add_zero'] at hx164_2)
         (try rw [show ((0 : Int)).toNat = 0 from rfl] at hx164_3)
         (try rw [show 0 * 4 = 0 from rfl] at hx164_3)
         (try rw [Addr.add_zero'] at hx164_3)
         replace hx164_0 := (HB.out.cell (World.block_lt_of_cell? w _ hx164_0)).trans hx164_0
         replace hx164_1 := (HB.out.cell (World.block_lt_of_cell? w _ hx164_1)).trans hx164_1
         replace hx164_2 := (HB.out.cell (World.block_lt_of_cell? w _ hx164_2)).trans hx164_2
         replace hx164_3 := (HB.out.cell (World.block_lt_of_cell? w _ hx164_3)).trans hx164_3
         have HR164_2 := Aside0.mk hi164_2
         have HC164_2 := Aside0.mk hl164_2
         clear hi164_2 hl164_2
         have HR164_3 := Aside0.mk hi164_3
         have HC164_3 := Aside0.mk hl164_3
         clear hi164_3 hl164_3
         replace p164 := eq_true p164
         replace q164 := eq_true q164
         have p165 : 0 ≤ (0 : Int) := (by omega)
         have q165 : 0 < ([(⟨a0_0, a0_1, l0_2, l0_3⟩ : S30)].length : Int) := (by simp)
         obtain ⟨ad165, A165_2, c165_2, A165_3, c165_3, e165, hx165_0, hx165_1, hx165_2, hx165_3, hl165_2, hi165_2, hl165_3, hi165_3⟩ := at_T30 HRp0.out 0 p165 q165
         replace hx165_0 : _ = (some (.int .i64 a0_0) : Option Value) := hx165_0
         replace hx165_1 : _ = (some (.int .i64 a0_1) : Option Value) := hx165_1
         replace hx165_2 : _ = (some (.slice A165_2 l0_2.length c165_2) : Option Value) := hx165_2
         replace hi165_2 : Kd.C (Kd.int .i64) _ _ l0_2.length l0_2 := hi165_2
         replace hl165_2 : l0_2.length ≤ _ := hl165_2
         replace hx165_3 : _ = (some (.slice A165_3 l0_3.length c165_3) : Option Value) := hx165_3
         replace hi165_3 : Kd.C k67 _ _ l0_3.length l0_3 := hi165_3
         replace hl165_3 : l0_3.length ≤ _ := hl165_3
         obtain rfl : adp0 = ad165 := (by injection e165)
         have qi165 : (0 < [(⟨a0_0, a0_1, l0_2, l0_3⟩ : S30)].length) = True := eq_true (by simp)
         (try rw [show ((0 : Int)).toNat = 0 from rfl] at hx165_0)
         (try rw [show 0 * 4 = 0 from rfl] at hx165_0)
         (try rw [Addr.add_zero'] at hx165_0)
         (try rw [show ((0 : Int)).toNat = 0 from rfl] at hx165_1)
         (try rw [show 0 * 4 = 0 from rfl] at hx165_1)
         (try rw [Addr.add_zero'] at hx165_1)
         (try rw [show ((0 : Int)).toNat = 0 from rfl] at hx165_2)
         (try rw [show 0 * 4 = 0 from rfl] at hx165_2)
         (try rw [Addr.add_zero'] at hx165_2)
         (try rw [show ((0 : Int)).toNat = 0 from rfl] at hx165_3)
         (try rw [show 0 * 4 = 0 from rfl] at hx165_3)
         (try rw [Addr.add_zero'] at hx165_3)
         replace hx165_0 := (HB.out.cell (World.block_lt_of_cell? w _ hx165_0)).trans hx165_0
         replace hx165_1 := (HB.out.cell (World.block_lt_of_cell? w _ hx165_1)).trans hx165_1
         replace hx165_2 := (HB.out.cell (World.block_lt_of_cell? w _ hx165_2)).trans hx165_2
         replace hx165_3 := (HB.out.cell (World.block_lt_of_cell? w _ hx165_3)).trans hx165_3
         have HR165_2 := Aside0.mk hi165_2
         have HC165_2 := Aside0.mk hl165_2
         clear hi165_2 hl165_2
         have HR165_3 := Aside0.mk hi165_3
         have HC165_3 := Aside0.mk hl165_3
         clear hi165_3 hl165_3
         replace p165 := eq_true p165
         replace q165 := eq_true q165
         have ea_ := Option.some.inj (hx164_2.symm.trans hx165_2)
         injection ea_ with ea_ en_ ec_
         subst ea_
         subst ec_
         clear en_
         have ea_ := Option.some.inj (hx164_3.symm.trans hx165_3)
         injection ea_ with ea_ en_ ec_
         subst ea_
         subst ec_
         clear en_
         have p166 : 0 ≤ (x6_1 : Int) := of_decide_eq_true (by first | (with_reducible assumption) | assumption)
         have q166 : x6_1 < (l0_2.length : Int) := of_decide_eq_true (by first | (with_reducible assumption) | assumption)
         obtain ⟨ad166, e166, hx166_0⟩ := Kd.at_int HR165_2.out x6_1 p166 q166
         cases e166
         replace hx166_0 := (HB.out.cell (World.block_lt_of_cell? w _ hx166_0)).trans hx166_0
         replace p166 := eq_true p166
         replace q166 := eq_true q166
         have p11 : 0 ≤ ((rd l0_2 x6_1) : Int) := of_decide_eq_true (by first | (with_reducible assumption) | assumption)
         have q11 : ((rd l0_2 x6_1) : Int) < ((x5_1.length : Int) : Int) := of_decide_eq_true (by first | (with_reducible assumption) | assumption)
         obtain ⟨go11, co11, eo11, gb11, gl11, cl11, HG11⟩ := Kd.R_form HO_5.out (by omega)
         (first | cases eo11 | (injection eo11 with ea_ en_ ec_; (first | subst ea_ | (injection ea_ with ea_; subst ea_)); subst ec_; clear en_))
         have GB11 := Aside0.mk gb11
         have GG11 := Aside0.mk HG11
         clear gb11 gl11 HG11
         obtain ⟨hx11_0, hf11_0⟩ := Kd.R_celln 0 HO_5.out ((rd l0_2 x6_1) : Int) p11 q11
         replace p11 := eq_true p11
         replace q11 := eq_true q11
         have HP12 := Kd.R_putg HO_5.out ((rd l0_2 x6_1) : Int) 1
         go_wp2_with (first | ((with_reducible refine gate_store (t := 2) (p := 32) rfl ?_); refine store_event (t := 2) (p := 32) (v := ?vo_w13) (w1 := (wr.setCell ⟨go11, ((rd l0_2 x6_1) : Int).toNat, none⟩ (.int .i64 1))) ?hg ?ho ?hn ?hr ?_; (case ho => rfl); (case hg => rfl); (case hn => rfl); (case hr => first | (go_simp; done) | (go_simp; rfl)); intro w13 hw; have hg : wr.grownBy w13 (some go11) := (by rw [hw]; exact HP12.2); have hp_ : Kd.R (Kd.int .i64) 2 w13 w.heap.size (fun _ => True) (.slice (some ⟨go11, 0, none⟩) x5_1.length co11) y167 := (by rw [hw, Ny167.out]; exact HP12.1); clear HP12; have n0_ := Aside0.mk (hp_); have n1_ := Aside0.mk ((by rw [hw]; exact bS (HB.out) GB11.out : Below w.heap.size w w13)); clear HO_5; clear HB; have HO_5 := n0_; have HB := n1_; clear n0_ n1_; clear hg hw hp_))
         go_roundg k1
         case measure => have := HK1.out; omega
         case rel => exact ⟨(y167), (wrap64 (x6_1 + 1)), (by first | rfl | (simp; done) | (simp [*]; done)), H', ⟨by have := HK1.out; omega⟩, ⟨by (with_reducible repeat (first | apply rA | apply rN | apply rD)); exact HO_5.out⟩, ⟨by repeat (first | (with_reducible first | exact HB.out | apply bA | apply bN | apply bD) | exact HB.out)⟩⟩
        ·rw [if_neg c10] at H
         exact absurd H (by simp)
       ·rw [if_neg c9] at H
        exact absurd H (by simp)
      ·rw [if_neg c8] at H
       exact absurd H (by simp)
     ·rw [if_neg c7] at H
      have c7b0 : decide (x6_1 < (l0_2.length : Int)) = false := decide_eq_false c7
      clear c7
      have H' := Aside0.mk H
      clear H
      have p164 : 0 ≤ (0 : Int) := (by omega)
      have q164 : 0 < ([(⟨a0_0, a0_1, l0_2, l0_3⟩ : S30)].length : Int) := (by simp)
      obtain ⟨ad164, A164_2, c164_2, A164_3, c164_3, e164, hx164_0, hx164_1, hx164_2, hx164_3, hl164_2, hi164_2, hl164_3, hi164_3⟩ := at_T30 HRp0.out 0 p164 q164
      replace hx164_0 : _ = (some (.int .i64 a0_0) : Option Value) := hx164_0
      replace hx164_1 : _ = (some (.int .i64 a0_1) : Option Value) := hx164_1
      replace hx164_2 : _ = (some (.slice A164_2 l0_2.length c164_2) : Option Value) := hx164_2
      replace hi164_2 : Kd.C (Kd.int .i64) _ _ l0_2.length l0_2 := hi164_2
      replace hl164_2 : l0_2.length ≤ _ := hl164_2
      replace hx164_3 : _ = (some (.slice A164_3 l0_3.length c164_3) : Option Value) := hx164_3
      replace hi164_3 : Kd.C k67 _ _ l0_3.length l0_3 := hi164_3
      replace hl164_3 : l0_3.length ≤ _ := hl164_3
      obtain rfl : adp0 = ad164 := (by injection e164)
      have qi164 : (0 < [(⟨a0_0, a0_1, l0_2, l0_3⟩ : S30)].length) = True := eq_true (by simp)
      (try rw [show ((0 : Int)).toNat = 0 from rfl] at hx164_0)
      (try rw [show 0 * 4 = 0 from rfl] at hx164_0)
      (try rw [Addr.add_zero'] at hx164_0)
      (try rw [show ((0 : Int)).toNat = 0 from rfl] at hx164_1)
      (try rw [show 0 * 4 = 0 from rfl] at hx164_1)
      (try rw [Addr.add_zero'] at hx164_1)
      (try rw [show ((0 : Int)).toNat = 0 from rfl] at hx164_2)
      (try rw [show 0 * 4 = 0 from rfl] at hx164_2)
      (try rw [Addr.add_zero'] at hx164_2)
      (try rw [show ((0 : Int)).toNat = 0 from rfl] at hx164_3)
      (try rw [show 0 * 4 = 0 from rfl] at hx164_3)
      (try rw [Addr.add_zero'] at hx164_3)
      replace hx164_0 := (HB.out.cell (World.block_lt_of_cell? w _ hx164_0)).trans hx164_0
      replace hx164_1 := (HB.out.cell (World.block_lt_of_cell? w _ hx164_1)).trans hx164_1
      replace hx164_2 := (HB.out.cell (World.block_lt_of_cell? w _ hx164_2)).trans hx164_2
      replace hx164_3 := (HB.out.cell (World.block_lt_of_cell? w _ hx164_3)).trans hx164_3
      have HR164_2 := Aside0.mk hi164_2
      have HC164_2 := Aside0.mk hl164_2
      clear hi164_2 hl164_2
      have HR164_3 := Aside0.mk hi164_3
      have HC164_3 := Aside0.mk hl164_3
      clear hi164_3 hl164_3
      replace p164 := eq_true p164
      replace q164 := eq_true q164
      go_wp2
      go_loopg [5, 7] k1 (fun kq v5 v7 w' => ∃ (x5_2 : List Int) (x7_2 : Int), v7 = .int .i64 x7_2 ∧ Aside0 (spec_l07Counts.l1 kq a1 x5_2 x7_2 a0_0 a0_1 l0_2 l0_3 = some r) ∧ Aside0 (kq ≤ k1) ∧ Aside0 (Kd.R (Kd.int .i64) 2 w' w.heap.size (fun _ => True) v5 x5_2) ∧ Aside0 (Below w.heap.size w w'))
      case atStart => exact ⟨(x5_1), (0), (by first | rfl | (simp; done) | (simp [*]; done)), H', ⟨Nat.le_refl _⟩, ⟨by (with_reducible repeat (first | apply rA | apply rN | apply rD)); exact HO_5.out⟩, ⟨by repeat (first | (with_reducible first | exact HB.out | apply bA | apply bN | apply bD) | exact HB.out)⟩⟩
      case round =>
       clear H'
       try clear c1
       try clear p1
       try clear q1
       try clear hx1
       try clear qi1
       try clear p2
       try clear c3
       try clear c3b0
       try clear c3b1
       try clear c4
       try clear c4b0
       try clear c4b1
       try clear c6
       try clear p6
       try clear c7
       try clear c7b0
       try clear c8
       try clear c8b0
       try clear c9
       try clear c9b0
       try clear c10
       try clear c10b0
       try clear p11
       try clear q11
       try clear hx11
       try clear hf11
       try clear hx11_0
       try clear hx160_0
       try clear hx160_1
       try clear hx160_2
       try clear hx160_3
       try clear hx164_0
       try clear hx164_1
       try clear hx164_2
       try clear hx164_3
       try clear hx165_0
       try clear hx165_1
       try clear hx165_2
       try clear hx165_3
       try clear hx166_0
       try clear p1
       try clear p11
       try clear p160
       try clear p164
       try clear p165
       try clear p166
       try clear p2
       try clear q1
       try clear q11
       try clear q160
       try clear q164
       try clear q165
       try clear q166
       obtain ⟨x5_2, x7_2, rfl, HA, HK2, HO_5, HB⟩ := hrel
       cases gk with
       | zero => exact absurd HA.out (by simp [spec_l07Counts.l1])
       | succ k2 =>
        have H := HA.out
        clear HA
        simp only [spec_l07Counts.l1] at H
        by_cases c14 : x7_2 < a1
        ·rw [if_pos c14] at H
         have c14b0 : decide (x7_2 < a1) = true := decide_eq_true c14
         clear c14
         by_cases c15 : 0 ≤ a0_0
         ·rw [if_pos c15] at H
          have c15b0 := eq_true c15
          have c15b1 : decide (0 ≤ a0_0) = true := decide_eq_true c15
          clear c15
          by_cases c16 : (a0_0 : Int).toNat ≤ 35184372088832
          ·rw [if_pos c16] at H
           have c16b0 := eq_true c16
           have c16b1 : decide ((a0_0 : Int).toNat ≤ 35184372088832) = true := decide_eq_true c16
           clear c16
           obtain ⟨y169, hy169⟩ : ∃ y_ : List Int, y_ = (List.replicate (a0_0 : Int).toNat 0) := ⟨_, rfl⟩
           replace H : (spec_l07Counts.l2 k2 a1 x5_2 x7_2 y169 0 a0_0 a0_1 l0_2 l0_3) = some r := by first | (rw [hy169]; with_reducible exact H) | (have H2_ := (Option.bind_some _ _).symm.trans H; rw [hy169]; with_reducible exact H2_) | (have H2_ := (Option.bind_some _ _).symm.trans H; with_reducible exact H2_) | with_reducible exact H | (rw [hy169]; exact H) | exact H
           have Ny169 := Aside0.mk hy169
           clear hy169
           have H' := Aside0.mk H
           clear H
           have p168 : 0 ≤ (0 : Int) := (by omega)
           have q168 : 0 < ([(⟨a0_0, a0_1, l0_2, l0_3⟩ : S30)].length : Int) := (by simp)
           obtain ⟨ad168, A168_2, c168_2, A168_3, c168_3, e168, hx168_0, hx168_1, hx168_2, hx168_3, hl168_2, hi168_2, hl168_3, hi168_3⟩ := at_T30 HRp0.out 0 p168 q168
           replace hx168_0 : _ = (some (.int .i64 a0_0) : Option Value) := hx168_0
           replace hx168_1 : _ = (some (.int .i64 a0_1) : Option Value) := hx168_1
           replace hx168_2 : _ = (some (.slice A168_2 l0_2.length c168_2) : Option Value) := hx168_2
           replace hi168_2 : Kd.C (Kd.int .i64) _ _ l0_2.length l0_2 := hi168_2
           replace hl168_2 : l0_2.length ≤ _ := hl168_2
           replace hx168_3 : _ = (some (.slice A168_3 l0_3.length c168_3) : Option Value) := hx168_3
           replace hi168_3 : Kd.C k67 _ _ l0_3.length l0_3 := hi168_3
           replace hl168_3 : l0_3.length ≤ _ := hl168_3
           obtain rfl : adp0 = ad168 := (by injection e168)
           have qi168 : (0 < [(⟨a0_0, a0_1, l0_2, l0_3⟩ : S30)].length) = True := eq_true (by simp)
           (try rw [show ((0 : Int)).toNat = 0 from rfl] at hx168_0)
           (try rw [show 0 * 4 = 0 from rfl] at hx168_0)
           (try rw [Addr.add_zero'] at hx168_0)
           (try rw [show ((0 : Int)).toNat = 0 from rfl] at hx168_1)
           (try rw [show 0 * 4 = 0 from rfl] at hx168_1)
           (try rw [Addr.add_zero'] at hx168_1)
           (try rw [show ((0 : Int)).toNat = 0 from rfl] at hx168_2)
           (try rw [show 0 * 4 = 0 from rfl] at hx168_2)
           (try rw [Addr.add_zero'] at hx168_2)
           (try rw [show ((0 : Int)).toNat = 0 from rfl] at hx168_3)
           (try rw [show 0 * 4 = 0 from rfl] at hx168_3)
           (try rw [Addr.add_zero'] at hx168_3)
           replace hx168_0 := (HB.out.cell (World.block_lt_of_cell? w _ hx168_0)).trans hx168_0
           replace hx168_1 := (HB.out.cell (World.block_lt_of_cell? w _ hx168_1)).trans hx168_1
           replace hx168_2 := (HB.out.cell (World.block_lt_of_cell? w _ hx168_2)).trans hx168_2
           replace hx168_3 := (HB.out.cell (World.block_lt_of_cell? w _ hx168_3)).trans hx168_3
           have HR168_2 := Aside0.mk hi168_2
           have HC168_2 := Aside0.mk hl168_2
           clear hi168_2 hl168_2
           have HR168_3 := Aside0.mk hi168_3
           have HC168_3 := Aside0.mk hl168_3
           clear hi168_3 hl168_3
           replace p168 := eq_true p168
           replace q168 := eq_true q168
           go_wp2_with (first | ((with_reducible refine gate_dst (N := 42) rfl ?_); refine Kd.R_make (Kd.int .i64) _ 2 rfl (N := 42) rfl 22 _ _ rfl a0_0 rfl rfl Try.underlying22 (.int .i64 0) 8 info2 rfl (by decide) (by omega) 0 (ok := fun _ => True) (okp := fun _ => True) rfl (fun _ hk => hk) trivial (of_decide_eq_true (by first | (with_reducible assumption) | assumption)) (Nat.le_trans (Nat.mul_le_mul_right _ (of_decide_eq_true (by first | (with_reducible assumption) | assumption) : a0_0.toNat ≤ 35184372088832)) (by omega)) (Below.refl _ _) (Nat.le_refl _) ?_; intro v170 w17 ho18 hb hg_ hnew_; clear hg_ hnew_; (first | rw [← Ny169.out] at ho18 | (simp only [Int.reduceToNat] at ho18; rw [← Ny169.out] at ho18)); have n0_ := Aside0.mk (rE (by (with_reducible repeat (first | apply rA | apply rN | apply rD)); exact HO_5.out) (Kd.R_base ho18) hb); have n1_ := Aside0.mk (rL (rW ho18 (rT (by (with_reducible repeat (first | apply rA | apply rN | apply rD)); exact HO_5.out))) (bZ (by repeat (first | (with_reducible first | exact HB.out | apply bA | apply bN | apply bD) | exact HB.out)))); have n2_ := Aside0.mk (bP (by repeat (first | (with_reducible first | exact HB.out | apply bA | apply bN | apply bD) | exact HB.out)) hb); clear HO_5; clear HB; have HO_5 := n0_; have HO171 := n1_; have HB := n2_; clear n0_ n1_ n2_; clear hb ho18))
           go_loopg [9] k2 (fun kq v9 w' => ∃ (x8_3 : List Int) (x9_3 : Int), v9 = .int .i64 x9_3 ∧ Aside0 (spec_l07Counts.l2 kq a1 x5_2 x7_2 x8_3 x9_3 a0_0 a0_1 l0_2 l0_3 = some r) ∧ Aside0 (kq ≤ k2) ∧ Aside0 (Kd.R (Kd.int .i64) 2 w' w.heap.size (fun k_ => some k_ ≠ (v170 : Value).ownBlock) u5 x5_2) ∧ Aside0 (Kd.R (Kd.int .i64) 2 w' w.heap.size (fun k_ => some k_ ≠ (u5 : Value).ownBlock) v170 x8_3) ∧ Aside0 (Below w.heap.size w w'))
           case atStart => exact ⟨(y169), (0), (by first | rfl | (simp; done) | (simp [*]; done)), H', ⟨Nat.le_refl _⟩, ⟨by (with_reducible repeat (first | apply rA | apply rN | apply rD)); exact rM HO_5.out (fun _ hk => hk.2)⟩, ⟨by (with_reducible repeat (first | apply rA | apply rN | apply rD)); exact rM HO171.out (fun _ hk => hk.2)⟩, ⟨by repeat (first | (with_reducible first | exact HB.out | apply bA | apply bN | apply bD) | exact HB.out)⟩⟩
           case round =>
            clear H'
            try clear c1
            try clear p1
            try clear q1
            try clear hx1
            try clear qi1
            try clear p2
            try clear c3
            try clear c3b0
            try clear c3b1
            try clear c4
            try clear c4b0
            try clear c4b1
            try clear c6
            try clear p6
            try clear c7
            try clear c7b0
            try clear c8
            try clear c8b0
            try clear c9
            try clear c9b0
            try clear c10
            try clear c10b0
            try clear p11
            try clear q11
            try clear hx11
            try clear hf11
            try clear c14
            try clear c14b0
            try clear c15
            try clear c15b0
            try clear c15b1
            try clear c16
            try clear c16b0
            try clear c16b1
            try clear p16
            try clear q16
            try clear hx16
            try clear qi16
            try clear hx11_0
            try clear hx160_0
            try clear hx160_1
            try clear hx160_2
            try clear hx160_3
            try clear hx164_0
            try clear hx164_1
            try clear hx164_2
            try clear hx164_3
            try clear hx165_0
            try clear hx165_1
            try clear hx165_2
            try clear hx165_3
            try clear hx166_0
            try clear hx168_0
            try clear hx168_1
            try clear hx168_2
            try clear hx168_3
            try clear p1
            try clear p11
            try clear p160
            try clear p164
            try clear p165
            try clear p166
            try clear p168
            try clear p2
            try clear p6
            try clear q1
            try clear q11
            try clear q160
            try clear q164
            try clear q165
            try clear q166
            try clear q168
            obtain ⟨x8_3, x9_3, rfl, HA, HK3, HO_5, HO_8, HB⟩ := hrel
            cases gk with
            | zero => exact absurd HA.out (by simp [spec_l07Counts.l2])
            | succ k3 =>
             have H := HA.out
             clear HA
             simp only [spec_l07Counts.l2] at H
             by_cases c19 : x9_3 < (l0_3.length : Int)
             ·rw [if_pos c19] at H
              have c19b0 : decide (x9_3 < (l0_3.length : Int)) = true := decide_eq_true c19
              clear c19
              by_cases c20 : 0 ≤ x9_3
              ·rw [if_pos c20] at H
               have c20b0 : decide (0 ≤ x9_3) = true := decide_eq_true c20
               clear c20
               by_cases c21 : 0 ≤ ((rd_T67 l0_3 x9_3).f0)
               ·rw [if_pos c21] at H
                have c21b0 : decide (0 ≤ ((rd_T67 l0_3 x9_3).f0)) = true := decide_eq_true c21
                clear c21
                by_cases c22 : ((rd_T67 l0_3 x9_3).f0) < (x8_3.length : Int)
                ·rw [if_pos c22] at H
                 have c22b0 : decide (((rd_T67 l0_3 x9_3).f0) < (x8_3.length : Int)) = true := decide_eq_true c22
                 clear c22
                 by_cases c23 : 0 ≤ ((rd_T67 l0_3 x9_3).f2)
                 ·rw [if_pos c23] at H
                  have c23b0 : decide (0 ≤ ((rd_T67 l0_3 x9_3).f2)) = true := decide_eq_true c23
                  clear c23
                  by_cases c24 : ((rd_T67 l0_3 x9_3).f2) < (x5_2.length : Int)
                  ·rw [if_pos c24] at H
                   have c24b0 : decide (((rd_T67 l0_3 x9_3).f2) < (x5_2.length : Int)) = true := decide_eq_true c24
                   clear c24
                   obtain ⟨y179, hy179⟩ : ∃ y_ : List Int, y_ = (x8_3.set (((rd_T67 l0_3 x9_3).f0) : Int).toNat (wrap64 ((rd x8_3 ((rd_T67 l0_3 x9_3).f0)) + (rd x5_2 ((rd_T67 l0_3 x9_3).f2))))) := ⟨_, rfl⟩
                   replace H : (spec_l07Counts.l2 k3 a1 x5_2 x7_2 y179 (wrap64 (x9_3 + 1)) a0_0 a0_1 l0_2 l0_3) = some r := by first | (rw [hy179]; with_reducible exact H) | (have H2_ := (Option.bind_some _ _).symm.trans H; rw [hy179]; with_reducible exact H2_) | (have H2_ := (Option.bind_some _ _).symm.trans H; with_reducible exact H2_) | with_reducible exact H | (rw [hy179]; exact H) | exact H
                   have Ny179 := Aside0.mk hy179
                   clear hy179
                   have H' := Aside0.mk H
                   clear H
                   have p172 : 0 ≤ (0 : Int) := (by omega)
                   have q172 : 0 < ([(⟨a0_0, a0_1, l0_2, l0_3⟩ : S30)].length : Int) := (by simp)
                   obtain ⟨ad172, A172_2, c172_2, A172_3, c172_3, e172, hx172_0, hx172_1, hx172_2, hx172_3, hl172_2, hi172_2, hl172_3, hi172_3⟩ := at_T30 HRp0.out 0 p172 q172
                   replace hx172_0 : _ = (some (.int .i64 a0_0) : Option Value) := hx172_0
                   replace hx172_1 : _ = (some (.int .i64 a0_1) : Option Value) := hx172_1
                   replace hx172_2 : _ = (some (.slice A172_2 l0_2.length c172_2) : Option Value) := hx172_2
                   replace hi172_2 : Kd.C (Kd.int .i64) _ _ l0_2.length l0_2 := hi172_2
                   replace hl172_2 : l0_2.length ≤ _ := hl172_2
                   replace hx172_3 : _ = (some (.slice A172_3 l0_3.length c172_3) : Option Value) := hx172_3
                   replace hi172_3 : Kd.C k67 _ _ l0_3.length l0_3 := hi172_3
                   replace hl172_3 : l0_3.length ≤ _ := hl172_3
                   obtain rfl : adp0 = ad172 := (by injection e172)
                   have qi172 : (0 < [(⟨a0_0, a0_1, l0_2, l0_3⟩ : S30)].length) = True := eq_true (by simp)
                   (try rw [show ((0 : Int)).toNat = 0 from rfl] at hx172_0)
                   (try rw [show 0 * 4 = 0 from rfl] at hx172_0)
                   (try rw [Addr.add_zero'] at hx172_0)
                   (try rw [show ((0 : Int)).toNat = 0 from rfl] at hx172_1)
                   (try rw [show 0 * 4 = 0 from rfl] at hx172_1)
                   (try rw [Addr.add_zero'] at hx172_1)
                   (try rw [show ((0 : Int)).toNat = 0 from rfl] at hx172_2)
                   (try rw [show 0 * 4 = 0 from rfl] at hx172_2)
                   (try rw [Addr.add_zero'] at hx172_2)
                   (try rw [show ((0 : Int)).toNat = 0 from rfl] at hx172_3)
                   (try rw [show 0 * 4 = 0 from rfl] at hx172_3)
                   (try rw [Addr.add_zero'] at hx172_3)
                   replace hx172_0 := (HB.out.cell (World.block_lt_of_cell? w _ hx172_0)).trans hx172_0
                   replace hx172_1 := (HB.out.cell (World.block_lt_of_cell? w _ hx172_1)).trans hx172_1
                   replace hx172_2 := (HB.out.cell (World.block_lt_of_cell? w _ hx172_2)).trans hx172_2
                   replace hx172_3 := (HB.out.cell (World.block_lt_of_cell? w _ hx172_3)).trans hx172_3
                   have HR172_2 := Aside0.mk hi172_2
                   have HC172_2 := Aside0.mk hl172_2
                   clear hi172_2 hl172_2
                   have HR172_3 := Aside0.mk hi172_3
                   have HC172_3 := Aside0.mk hl172_3
                   clear hi172_3 hl172_3
                   replace p172 := eq_true p172
                   replace q172 := eq_true q172
                   try go_wp2
                   have n0_ := Aside0.mk (rD HO_5.out)
                   have n1_ := Aside0.mk (rD HO_8.out)
                   have n2_ := Aside0.mk (bD HB.out)
                   clear HO_5
                   clear HO_8
                   clear HB
                   have HO_5 := n0_
                   have HO_8 := n1_
                   have HB := n2_
                   clear n0_ n1_ n2_
                   have p173 : 0 ≤ (0 : Int) := (by omega)
                   have q173 : 0 < ([(⟨a0_0, a0_1, l0_2, l0_3⟩ : S30)].length : Int) := (by simp)
                   obtain ⟨ad173, A173_2, c173_2, A173_3, c173_3, e173, hx173_0, hx173_1, hx173_2, hx173_3, hl173_2, hi173_2, hl173_3, hi173_3⟩ := at_T30 HRp0.out 0 p173 q173
                   have hw173_3 := hx173_3
                   (try rw [show ((0 : Int)).toNat = 0 from rfl] at hw173_3)
                   (try rw [show 0 * 4 = 0 from rfl] at hw173_3)
                   (try rw [Addr.add_zero'] at hw173_3)
                   have hw173_2 := hx173_2
                   (try rw [show ((0 : Int)).toNat = 0 from rfl] at hw173_2)
                   (try rw [show 0 * 4 = 0 from rfl] at hw173_2)
                   (try rw [Addr.add_zero'] at hw173_2)
                   have hw173_1 := hx173_1
                   (try rw [show ((0 : Int)).toNat = 0 from rfl] at hw173_1)
                   (try rw [show 0 * 4 = 0 from rfl] at hw173_1)
                   (try rw [Addr.add_zero'] at hw173_1)
                   have hw173_0 := hx173_0
                   (try rw [show ((0 : Int)).toNat = 0 from rfl] at hw173_0)
                   (try rw [show 0 * 4 = 0 from rfl] at hw173_0)
                   (try rw [Addr.add_zero'] at hw173_0)
                   replace hx173_0 : _ = (some (.int .i64 a0_0) : Option Value) := hx173_0
                   replace hx173_1 : _ = (some (.int .i64 a0_1) : Option Value) := hx173_1
                   replace hx173_2 : _ = (some (.slice A173_2 l0_2.length c173_2) : Option Value) := hx173_2
                   replace hi173_2 : Kd.C (Kd.int .i64) _ _ l0_2.length l0_2 := hi173_2
                   replace hl173_2 : l0_2.length ≤ _ := hl173_2
                   replace hx173_3 : _ = (some (.slice A173_3 l0_3.length c173_3) : Option Value) := hx173_3
                   replace hi173_3 : Kd.C k67 _ _ l0_3.length l0_3 := hi173_3
                   replace hl173_3 : l0_3.length ≤ _ := hl173_3
                   obtain rfl : adp0 = ad173 := (by injection e173)
                   have qi173 : (0 < [(⟨a0_0, a0_1, l0_2, l0_3⟩ : S30)].length) = True := eq_true (by simp)
                   (try rw [show ((0 : Int)).toNat = 0 from rfl] at hx173_0)
                   (try rw [show 0 * 4 = 0 from rfl] at hx173_0)
                   (try rw [Addr.add_zero'] at hx173_0)
                   (try rw [show ((0 : Int)).toNat = 0 from rfl] at hx173_1)
                   (try rw [show 0 * 4 = 0 from rfl] at hx173_1)
                   (try rw [Addr.add_zero'] at hx173_1)
                   (try rw [show ((0 : Int)).toNat = 0 from rfl] at hx173_2)
                   (try rw [show 0 * 4 = 0 from rfl] at hx173_2)
                   (try rw [Addr.add_zero'] at hx173_2)
                   (try rw [show ((0 : Int)).toNat = 0 from rfl] at hx173_3)
                   (try rw [show 0 * 4 = 0 from rfl] at hx173_3)
                   (try rw [Addr.add_zero'] at hx173_3)
                   replace hx173_0 := (HB.out.cell (World.block_lt_of_cell? w _ hx173_0)).trans hx173_0
                   replace hx173_1 := (HB.out.cell (World.block_lt_of_cell? w _ hx173_1)).trans hx173_1
                   replace hx173_2 := (HB.out.cell (World.block_lt_of_cell? w _ hx173_2)).trans hx173_2
                   replace hx173_3 := (HB.out.cell (World.block_lt_of_cell? w _ hx173_3)).trans hx173_3
                   have HR173_2 := Aside0.mk hi173_2
                   have HC173_2 := Aside0.mk hl173_2
                   clear hi173_2 hl173_2
                   have HR173_3 := Aside0.mk hi173_3
                   have HC173_3 := Aside0.mk hl173_3
                   clear hi173_3 hl173_3
                   replace p173 := eq_true p173
                   replace q173 := eq_true q173
                   have p174 : 0 ≤ (x9_3 : Int) := of_decide_eq_true (by first | (with_reducible assumption) | assumption)
                   have q174 : x9_3 < (l0_3.length : Int) := of_decide_eq_true (by first | (with_reducible assumption) | assumption)
                   obtain ⟨ad174, e174, hx174_0, hx174_1, hx174_2⟩ := at_T67 HR173_3.out x9_3 p174 q174
                   have hw174_2 := hx174_2
                   have hw174_1 := hx174_1
                   have hw174_0 := hx174_0
                   cases e174
                   replace hx174_0 := (HB.out.cell (World.block_lt_of_cell? w _ hx174_0)).trans hx174_0
                   replace hx174_1 := (HB.out.cell (World.block_lt_of_cell? w _ hx174_1)).trans hx174_1
                   replace hx174_2 := (HB.out.cell (World.block_lt_of_cell? w _ hx174_2)).trans hx174_2
                   replace p174 := eq_true p174
                   replace q174 := eq_true q174
                   obtain ⟨Ao27, co27, eo27⟩ := Kd.R_slice HO_8.out
                   (first | subst eo27 | (injection eo27 with f1_ f2_ f3_; have f4_ := f1_.symm; have f5_ := f3_.symm; clear f1_ f2_ f3_; subst f4_; subst f5_))
                   have p175 : 0 ≤ (((rd_T67 l0_3 x9_3).f0) : Int) := of_decide_eq_true (by first | (with_reducible assumption) | assumption)
                   have q175 : ((rd_T67 l0_3 x9_3).f0) < (x8_3.length : Int) := of_decide_eq_true (by first | (with_reducible assumption) | assumption)
                   obtain ⟨ad175, e175, hx175_0⟩ := Kd.at_int (Kd.R_reads' HO_8.out).2.2 ((rd_T67 l0_3 x9_3).f0) p175 q175
                   cases e175
                   replace p175 := eq_true p175
                   replace q175 := eq_true q175
                   have p176 : 0 ≤ (0 : Int) := (by omega)
                   have q176 : 0 < ([(⟨a0_0, a0_1, l0_2, l0_3⟩ : S30)].length : Int) := (by simp)
                   obtain ⟨ad176, A176_2, c176_2, A176_3, c176_3, e176, hx176_0, hx176_1, hx176_2, hx176_3, hl176_2, hi176_2, hl176_3, hi176_3⟩ := at_T30 HRp0.out 0 p176 q176
                   have hw176_3 := hx176_3
                   (try rw [show ((0 : Int)).toNat = 0 from rfl] at hw176_3)
                   (try rw [show 0 * 4 = 0 from rfl] at hw176_3)
                   (try rw [Addr.add_zero'] at hw176_3)
                   have hw176_2 := hx176_2
                   (try rw [show ((0 : Int)).toNat = 0 from rfl] at hw176_2)
                   (try rw [show 0 * 4 = 0 from rfl] at hw176_2)
                   (try rw [Addr.add_zero'] at hw176_2)
                   have hw176_1 := hx176_1
                   (try rw [show ((0 : Int)).toNat = 0 from rfl] at hw176_1)
                   (try rw [show 0 * 4 = 0 from rfl] at hw176_1)
                   (try rw [Addr.add_zero'] at hw176_1)
                   have hw176_0 := hx176_0
                   (try rw [show ((0 : Int)).toNat = 0 from rfl] at hw176_0)
                   (try rw [show 0 * 4 = 0 from rfl] at hw176_0)
                   (try rw [Addr.add_zero'] at hw176_0)
                   replace hx176_0 : _ = (some (.int .i64 a0_0) : Option Value) := hx176_0
                   replace hx176_1 : _ = (some (.int .i64 a0_1) : Option Value) := hx176_1
                   replace hx176_2 : _ = (some (.slice A176_2 l0_2.length c176_2) : Option Value) := hx176_2
                   replace hi176_2 : Kd.C (Kd.int .i64) _ _ l0_2.length l0_2 := hi176_2
                   replace hl176_2 : l0_2.length ≤ _ := hl176_2
                   replace hx176_3 : _ = (some (.slice A176_3 l0_3.length c176_3) : Option Value) := hx176_3
                   replace hi176_3 : Kd.C k67 _ _ l0_3.length l0_3 := hi176_3
                   replace hl176_3 : l0_3.length ≤ _ := hl176_3
                   obtain rfl : adp0 = ad176 := (by injection e176)
                   have qi176 : (0 < [(⟨a0_0, a0_1, l0_2, l0_3⟩ : S30)].length) = True := eq_true (by simp)
                   (try rw [show ((0 : Int)).toNat = 0 from rfl] at hx176_0)
                   (try rw [show 0 * 4 = 0 from rfl] at hx176_0)
                   (try rw [Addr.add_zero'] at hx176_0)
                   (try rw [show ((0 : Int)).toNat = 0 from rfl] at hx176_1)
                   (try rw [show 0 * 4 = 0 from rfl] at hx176_1)
                   (try rw [Addr.add_zero'] at hx176_1)
                   (try rw [show ((0 : Int)).toNat = 0 from rfl] at hx176_2)
                   (try rw [show 0 * 4 = 0 from rfl] at hx176_2)
                   (try rw [Addr.add_zero'] at hx176_2)
                   (try rw [show ((0 : Int)).toNat = 0 from rfl] at hx176_3)
                   (try rw [show 0 * 4 = 0 from rfl] at hx176_3)
                   (try rw [Addr.add_zero'] at hx176_3)
                   replace hx176_0 := (HB.out.cell (World.block_lt_of_cell? w _ hx176_0)).trans hx176_0
                   replace hx176_1 := (HB.out.cell (World.block_lt_of_cell? w _ hx176_1)).trans hx176_1
                   replace hx176_2 := (HB.out.cell (World.block_lt_of_cell? w _ hx176_2)).trans hx176_2
                   replace hx176_3 := (HB.out.cell (World.block_lt_of_cell? w _ hx176_3)).trans hx176_3
                   have HR176_2 := Aside0.mk hi176_2
                   have HC176_2 := Aside0.mk hl176_2
                   clear hi176_2 hl176_2
                   have HR176_3 := Aside0.mk hi176_3
                   have HC176_3 := Aside0.mk hl176_3
                   clear hi176_3 hl176_3
                   replace p176 := eq_true p176
                   replace q176 := eq_true q176
                   have ea_ := Option.some.inj (hx173_2.symm.trans hx176_2)
                   injection ea_ with ea_ en_ ec_
                   subst ea_
                   subst ec_
                   clear en_
                   have ea_ := Option.some.inj (hx173_3.symm.trans hx176_3)
                   injection ea_ with ea_ en_ ec_
                   subst ea_
                   subst ec_
                   clear en_
                   have p177 : 0 ≤ (x9_3 : Int) := of_decide_eq_true (by first | (with_reducible assumption) | assumption)
                   have q177 : x9_3 < (l0_3.length : Int) := of_decide_eq_true (by first | (with_reducible assumption) | assumption)
                   obtain ⟨ad177, e177, hx177_0, hx177_1, hx177_2⟩ := at_T67 HR176_3.out x9_3 p177 q177
                   have hw177_2 := hx177_2
                   have hw177_1 := hx177_1
                   have hw177_0 := hx177_0
                   cases e177
                   replace hx177_0 := (HB.out.cell (World.block_lt_of_cell? w _ hx177_0)).trans hx177_0
                   replace hx177_1 := (HB.out.cell (World.block_lt_of_cell? w _ hx177_1)).trans hx177_1
                   replace hx177_2 := (HB.out.cell (World.block_lt_of_cell? w _ hx177_2)).trans hx177_2
                   replace p177 := eq_true p177
                   replace q177 := eq_true q177
                   obtain ⟨Ao28, co28, eo28⟩ := Kd.R_slice HO_5.out
                   (first | subst eo28 | (injection eo28 with f1_ f2_ f3_; have f4_ := f1_.symm; have f5_ := f3_.symm; clear f1_ f2_ f3_; subst f4_; subst f5_))
                   have p178 : 0 ≤ (((rd_T67 l0_3 x9_3).f2) : Int) := of_decide_eq_true (by first | (with_reducible assumption) | assumption)
                   have q178 : ((rd_T67 l0_3 x9_3).f2) < (x5_2.length : Int) := of_decide_eq_true (by first | (with_reducible assumption) | assumption)
                   obtain ⟨ad178, e178, hx178_0⟩ := Kd.at_int (Kd.R_reads' HO_5.out).2.2 ((rd_T67 l0_3 x9_3).f2) p178 q178
                   cases e178
                   replace p178 := eq_true p178
                   replace q178 := eq_true q178
                   have p25 : 0 ≤ (((rd_T67 l0_3 x9_3).f0) : Int) := of_decide_eq_true (by first | (with_reducible assumption) | assumption)
                   have q25 : (((rd_T67 l0_3 x9_3).f0) : Int) < ((x8_3.length : Int) : Int) := of_decide_eq_true (by first | (with_reducible assumption) | assumption)
                   obtain ⟨go25, co25, eo25, gb25, gl25, cl25, HG25⟩ := Kd.R_form HO_8.out (by omega)
                   (first | cases eo25 | (injection eo25 with ea_ en_ ec_; (first | subst ea_ | (injection ea_ with ea_; subst ea_)); subst ec_; clear en_))
                   have GB25 := Aside0.mk gb25
                   have GG25 := Aside0.mk HG25
                   clear gb25 gl25 HG25
                   (first | simp only [add_plain] at hx175_0 | skip)
                   obtain ⟨hx25_0, hf25_0⟩ := Kd.R_celln 0 HO_8.out (((rd_T67 l0_3 x9_3).f0) : Int) p25 q25
                   replace p25 := eq_true p25
                   replace q25 := eq_true q25
                   have HP29 := Kd.R_putn HO_8.out (((rd_T67 l0_3 x9_3).f0) : Int) (wrap64 ((rd x8_3 ((rd_T67 l0_3 x9_3).f0)) + (rd x5_2 ((rd_T67 l0_3 x9_3).f2))))
                   rw [← Ny179.out] at HP29
                   have HQ29 := Aside0.mk HP29
                   clear HP29
                   refine start_ (n := 25) (S := fun w' => w'.cell? adp0 = some (.int .i64 a0_0) ∧ w'.cell? ⟨adp0.block, adp0.off + 1, none⟩ = some (.int .i64 a0_1) ∧ w'.cell? ⟨adp0.block, adp0.off + 2, none⟩ = some (.slice A173_2 l0_2.length c173_2) ∧ w'.cell? ⟨adp0.block, adp0.off + 3, none⟩ = some (.slice (some ad174) l0_3.length c173_3) ∧ w'.cell? (ad174.add ((x9_3).toNat * 3)) = some (.int .i64 ((rd_T67 l0_3 x9_3).f0)) ∧ w'.cell? ⟨(ad174.add ((x9_3).toNat * 3)).block, (ad174.add ((x9_3).toNat * 3)).off + 1, none⟩ = some (.int .i64 ((rd_T67 l0_3 x9_3).f1)) ∧ w'.cell? ⟨(ad174.add ((x9_3).toNat * 3)).block, (ad174.add ((x9_3).toNat * 3)).off + 2, none⟩ = some (.int .i64 ((rd_T67 l0_3 x9_3).f2)) ∧ w'.cell? ⟨go25, (((rd_T67 l0_3 x9_3).f0)).toNat, none⟩ = some (.int .i64 (rd x8_3 ((rd_T67 l0_3 x9_3).f0))) ∧ w'.cell? adp0 = some (.int .i64 a0_0) ∧ w'.cell? ⟨adp0.block, adp0.off + 1, none⟩ = some (.int .i64 a0_1) ∧ w'.cell? ⟨adp0.block, adp0.off + 2, none⟩ = some (.slice A173_2 l0_2.length c173_2) ∧ w'.cell? ⟨adp0.block, adp0.off + 3, none⟩ = some (.slice (some ad174) l0_3.length c173_3) ∧ w'.cell? (ad174.add ((x9_3).toNat * 3)) = some (.int .i64 ((rd_T67 l0_3 x9_3).f0)) ∧ w'.cell? ⟨(ad174.add ((x9_3).toNat * 3)).block, (ad174.add ((x9_3).toNat * 3)).off + 1, none⟩ = some (.int .i64 ((rd_T67 l0_3 x9_3).f1)) ∧ w'.cell? ⟨(ad174.add ((x9_3).toNat * 3)).block, (ad174.add ((x9_3).toNat * 3)).off + 2, none⟩ = some (.int .i64 ((rd_T67 l0_3 x9_3).f2)) ∧ w'.cell? (ad178.add (((rd_T67 l0_3 x9_3).f2)).toNat) = some (.int .i64 (rd x5_2 ((rd_T67 l0_3 x9_3).f2)))) (ds := [24]) #[F,F,F,F,F,F,F,F,F,F,F,F,F,F,F,F,F,F,F,F,F,F,F,F,F] (by kernel_rfl) rfl rfl ⟨((HB.out.cell (World.block_lt_of_cell? w _ hw173_0)).trans hw173_0), ((HB.out.cell (World.block_lt_of_cell? w _ hw173_1)).trans hw173_1), ((HB.out.cell (World.block_lt_of_cell? w _ hw173_2)).trans hw173_2), ((HB.out.cell (World.block_lt_of_cell? w _ hw173_3)).trans hw173_3), ((HB.out.cell (World.block_lt_of_cell? w _ hw174_0)).trans hw174_0), ((HB.out.cell (World.block_lt_of_cell? w _ hw174_1)).trans hw174_1), ((HB.out.cell (World.block_lt_of_cell? w _ hw174_2)).trans hw174_2), hx175_0, ((HB.out.cell (World.block_lt_of_cell? w _ hw176_0)).trans hw176_0), ((HB.out.cell (World.block_lt_of_cell? w _ hw176_1)).trans hw176_1), ((HB.out.cell (World.block_lt_of_cell? w _ hw176_2)).trans hw176_2), ((HB.out.cell (World.block_lt_of_cell? w _ hw176_3)).trans hw176_3), ((HB.out.cell (World.block_lt_of_cell? w _ hw177_0)).trans hw177_0), ((HB.out.cell (World.block_lt_of_cell? w _ hw177_1)).trans hw177_1), ((HB.out.cell (World.block_lt_of_cell? w _ hw177_2)).trans hw177_2), hx178_0⟩ (fun hHeld => ?_); refine with_tabW spec_l07Counts.tab13 spec_l07Counts.bits13 (fun HT_ HW_ => ?_)
                   generalize wr.drew = w26 at HO_5 HO_8 HB GG25 HQ29 HR173_2 HR173_3 HR176_2 HR176_3 hf25_0 hx173_0 hx173_1 hx173_2 hx173_3 hx174_0 hx174_1 hx174_2 hx175_0 hx176_0 hx176_1 hx176_2 hx176_3 hx177_0 hx177_1 hx177_2 hx178_0 hx25_0 hHeld ⊢
                   refine pure_ (i := 0) (N := some 52) (v := ?_) (a' := ?_) #[T,F,F,F,F,F,F,F,F,F,F,F,F,F,F,F,F,F,F,F,F,F,F,F,F] rfl rfl (aO HT_.out (by kernel_rfl)) (fun _ _ _ h => h) (Or.inl ⟨by rfl, ?_⟩) ?_ ?_; rotate_left; (·intro w'; go_simp; with_reducible rfl); rotate_left; (·simp only [Act.put, sI, sZ, sS, iW, jW]; rfl)
                   refine pure_ (i := 1) (N := some 53) (v := ?_) (a' := ?_) #[T,T,F,F,F,F,F,F,F,F,F,F,F,F,F,F,F,F,F,F,F,F,F,F,F] rfl rfl (aO HT_.out (by kernel_rfl)) (fun _ _ _ h => h) (Or.inl ⟨by rfl, ?_⟩) ?_ ?_; rotate_left; (·intro w'; go_simp; with_reducible rfl); rotate_left; (·simp only [Act.put, sI, sZ, sS, iW, jW]; rfl)
                   refine pure_ (i := 2) (N := some 54) (v := ?_) (a' := ?_) #[T,T,T,F,F,F,F,F,F,F,F,F,F,F,F,F,F,F,F,F,F,F,F,F,F] rfl rfl (aO HT_.out (by kernel_rfl)) (fun _ _ _ h => h) (Or.inl ⟨by rfl, ?_⟩) ?_ ?_; rotate_left; (·intro w'; go_simp; with_reducible rfl); rotate_left; (·simp only [Act.put, sI, sZ, sS, iW, jW]; rfl)
                   refine pure_ (i := 3) (N := some 55) (v := ?_) (a' := ?_) #[T,T,T,T,F,F,F,F,F,F,F,F,F,F,F,F,F,F,F,F,F,F,F,F,F] rfl rfl (aO HT_.out (by kernel_rfl)) (fun _ _ _ h => h) (Or.inl ⟨by rfl, ?_⟩) ?_ ?_; rotate_left; (·intro w'; go_simp; with_reducible rfl); rotate_left; (·simp only [Act.put, sI, sZ, sS, iW, jW]; rfl)
                   refine pure_ (i := 5) (N := some 57) (v := ?_) (a' := ?_) #[T,T,T,T,F,T,F,F,F,F,F,F,F,F,F,F,F,F,F,F,F,F,F,F,F] rfl rfl (aO HT_.out (by kernel_rfl)) (fun _ _ _ h => h) (Or.inl ⟨by rfl, ?_⟩) ?_ ?_; rotate_left; (·intro w'; go_simp; with_reducible rfl); rotate_left; (·simp only [Act.put, sI, sZ, sS, iW, jW]; rfl)
                   refine pure_ (i := 11) (N := some 63) (v := ?_) (a' := ?_) #[T,T,T,T,F,T,F,F,F,F,F,T,F,F,F,F,F,F,F,F,F,F,F,F,F] rfl rfl (aO HT_.out (by kernel_rfl)) (fun _ _ _ h => h) (Or.inl ⟨by rfl, ?_⟩) ?_ ?_; rotate_left; (·intro w'; go_simp; with_reducible rfl); rotate_left; (·simp only [Act.put, sI, sZ, sS, iW, jW]; rfl)
                   refine pure_ (i := 12) (N := some 64) (v := ?_) (a' := ?_) #[T,T,T,T,F,T,F,F,F,F,F,T,T,F,F,F,F,F,F,F,F,F,F,F,F] rfl rfl (aO HT_.out (by kernel_rfl)) (fun _ _ _ h => h) (Or.inl ⟨by rfl, ?_⟩) ?_ ?_; rotate_left; (·intro w'; go_simp; with_reducible rfl); rotate_left; (·simp only [Act.put, sI, sZ, sS, iW, jW]; rfl)
                   refine pure_ (i := 13) (N := some 65) (v := ?_) (a' := ?_) #[T,T,T,T,F,T,F,F,F,F,F,T,T,T,F,F,F,F,F,F,F,F,F,F,F] rfl rfl (aO HT_.out (by kernel_rfl)) (fun _ _ _ h => h) (Or.inl ⟨by rfl, ?_⟩) ?_ ?_; rotate_left; (·intro w'; go_simp; with_reducible rfl); rotate_left; (·simp only [Act.put, sI, sZ, sS, iW, jW]; rfl)
                   refine pure_ (i := 14) (N := some 66) (v := ?_) (a' := ?_) #[T,T,T,T,F,T,F,F,F,F,F,T,T,T,T,F,F,F,F,F,F,F,F,F,F] rfl rfl (aO HT_.out (by kernel_rfl)) (fun _ _ _ h => h) (Or.inl ⟨by rfl, ?_⟩) ?_ ?_; rotate_left; (·intro w'; go_simp; with_reducible rfl); rotate_left; (·simp only [Act.put, sI, sZ, sS, iW, jW]; rfl)
                   refine pure_ (i := 16) (N := some 68) (v := ?_) (a' := ?_) #[T,T,T,T,F,T,F,F,F,F,F,T,T,T,T,F,T,F,F,F,F,F,F,F,F] rfl rfl (aO HT_.out (by kernel_rfl)) (fun _ _ _ h => h) (Or.inl ⟨by rfl, ?_⟩) ?_ ?_; rotate_left; (·intro w'; go_simp; with_reducible rfl); rotate_left; (·simp only [Act.put, sI, sZ, sS, iW, jW]; rfl)
                   refine take_ (i := 4) (N := some 56) (v := ?_) (a' := ?_) #[T,T,T,T,T,T,F,F,F,F,F,T,T,T,T,F,T,F,F,F,F,F,F,F,F] rfl rfl (tW HT_.out HW_.out (by kernel_rfl)) (fun _ _ _ h => h) (Or.inl ⟨by rfl, ?_⟩) hHeld ?_ ?_; rotate_left; (·rintro w' ⟨s0, s1, s2, s3, s4, s5, s6, s7, s8, s9, s10, s11, s12, s13, s14, s15⟩; go_simp; with_reducible rfl); rotate_left; (·simp only [Act.put, sI, sZ, sS, iW, jW]; rfl)
                   refine pure_ (i := 6) (N := some 58) (v := ?_) (a' := ?_) #[T,T,T,T,T,T,T,F,F,F,F,T,T,T,T,F,T,F,F,F,F,F,F,F,F] rfl rfl (aO HT_.out (by kernel_rfl)) (fun _ _ _ h => h) (Or.inl ⟨by rfl, ?_⟩) ?_ ?_; rotate_left; (·intro w'; go_simp; with_reducible rfl); rotate_left; (·simp only [Act.put, sI, sZ, sS, iW, jW]; rfl)
                   refine pure_ (i := 7) (N := some 59) (v := ?_) (a' := ?_) #[T,T,T,T,T,T,T,T,F,F,F,T,T,T,T,F,T,F,F,F,F,F,F,F,F] rfl rfl (aO HT_.out (by kernel_rfl)) (fun _ _ _ h => h) (Or.inl ⟨by rfl, ?_⟩) ?_ ?_; rotate_left; (·intro w'; go_simp; with_reducible rfl); rotate_left; (·simp only [Act.put, sI, sZ, sS, iW, jW]; rfl)
                   refine take_ (i := 8) (N := some 60) (v := ?_) (a' := ?_) #[T,T,T,T,T,T,T,T,T,F,F,T,T,T,T,F,T,F,F,F,F,F,F,F,F] rfl rfl (tW HT_.out HW_.out (by kernel_rfl)) (fun _ _ _ h => h) (Or.inl ⟨by rfl, ?_⟩) hHeld ?_ ?_; rotate_left; (·rintro w' ⟨s0, s1, s2, s3, s4, s5, s6, s7, s8, s9, s10, s11, s12, s13, s14, s15⟩; go_simp; with_reducible rfl); rotate_left; (·simp only [Act.put, sI, sZ, sS, iW, jW]; rfl)
                   refine pure_ (i := 9) (N := some 61) (v := ?_) (a' := ?_) #[T,T,T,T,T,T,T,T,T,T,F,T,T,T,T,F,T,F,F,F,F,F,F,F,F] rfl rfl (aO HT_.out (by kernel_rfl)) (fun _ _ _ h => h) (Or.inl ⟨by rfl, ?_⟩) ?_ ?_; rotate_left; (·intro w'; go_simp; with_reducible rfl); rotate_left; (·simp only [Act.put, sI, sZ, sS, iW, jW]; rfl)
                   refine take_ (i := 10) (N := some 62) (v := ?_) (a' := ?_) #[T,T,T,T,T,T,T,T,T,T,T,T,T,T,T,F,T,F,F,F,F,F,F,F,F] rfl rfl (tW HT_.out HW_.out (by kernel_rfl)) (fun _ _ _ h => h) (Or.inl ⟨by rfl, ?_⟩) hHeld ?_ ?_; rotate_left; (·rintro w' ⟨s0, s1, s2, s3, s4, s5, s6, s7, s8, s9, s10, s11, s12, s13, s14, s15⟩; go_simp; with_reducible rfl); rotate_left; (·simp only [Act.put, sI, sZ, sS, iW, jW]; rfl)
                   refine take_ (i := 15) (N := some 67) (v := ?_) (a' := ?_) #[T,T,T,T,T,T,T,T,T,T,T,T,T,T,T,T,T,F,F,F,F,F,F,F,F] rfl rfl (tW HT_.out HW_.out (by kernel_rfl)) (fun _ _ _ h => h) (Or.inl ⟨by rfl, ?_⟩) hHeld ?_ ?_; rotate_left; (·rintro w' ⟨s0, s1, s2, s3, s4, s5, s6, s7, s8, s9, s10, s11, s12, s13, s14, s15⟩; go_simp; with_reducible rfl); rotate_left; (·simp only [Act.put, sI, sZ, sS, iW, jW]; rfl)
                   refine pure_ (i := 17) (N := some 69) (v := ?_) (a' := ?_) #[T,T,T,T,T,T,T,T,T,T,T,T,T,T,T,T,T,T,F,F,F,F,F,F,F] rfl rfl (aO HT_.out (by kernel_rfl)) (fun _ _ _ h => h) (Or.inl ⟨by rfl, ?_⟩) ?_ ?_; rotate_left; (·intro w'; go_simp; with_reducible rfl); rotate_left; (·simp only [Act.put, sI, sZ, sS, iW, jW]; rfl)
                   refine pure_ (i := 18) (N := some 70) (v := ?_) (a' := ?_) #[T,T,T,T,T,T,T,T,T,T,T,T,T,T,T,T,T,T,T,F,F,F,F,F,F] rfl rfl (aO HT_.out (by kernel_rfl)) (fun _ _ _ h => h) (Or.inl ⟨by rfl, ?_⟩) ?_ ?_; rotate_left; (·intro w'; go_simp; with_reducible rfl); rotate_left; (·simp only [Act.put, sI, sZ, sS, iW, jW]; rfl)
                   refine take_ (i := 19) (N := some 71) (v := ?_) (a' := ?_) #[T,T,T,T,T,T,T,T,T,T,T,T,T,T,T,T,T,T,T,T,F,F,F,F,F] rfl rfl (tW HT_.out HW_.out (by kernel_rfl)) (fun _ _ _ h => h) (Or.inl ⟨by rfl, ?_⟩) hHeld ?_ ?_; rotate_left; (·rintro w' ⟨s0, s1, s2, s3, s4, s5, s6, s7, s8, s9, s10, s11, s12, s13, s14, s15⟩; go_simp; with_reducible rfl); rotate_left; (·simp only [Act.put, sI, sZ, sS, iW, jW]; rfl)
                   refine pure_ (i := 20) (N := some 72) (v := ?_) (a' := ?_) #[T,T,T,T,T,T,T,T,T,T,T,T,T,T,T,T,T,T,T,T,T,F,F,F,F] rfl rfl (aO HT_.out (by kernel_rfl)) (fun _ _ _ h => h) (Or.inl ⟨by rfl, ?_⟩) ?_ ?_; rotate_left; (·intro w'; go_simp; with_reducible rfl); rotate_left; (·simp only [Act.put, sI, sZ, sS, iW, jW]; rfl)
                   refine take_ (i := 21) (N := some 73) (v := ?_) (a' := ?_) #[T,T,T,T,T,T,T,T,T,T,T,T,T,T,T,T,T,T,T,T,T,T,F,F,F] rfl rfl (tW HT_.out HW_.out (by kernel_rfl)) (fun _ _ _ h => h) (Or.inl ⟨by rfl, ?_⟩) hHeld ?_ ?_; rotate_left; (·rintro w' ⟨s0, s1, s2, s3, s4, s5, s6, s7, s8, s9, s10, s11, s12, s13, s14, s15⟩; go_simp; with_reducible rfl); rotate_left; (·simp only [Act.put, sI, sZ, sS, iW, jW]; rfl)
                   refine pure_ (i := 22) (N := some 74) (v := ?_) (a' := ?_) #[T,T,T,T,T,T,T,T,T,T,T,T,T,T,T,T,T,T,T,T,T,T,T,F,F] rfl rfl (aO HT_.out (by kernel_rfl)) (fun _ _ _ h => h) (Or.inl ⟨by rfl, ?_⟩) ?_ ?_; rotate_left; (·intro w'; go_simp; with_reducible rfl); rotate_left; (·simp only [Act.put, sI, sZ, sS, iW, jW]; rfl)
                   refine pure_ (i := 23) (N := some 75) (v := ?_) (a' := ?_) #[T,T,T,T,T,T,T,T,T,T,T,T,T,T,T,T,T,T,T,T,T,T,T,T,F] rfl rfl (aO HT_.out (by kernel_rfl)) (fun _ _ _ h => h) (Or.inl ⟨by rfl, ?_⟩) ?_ ?_; rotate_left; (·intro w'; go_simp; with_reducible rfl); rotate_left; (·simp only [Act.put, sI, sZ, sS, iW, jW]; rfl)
                   refine last_ (i := 24) (N := none) #[T,T,T,T,T,T,T,T,T,T,T,T,T,T,T,T,T,T,T,T,T,T,T,T,T] rfl rfl (oO HT_.out (by kernel_rfl)) (by decide) (fun K hK => ?_)
                   refine skip_ (w1 := ?_) (by rfl) rfl ?_ ?_
                   rotate_left
                   ·go_simp
                    rfl
                   refine hK.out _ _ ?_
                   clear hK K
                   refine done_ (done_of HT_.out (by kernel_rfl)) ?_
                   try go_wp2
                   go_roundg k3
                   case measure => have := HK1.out; have := HK2.out; have := HK3.out; omega
                   case rel => exact ⟨(y179), (wrap64 (x9_3 + 1)), (by first | rfl | (simp; done) | (simp [*]; done)), H', ⟨by have := HK1.out; have := HK2.out; have := HK3.out; omega⟩, ⟨by (with_reducible repeat (first | apply rA | apply rN | apply rD)); exact rM (Kd.R_far (p := ⟨go25, (((rd_T67 l0_3 x9_3).f0) : Int).toNat, none⟩) (rM HO_5.out (fun k_ hk => (⟨hk, fun e_ => hk (by rw [e_]; rfl)⟩ : _ ∧ k_ ≠ go25))) (fun _ hk => hk.2) (.int .i64 (wrap64 ((rd x8_3 ((rd_T67 l0_3 x9_3).f0)) + (rd x5_2 ((rd_T67 l0_3 x9_3).f2)))))) (fun _ hk => hk.1)⟩, ⟨by (with_reducible repeat (first | apply rA | apply rN | apply rD)); exact HQ29.out⟩, ⟨by repeat (first | (with_reducible first | exact HB.out | apply bA | apply bN | apply bD | refine bS ?_ GB25.out) | exact HB.out)⟩⟩
                  ·rw [if_neg c24] at H
                   exact absurd H (by simp)
                 ·rw [if_neg c23] at H
                  exact absurd H (by simp)
                ·rw [if_neg c22] at H
                 exact absurd H (by simp)
               ·rw [if_neg c21] at H
                exact absurd H (by simp)
              ·rw [if_neg c20] at H
               exact absurd H (by simp)
             ·rw [if_neg c19] at H
              have c19b0 : decide (x9_3 < (l0_3.length : Int)) = false := decide_eq_false c19
              clear c19
              have H' := Aside0.mk H
              clear H
              have p172 : 0 ≤ (0 : Int) := (by omega)
              have q172 : 0 < ([(⟨a0_0, a0_1, l0_2, l0_3⟩ : S30)].length : Int) := (by simp)
              obtain ⟨ad172, A172_2, c172_2, A172_3, c172_3, e172, hx172_0, hx172_1, hx172_2, hx172_3, hl172_2, hi172_2, hl172_3, hi172_3⟩ := at_T30 HRp0.out 0 p172 q172
              replace hx172_0 : _ = (some (.int .i64 a0_0) : Option Value) := hx172_0
              replace hx172_1 : _ = (some (.int .i64 a0_1) : Option Value) := hx172_1
              replace hx172_2 : _ = (some (.slice A172_2 l0_2.length c172_2) : Option Value) := hx172_2
              replace hi172_2 : Kd.C (Kd.int .i64) _ _ l0_2.length l0_2 := hi172_2
              replace hl172_2 : l0_2.length ≤ _ := hl172_2
              replace hx172_3 : _ = (some (.slice A172_3 l0_3.length c172_3) : Option Value) := hx172_3
              replace hi172_3 : Kd.C k67 _ _ l0_3.length l0_3 := hi172_3
              replace hl172_3 : l0_3.length ≤ _ := hl172_3
              obtain rfl : adp0 = ad172 := (by injection e172)
              have qi172 : (0 < [(⟨a0_0, a0_1, l0_2, l0_3⟩ : S30)].length) = True := eq_true (by simp)
              (try rw [show ((0 : Int)).toNat = 0 from rfl] at hx172_0)
              (try rw [show 0 * 4 = 0 from rfl] at hx172_0)
              (try rw [Addr.add_zero'] at hx172_0)
              (try rw [show ((0 : Int)).toNat = 0 from rfl] at hx172_1)
              (try rw [show 0 * 4 = 0 from rfl] at hx172_1)
              (try rw [Addr.add_zero'] at hx172_1)
              (try rw [show ((0 : Int)).toNat = 0 from rfl] at hx172_2)
              (try rw [show 0 * 4 = 0 from rfl] at hx172_2)
              (try rw [Addr.add_zero'] at hx172_2)
              (try rw [show ((0 : Int)).toNat = 0 from rfl] at hx172_3)
              (try rw [show 0 * 4 = 0 from rfl] at hx172_3)
              (try rw [Addr.add_zero'] at hx172_3)
              replace hx172_0 := (HB.out.cell (World.block_lt_of_cell? w _ hx172_0)).trans hx172_0
              replace hx172_1 := (HB.out.cell (World.block_lt_of_cell? w _ hx172_1)).trans hx172_1
              replace hx172_2 := (HB.out.cell (World.block_lt_of_cell? w _ hx172_2)).trans hx172_2
              replace hx172_3 := (HB.out.cell (World.block_lt_of_cell? w _ hx172_3)).trans hx172_3
              have HR172_2 := Aside0.mk hi172_2
              have HC172_2 := Aside0.mk hl172_2
              clear hi172_2 hl172_2
              have HR172_3 := Aside0.mk hi172_3
              have HC172_3 := Aside0.mk hl172_3
              clear hi172_3 hl172_3
              replace p172 := eq_true p172
              replace q172 := eq_true q172
              go_wp2
              go_roundg k3
              case measure => have := HK1.out; have := HK2.out; have := HK3.out; omega
              case rel => exact ⟨(x8_3), (wrap64 (x7_2 + 1)), (by first | rfl | (simp; done) | (simp [*]; done)), H', ⟨by have := HK1.out; have := HK2.out; have := HK3.out; omega⟩, ⟨by (with_reducible repeat (first | apply rA | apply rN | apply rD)); exact rM HO_8.out (fun _ hk => trivial)⟩, ⟨by repeat (first | (with_reducible first | exact HB.out | apply bA | apply bN | apply bD) | exact HB.out)⟩⟩
          ·rw [if_neg c16] at H
           exact absurd H (by simp)
         ·rw [if_neg c15] at H
          exact absurd H (by simp)
        ·rw [if_neg c14] at H
         have c14b0 : decide (x7_2 < a1) = false := decide_eq_false c14
         clear c14
         obtain rfl := Option.some.inj H
         go_wp2
         go_ret
         exact ⟨_, by first | rfl | (simp [errW_none, errW_some] <;> rfl) | (simp [*, errW_none, errW_some] <;> rfl), by (with_reducible repeat (first | apply rA | apply rN | apply rD)); exact HO_5.out, by repeat (first | (with_reducible first | exact HB.out | apply bA | apply bN | apply bD) | exact HB.out)⟩
  ·rw [if_neg c4] at H
   exact absurd H (by simp)
 ·rw [if_neg c3] at H
  exact absurd H (by simp)

end Go.Proofs.Ytijbhcalknfijaa.M2
-- shrunk
-- tight
