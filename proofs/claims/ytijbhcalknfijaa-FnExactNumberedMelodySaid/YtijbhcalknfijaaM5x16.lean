/- What functions of the given program compute, as plain Lean functions, and that the code comes to just that; by a program of this session over the kit's print. No condition. -/
import Derived.Test.YtijbhcalknfijaaM5x0
namespace Go.Proofs.Ytijbhcalknfijaa.M5
open Go.RowKit Go.Proofs.YtijbhcalknfijaaW.PrintWords Go.Proofs.YtijbhcalknfijaaW.PrintLast Go.Proofs.YtijbhcalknfijaaW.PrintMore
open Go.Proofs.YtijbhcalknfijaaW.PrintWords renaming below_alloc → bA, pw_below_drewN → bN, below_drew1 → bD, below_set → bS, blk_drewN → kN, blk_drew → kD, blk_alloc → kA, blk_below → kB, below_size → bZ, below_step → bP, blk_far → kF, blk_lt → kL, box_event → bE, blk_cell → kC
open Go.Proofs.YtijbhcalknfijaaW.PrintLast renaming take_ofW → tW, one_of → oO, i64_w → iW, i32_w → jW
open Go.Proofs.YtijbhcalknfijaaW.PrintWords.Kd renaming R_alloc → rA, R_drewN → rN, R_drew → rD, C_alloc → cA, C_drewN → cN, C_drew → cD, C_below → cB, R_lower → rL, R_below → rB, R_mono → rM
open List renaming setIfInBounds_toArray → sI, set_cons_zero → sZ, set_cons_succ → sS
open Bool renaming true → T, false → F
attribute [local go_sem] max2_int min2_int max_two min_two max_three min_three max_four min_four   -- for this text's walks alone
set_option linter.unusedVariables false
set_option linter.unusedSimpArgs false

/-! ### impl_Grammar_counts: function 68 -/
mutual
def impl_Grammar_counts.l0 : Nat → Int → List Int → List Int → Int → Int → Int → Int → List Int → List (S67) → Option ((List (List Int)))
 | 0, _, _, _, _, _, _, _, _, _ => none
 | k + 1, x1, x5, x17, x18, x19, x241000, x241001, x241002, x241003 => if x19 < x18 then (if 0 ≤ x19 then (if x19 < (x17.length : Int) then (if 0 ≤ (rd x17 x19) then (if (rd x17 x19) < (x5.length : Int) then (impl_Grammar_counts.l0 k x1 (x5.set ((rd x17 x19) : Int).toNat 1) x17 x18 (wrap64 (x19 + 1)) x241000 x241001 x241002 x241003) else (none)) else (none)) else (none)) else (none)) else (impl_Grammar_counts.l1 k (([x5] : List (List Int))) x1 0 x241000 x241001 x241002 x241003)
def impl_Grammar_counts.l1 : Nat → List (List Int) → Int → Int → Int → Int → List Int → List (S67) → Option ((List (List Int)))
 | 0, _, _, _, _, _, _, _ => none
 | k + 1, x8, x29, x30, x241000, x241001, x241002, x241003 => if x30 < x29 then (if 0 ≤ (wrap64 ((x8.length : Int) - 1)) then (if (wrap64 ((x8.length : Int) - 1)) < (x8.length : Int) then (if 0 ≤ x241000 then (if (x241000 : Int).toNat ≤ 35184372088832 then (impl_Grammar_counts.l2 k x8 (rd_L3 x8 (wrap64 ((x8.length : Int) - 1))) (List.replicate (x241000 : Int).toNat 0) x29 x30 x241003 (x241003.length : Int) 0 x241000 x241001 x241002 x241003) else (none)) else (none)) else (none)) else (none)) else (some x8)
def impl_Grammar_counts.l2 : Nat → List (List Int) → List Int → List Int → Int → Int → List (S67) → Int → Int → Int → Int → List Int → List (S67) → Option ((List (List Int)))
 | 0, _, _, _, _, _, _, _, _, _, _, _, _ => none
 | k + 1, x8, x9, x10, x29, x30, x42, x43, x44, x241000, x241001, x241002, x241003 => if x44 < x43 then (if 0 ≤ x44 then (if x44 < (x42.length : Int) then (if 0 ≤ ((rd_T67 x42 x44).f0) then (if ((rd_T67 x42 x44).f0) < (x10.length : Int) then (if 0 ≤ ((rd_T67 x42 x44).f2) then (if ((rd_T67 x42 x44).f2) < (x9.length : Int) then (impl_Grammar_counts.l2 k x8 x9 (x10.set (((rd_T67 x42 x44).f0) : Int).toNat (wrap64 ((rd x10 ((rd_T67 x42 x44).f0)) + (rd x9 ((rd_T67 x42 x44).f2))))) x29 x30 x42 x43 (wrap64 (x44 + 1)) x241000 x241001 x241002 x241003) else (none)) else (none)) else (none)) else (none)) else (none)) else (none)) else (if x8.length < 5864062014805 then (impl_Grammar_counts.l1 k (x8 ++ [x10]) x29 (wrap64 (x30 + 1)) x241000 x241001 x241002 x241003) else (none))
end
def impl_Grammar_counts.f (k : Nat) (a0_0 : Int) (a0_1 : Int) (l0_2 : List Int) (l0_3 : List (S67)) (a1 : Int) : Option ((List (List Int))) := if 0 ≤ a0_0 then (if (a0_0 : Int).toNat ≤ 35184372088832 then (impl_Grammar_counts.l0 k a1 (List.replicate (a0_0 : Int).toNat 0) l0_2 (l0_2.length : Int) 0 a0_0 a0_1 l0_2 l0_3) else (none)) else (none)
theorem impl_Grammar_counts.mono_l : ∀ k, (∀ y0 y1 y2 y3 y4 y5 y6 y7 y8, LeO (impl_Grammar_counts.l0 k y0 y1 y2 y3 y4 y5 y6 y7 y8) (impl_Grammar_counts.l0 (k + 1) y0 y1 y2 y3 y4 y5 y6 y7 y8)) ∧ (∀ y0 y1 y2 y3 y4 y5 y6, LeO (impl_Grammar_counts.l1 k y0 y1 y2 y3 y4 y5 y6) (impl_Grammar_counts.l1 (k + 1) y0 y1 y2 y3 y4 y5 y6)) ∧ (∀ y0 y1 y2 y3 y4 y5 y6 y7 y8 y9 y10 y11, LeO (impl_Grammar_counts.l2 k y0 y1 y2 y3 y4 y5 y6 y7 y8 y9 y10 y11) (impl_Grammar_counts.l2 (k + 1) y0 y1 y2 y3 y4 y5 y6 y7 y8 y9 y10 y11))
 | 0 => ⟨fun _ _ _ _ _ _ _ _ _ r h => by simp [impl_Grammar_counts.l0] at h, fun _ _ _ _ _ _ _ r h => by simp [impl_Grammar_counts.l1] at h, fun _ _ _ _ _ _ _ _ _ _ _ _ r h => by simp [impl_Grammar_counts.l2] at h⟩
 | k + 1 => by
  obtain ⟨ih0, ih1, ih2⟩ := impl_Grammar_counts.mono_l k
  refine ⟨?_, ?_, ?_⟩
  ·intro y0 y1 y2 y3 y4 y5 y6 y7 y8
   unfold impl_Grammar_counts.l0
   repeat' first
   | (with_reducible exact ih0 _ _ _ _ _ _ _ _ _)
   | (with_reducible exact ih1 _ _ _ _ _ _ _)
   | (with_reducible exact ih2 _ _ _ _ _ _ _ _ _ _ _ _)
   | (with_reducible exact LeO.refl _)
   | (with_reducible exact LeO.none _)
   | (with_reducible refine LeO.ite ?_ ?_)
   | (with_reducible refine LeO.bind ?_ (fun _ => ?_))
   | exact ih0 _ _ _ _ _ _ _ _ _
   | exact ih1 _ _ _ _ _ _ _
   | exact ih2 _ _ _ _ _ _ _ _ _ _ _ _
   | exact LeO.none _
   | refine LeO.ite ?_ ?_
   | refine LeO.bind ?_ (fun _ => ?_)
  ·intro y0 y1 y2 y3 y4 y5 y6
   unfold impl_Grammar_counts.l1
   repeat' first
   | (with_reducible exact ih0 _ _ _ _ _ _ _ _ _)
   | (with_reducible exact ih1 _ _ _ _ _ _ _)
   | (with_reducible exact ih2 _ _ _ _ _ _ _ _ _ _ _ _)
   | (with_reducible exact LeO.refl _)
   | (with_reducible exact LeO.none _)
   | (with_reducible refine LeO.ite ?_ ?_)
   | (with_reducible refine LeO.bind ?_ (fun _ => ?_))
   | exact ih0 _ _ _ _ _ _ _ _ _
   | exact ih1 _ _ _ _ _ _ _
   | exact ih2 _ _ _ _ _ _ _ _ _ _ _ _
   | exact LeO.none _
   | refine LeO.ite ?_ ?_
   | refine LeO.bind ?_ (fun _ => ?_)
  ·intro y0 y1 y2 y3 y4 y5 y6 y7 y8 y9 y10 y11
   unfold impl_Grammar_counts.l2
   repeat' first
   | (with_reducible exact ih0 _ _ _ _ _ _ _ _ _)
   | (with_reducible exact ih1 _ _ _ _ _ _ _)
   | (with_reducible exact ih2 _ _ _ _ _ _ _ _ _ _ _ _)
   | (with_reducible exact LeO.refl _)
   | (with_reducible exact LeO.none _)
   | (with_reducible refine LeO.ite ?_ ?_)
   | (with_reducible refine LeO.bind ?_ (fun _ => ?_))
   | exact ih0 _ _ _ _ _ _ _ _ _
   | exact ih1 _ _ _ _ _ _ _
   | exact ih2 _ _ _ _ _ _ _ _ _ _ _ _
   | exact LeO.none _
   | refine LeO.ite ?_ ?_
   | refine LeO.bind ?_ (fun _ => ?_)
theorem impl_Grammar_counts.mono : ∀ a0 a1 a2 a3 a4 k, LeO (impl_Grammar_counts.f k a0 a1 a2 a3 a4) (impl_Grammar_counts.f (k + 1) a0 a1 a2 a3 a4) := by
 intro a0 a1 a2 a3 a4 k
 obtain ⟨ih0, ih1, ih2⟩ := impl_Grammar_counts.mono_l k
 unfold impl_Grammar_counts.f
 repeat' first
   | (with_reducible exact ih0 _ _ _ _ _ _ _ _ _)
   | (with_reducible exact ih1 _ _ _ _ _ _ _)
   | (with_reducible exact ih2 _ _ _ _ _ _ _ _ _ _ _ _)
   | (with_reducible exact LeO.refl _)
   | (with_reducible exact LeO.none _)
   | (with_reducible refine LeO.ite ?_ ?_)
   | (with_reducible refine LeO.bind ?_ (fun _ => ?_))
   | exact ih0 _ _ _ _ _ _ _ _ _
   | exact ih1 _ _ _ _ _ _ _
   | exact ih2 _ _ _ _ _ _ _ _ _ _ _ _
   | exact LeO.none _
   | refine LeO.ite ?_ ?_
   | refine LeO.bind ?_ (fun _ => ?_)
def impl_Grammar_counts.T15 : Bool × List (List Nat × List Nat) := (true, [([], []), ([], []), ([1], [1]), ([0, 2], [0, 2]), ([3], [3]), ([], []), ([], []), ([6], [6]), ([5, 7], [5, 7]), ([8], [8]), ([4, 9], [4, 9]), ([0, 2, 0, 1, 2, 3, 4, 5, 6, 7, 8, 9, 10], [0, 2]), ([11, 10, 0, 1, 2, 3, 4, 5, 6, 7, 8, 9, 10], [10, 11])])
def impl_Grammar_counts.B15 : List Nat := [0, 0, 2, 7, 15, 0, 0, 64, 224, 480, 1023, 2047, 4095]
theorem impl_Grammar_counts.tab15 : rtab .any (opsOf Try.f68 15) = impl_Grammar_counts.T15 := by kernel_rfl
theorem impl_Grammar_counts.bits15 : waitsOk impl_Grammar_counts.T15.2 impl_Grammar_counts.B15 = true := by kernel_rfl
set_option maxHeartbeats 8000000 in
set_option maxRecDepth 100000 in
theorem impl_Grammar_counts.calls (k : Nat) (a0_0 : Int) (a0_1 : Int) (A0_2 : Option Addr) (c0_2 : Nat) (l0_2 : List Int) (A0_3 : Option Addr) (c0_3 : Nat) (l0_3 : List (S67)) (a1 : Int) (r : List (List Int)) (w : World) (hr0_2 : Kd.C (Kd.int .i64) w A0_2 l0_2.length l0_2) (hc0_2 : l0_2.length ≤ c0_2) (hr0_3 : Kd.C k67 w A0_3 l0_3.length l0_3) (hc0_3 : l0_3.length ≤ c0_3) (h : impl_Grammar_counts.f k a0_0 a0_1 l0_2 l0_3 a1 = some r) :
  Calls Try.prog 68 #[.agg #[.int .i64 a0_0, .int .i64 a0_1, .slice A0_2 l0_2.length c0_2, .slice A0_3 l0_3.length c0_3], .int .i64 a1] w fun e w' => ∃ v0_ : Value, e = .returned (v0_) ∧ Kd.N (Kd.slice 2 (Kd.int .i64)) 22 w' w.heap.size (fun k_ => (w.heap.size ≤ k_)) v0_ r ∧ Below w.heap.size w w' := by
 have hu30 := Try.underlying30
 have hu67 := Try.underlying67
 have HR0_2 := Aside0.mk hr0_2
 have HC0_2 := Aside0.mk hc0_2
 clear hr0_2 hc0_2
 have HR0_3 := Aside0.mk hr0_3
 have HC0_3 := Aside0.mk hc0_3
 clear hr0_3 hc0_3
 have HB := Aside0.mk (Below.refl w.heap.size w)
 have H : (if 0 ≤ a0_0 then (if (a0_0 : Int).toNat ≤ 35184372088832 then (impl_Grammar_counts.l0 k a1 (List.replicate (a0_0 : Int).toNat 0) l0_2 (l0_2.length : Int) 0 a0_0 a0_1 l0_2 l0_3) else (none)) else (none)) = some r := h
 clear h
 by_cases c3 : 0 ≤ a0_0
 ·rw [if_pos c3] at H
  have c3b0 := eq_true c3
  have c3b1 : decide (0 ≤ a0_0) = true := decide_eq_true c3
  clear c3
  by_cases c4 : (a0_0 : Int).toNat ≤ 35184372088832
  ·rw [if_pos c4] at H
   have c4b0 := eq_true c4
   have c4b1 : decide ((a0_0 : Int).toNat ≤ 35184372088832) = true := decide_eq_true c4
   clear c4
   obtain ⟨y241, hy241⟩ : ∃ y_ : List Int, y_ = (List.replicate (a0_0 : Int).toNat 0) := ⟨_, rfl⟩
   replace H : (impl_Grammar_counts.l0 k a1 y241 l0_2 (l0_2.length : Int) 0 a0_0 a0_1 l0_2 l0_3) = some r := by first | (rw [hy241]; with_reducible exact H) | (have H2_ := (Option.bind_some _ _).symm.trans H; rw [hy241]; with_reducible exact H2_) | (have H2_ := (Option.bind_some _ _).symm.trans H; with_reducible exact H2_) | with_reducible exact H | (rw [hy241]; exact H) | exact H
   have Ny241 := Aside0.mk hy241
   clear hy241
   have H' := Aside0.mk H
   clear H
   go_enter Try.func68, Try.ntmps68
   go_wp2_with (first | ((with_reducible refine gate_dst (N := 2) rfl ?_); refine bE ?hg (N := 2) ?hd (cs := #[.int .i64 a0_0, .int .i64 a0_1, .slice A0_2 l0_2.length c0_2, .slice A0_3 l0_3.length c0_3]) (t := 30) ?hr ?_; (case hd => rfl); (case hg => rfl); (case hr => first | (go_simp; done) | (go_simp; rfl)); intro gb240 hg w5 hbox hb; have n0_ := Aside0.mk (bP (by repeat (first | (with_reducible first | exact HB.out | apply bA | apply bN | apply bD) | exact HB.out)) hb); have n1_ := Aside0.mk (hbox); have n2_ := Aside0.mk ((by rw [hg]; exact (bZ (by repeat (first | (with_reducible first | exact HB.out | apply bA | apply bN | apply bD) | exact HB.out))) : w.heap.size ≤ gb240)); have n3_ := Aside0.mk ((by rw [hg]; exact (bZ (by repeat (first | (with_reducible first | exact HB.out | apply bA | apply bN | apply bD) | exact HB.out))) : w.heap.size ≤ gb240)); clear HB; have HB := n0_; have BK240 := n1_; have GW240 := n2_; have GE240 := n3_; clear n0_ n1_ n2_ n3_; clear hb hbox hg; have hcz6_0 : w5.cell? ⟨gb240, 0, none⟩ = some (.int .i64 a0_0) := (kC BK240.out 0).trans rfl; have hcz6_1 : w5.cell? ⟨gb240, 1, none⟩ = some (.int .i64 a0_1) := (kC BK240.out 1).trans rfl; have hcz6_2 : w5.cell? ⟨gb240, 2, none⟩ = some (.slice A0_2 l0_2.length c0_2) := (kC BK240.out 2).trans rfl; have hcz6_3 : w5.cell? ⟨gb240, 3, none⟩ = some (.slice A0_3 l0_3.length c0_3) := (kC BK240.out 3).trans rfl; have hfz6_0 := blk_frozen BK240.out 0; have hfz6_1 := blk_frozen BK240.out 1; have hfz6_2 := blk_frozen BK240.out 2; have hfz6_3 := blk_frozen BK240.out 3) | ((with_reducible refine gate_dst (N := 15) rfl ?_); refine Kd.R_make (Kd.int .i64) _ 2 rfl (N := 15) rfl 22 _ _ rfl a0_0 rfl rfl Try.underlying22 (.int .i64 0) 8 info2 rfl (by decide) (by omega) 0 (ok := fun _ => True) (okp := fun _ => True) rfl (fun _ hk => hk) trivial (of_decide_eq_true (by first | (with_reducible assumption) | assumption)) (Nat.le_trans (Nat.mul_le_mul_right _ (of_decide_eq_true (by first | (with_reducible assumption) | assumption) : a0_0.toNat ≤ 35184372088832)) (by omega)) (Below.refl _ _) (Nat.le_refl _) ?_; intro v242 w7 ho8 hb hg_ hnew_; clear hg_ hnew_; (first | rw [← Ny241.out] at ho8 | (simp only [Int.reduceToNat] at ho8; rw [← Ny241.out] at ho8)); have n0_ := Aside0.mk (rL (Kd.R_newM (M := fun k_ => (w.heap.size ≤ k_)) ho8 (bZ (by repeat (first | (with_reducible first | exact HB.out | apply bA | apply bN | apply bD | refine bS ?_ GE240.out) | exact HB.out))) (fun k_ h_ => h_)) (bZ (by repeat (first | (with_reducible first | exact HB.out | apply bA | apply bN | apply bD | refine bS ?_ GE240.out) | exact HB.out)))); have n1_ := Aside0.mk (kB (g := gb240) (o := .cells #[.int .i64 a0_0, .int .i64 a0_1, .slice A0_2 l0_2.length c0_2, .slice A0_3 l0_3.length c0_3] 30 (0, 0)) (by (with_reducible repeat (first | refine kN ?_ _ | refine kD ?_ | refine kA ?_ _)); exact BK240.out) hb); have n2_ := Aside0.mk (bP (by repeat (first | (with_reducible first | exact HB.out | apply bA | apply bN | apply bD | refine bS ?_ GE240.out) | exact HB.out)) hb); clear BK240; clear HB; have HO243 := n0_; have BK240 := n1_; have HB := n2_; clear n0_ n1_ n2_; clear hb ho8; have hcz9_0 : w7.cell? ⟨gb240, 0, none⟩ = some (.int .i64 a0_0) := (kC BK240.out 0).trans rfl; have hcz9_1 : w7.cell? ⟨gb240, 1, none⟩ = some (.int .i64 a0_1) := (kC BK240.out 1).trans rfl; have hcz9_2 : w7.cell? ⟨gb240, 2, none⟩ = some (.slice A0_2 l0_2.length c0_2) := (kC BK240.out 2).trans rfl; have hcz9_3 : w7.cell? ⟨gb240, 3, none⟩ = some (.slice A0_3 l0_3.length c0_3) := (kC BK240.out 3).trans rfl; have hfz9_0 := blk_frozen BK240.out 0; have hfz9_1 := blk_frozen BK240.out 1; have hfz9_2 := blk_frozen BK240.out 2; have hfz9_3 := blk_frozen BK240.out 3))
   go_loopg [19] k (fun kq v19 w' => ∃ (x5_1 : List Int) (x19_1 : Int), v19 = .int .i64 x19_1 ∧ Aside0 (impl_Grammar_counts.l0 kq a1 x5_1 l0_2 (l0_2.length : Int) x19_1 a0_0 a0_1 l0_2 l0_3 = some r) ∧ Aside0 (kq ≤ k) ∧ Aside0 (Kd.R (Kd.int .i64) 2 w' w.heap.size (fun k_ => (w.heap.size ≤ k_)) v242 x5_1) ∧ Aside0 (w'.heap[gb240]? = some (.cells #[.int .i64 a0_0, .int .i64 a0_1, (.slice A0_2 l0_2.length c0_2), (.slice A0_3 l0_3.length c0_3)] 30 (0, 0))) ∧ Aside0 (Below w.heap.size w w'))
   case atStart => exact ⟨(y241), (0), (by first | rfl | (simp; done) | (simp [*]; done)), H', ⟨Nat.le_refl _⟩, ⟨by (with_reducible repeat (first | apply rA | apply rN | apply rD)); exact rM HO243.out (fun _ hk => hk.1)⟩, ⟨by (with_reducible repeat (first | refine kN ?_ _ | refine kD ?_ | refine kA ?_ _)); exact BK240.out⟩, ⟨by repeat (first | (with_reducible first | exact HB.out | apply bA | apply bN | apply bD | refine bS ?_ GE240.out) | exact HB.out)⟩⟩
   case round =>
    clear H'
    try clear p2
    try clear c3
    try clear c3b0
    try clear c3b1
    try clear c4
    try clear c4b0
    try clear c4b1
    try clear c6
    try clear hcz6_0
    try clear hcz6_1
    try clear hcz6_2
    try clear hcz6_3
    try clear hcz9_0
    try clear hcz9_1
    try clear hcz9_2
    try clear hcz9_3
    try clear hfz6_0
    try clear hfz6_1
    try clear hfz6_2
    try clear hfz6_3
    try clear hfz9_0
    try clear hfz9_1
    try clear hfz9_2
    try clear hfz9_3
    obtain ⟨x5_1, x19_1, rfl, HA, HK1, HO_5, BK240, HB⟩ := hrel
    cases gk with
    | zero => exact absurd HA.out (by simp [impl_Grammar_counts.l0])
    | succ k1 =>
     have H := HA.out
     clear HA
     simp only [impl_Grammar_counts.l0] at H
     by_cases c10 : x19_1 < (l0_2.length : Int)
     ·rw [if_pos c10] at H
      have c10b0 : decide (x19_1 < (l0_2.length : Int)) = true := decide_eq_true c10
      clear c10
      by_cases c11 : 0 ≤ x19_1
      ·rw [if_pos c11] at H
       have c11b0 : decide (0 ≤ x19_1) = true := decide_eq_true c11
       clear c11
       by_cases c12 : x19_1 < (l0_2.length : Int)
       ·rw [if_pos c12] at H
        have c12b0 : decide (x19_1 < (l0_2.length : Int)) = true := decide_eq_true c12
        clear c12
        by_cases c13 : 0 ≤ (rd l0_2 x19_1)
        ·rw [if_pos c13] at H
         have c13b0 : decide (0 ≤ (rd l0_2 x19_1)) = true := decide_eq_true c13
         clear c13
         by_cases c14 : (rd l0_2 x19_1) < (x5_1.length : Int)
         ·rw [if_pos c14] at H
          have c14b0 : decide ((rd l0_2 x19_1) < (x5_1.length : Int)) = true := decide_eq_true c14
          clear c14
          obtain ⟨y245, hy245⟩ : ∃ y_ : List Int, y_ = (x5_1.set ((rd l0_2 x19_1) : Int).toNat 1) := ⟨_, rfl⟩
          replace H : (impl_Grammar_counts.l0 k1 a1 y245 l0_2 (l0_2.length : Int) (wrap64 (x19_1 + 1)) a0_0 a0_1 l0_2 l0_3) = some r := by first | (rw [hy245]; with_reducible exact H) | (have H2_ := (Option.bind_some _ _).symm.trans H; rw [hy245]; with_reducible exact H2_) | (have H2_ := (Option.bind_some _ _).symm.trans H; with_reducible exact H2_) | with_reducible exact H | (rw [hy245]; exact H) | exact H
          have Ny245 := Aside0.mk hy245
          clear hy245
          have H' := Aside0.mk H
          clear H
          have p244 : 0 ≤ (x19_1 : Int) := of_decide_eq_true (by first | (with_reducible assumption) | assumption)
          have q244 : x19_1 < (l0_2.length : Int) := of_decide_eq_true (by first | (with_reducible assumption) | assumption)
          obtain ⟨ad244, e244, hx244_0⟩ := Kd.at_int HR0_2.out x19_1 p244 q244
          cases e244
          (try (replace hx244_0 := (HB.out.cell (World.block_lt_of_cell? w _ hx244_0)).trans hx244_0))
          replace p244 := eq_true p244
          replace q244 := eq_true q244
          have p15 : 0 ≤ ((rd l0_2 x19_1) : Int) := of_decide_eq_true (by first | (with_reducible assumption) | assumption)
          have q15 : ((rd l0_2 x19_1) : Int) < ((x5_1.length : Int) : Int) := of_decide_eq_true (by first | (with_reducible assumption) | assumption)
          obtain ⟨go15, co15, eo15, gb15, gl15, cl15, HG15⟩ := Kd.R_form HO_5.out (by omega)
          (first | cases eo15 | (injection eo15 with ea_ en_ ec_; (first | subst ea_ | (injection ea_ with ea_; subst ea_)); subst ec_; clear en_))
          have GB15 := Aside0.mk gb15
          have GG15 := Aside0.mk HG15
          clear gb15 gl15 HG15
          obtain ⟨hx15_0, hf15_0⟩ := Kd.R_celln 0 HO_5.out ((rd l0_2 x19_1) : Int) p15 q15
          replace p15 := eq_true p15
          replace q15 := eq_true q15
          have HP16 := Kd.R_putg HO_5.out ((rd l0_2 x19_1) : Int) 1
          go_wp2_with (first | ((with_reducible refine gate_store (t := 2) (p := 25) rfl ?_); refine store_event (t := 2) (p := 25) (v := ?vo_w17) (w1 := (wr.setCell ⟨go15, ((rd l0_2 x19_1) : Int).toNat, none⟩ (.int .i64 1))) ?hg ?ho ?hn ?hr ?_; (case ho => rfl); (case hg => rfl); (case hn => rfl); (case hr => first | (go_simp; done) | (go_simp; rfl)); intro w17 hw; have hg : wr.grownBy w17 (some go15) := (by rw [hw]; exact HP16.2); have hp_ : Kd.R (Kd.int .i64) 2 w17 w.heap.size (fun k_ => (w.heap.size ≤ k_)) (.slice (some ⟨go15, 0, none⟩) x5_1.length co15) y245 := (by rw [hw, Ny245.out]; exact HP16.1); clear HP16; have n0_ := Aside0.mk (hp_); have n1_ := Aside0.mk (blk_grown (g := gb240) (o := .cells #[.int .i64 a0_0, .int .i64 a0_1, .slice (some ad244) l0_2.length c0_2, .slice A0_3 l0_3.length c0_3] 30 (0, 0)) (by (with_reducible repeat (first | refine kN ?_ _ | refine kD ?_ | refine kA ?_ _)); exact BK240.out) hg (Kd.R_ne HO_5.out BK240.out (by decide))); have n2_ := Aside0.mk ((by rw [hw]; exact bS (HB.out) GB15.out : Below w.heap.size w w17)); clear HO_5; clear BK240; clear HB; have HO_5 := n0_; have BK240 := n1_; have HB := n2_; clear n0_ n1_ n2_; clear hg hw hp_))
          go_roundg k1
          case measure => have := HK1.out; omega
          case rel => exact ⟨(y245), (wrap64 (x19_1 + 1)), (by first | rfl | (simp; done) | (simp [*]; done)), H', ⟨by have := HK1.out; omega⟩, ⟨by (with_reducible repeat (first | apply rA | apply rN | apply rD)); exact HO_5.out⟩, ⟨by (with_reducible repeat (first | refine kN ?_ _ | refine kD ?_ | refine kA ?_ _)); exact BK240.out⟩, ⟨by repeat (first | (with_reducible first | exact HB.out | apply bA | apply bN | apply bD | refine bS ?_ GE240.out) | exact HB.out)⟩⟩
         ·rw [if_neg c14] at H
          exact absurd H (by simp)
        ·rw [if_neg c13] at H
         exact absurd H (by simp)
       ·rw [if_neg c12] at H
        exact absurd H (by simp)
      ·rw [if_neg c11] at H
       exact absurd H (by simp)
     ·rw [if_neg c10] at H
      have c10b0 : decide (x19_1 < (l0_2.length : Int)) = false := decide_eq_false c10
      clear c10
      obtain ⟨y246, hy246⟩ : ∃ y_ : List (List Int), y_ = (([x5_1] : List (List Int))) := ⟨_, rfl⟩
      replace H : (impl_Grammar_counts.l1 k1 y246 a1 0 a0_0 a0_1 l0_2 l0_3) = some r := by first | (rw [hy246]; with_reducible exact H) | (have H2_ := (Option.bind_some _ _).symm.trans H; rw [hy246]; with_reducible exact H2_) | (have H2_ := (Option.bind_some _ _).symm.trans H; with_reducible exact H2_) | with_reducible exact H | (rw [hy246]; exact H) | exact H
      have Ny246 := Aside0.mk hy246
      clear hy246
      have H' := Aside0.mk H
      clear H
      obtain ⟨Ao18, co18, eo18⟩ := Kd.R_slice HO_5.out
      subst eo18
      go_wp2_with (first | ((with_reducible refine gate_dst (N := 28) rfl ?_); refine Kd.N_lit (Kd.slice 2 (Kd.int .i64)) _ 22 ?hg (N' := 28) ?hd (xs := ([x5_1] : List (List Int))) (inner := [.slice Ao18 x5_1.length co18]) (ok := (fun k_ => (w.heap.size ≤ k_) ∧ k_ ≠ gb240)) (okp := (fun k_ => (w.heap.size ≤ k_) ∧ k_ ≠ gb240)) ?hr ?hp (fun _ hk => hk) ((show ∀ k_, wr.heap.size ≤ k_ → (fun k_ => (w.heap.size ≤ k_) ∧ k_ ≠ gb240) k_ from fun k_ hk => ⟨(Nat.le_trans (bZ (by repeat (first | (with_reducible first | exact HB.out | apply bA | apply bN | apply bD | refine bS ?_ GE240.out) | exact HB.out))) hk), Kd.freshB (g := gb240) (o := .cells #[.int .i64 a0_0, .int .i64 a0_1, .slice A0_2 l0_2.length c0_2, .slice A0_3 l0_3.length c0_3] 30 (0, 0)) (by (with_reducible repeat (first | refine kN ?_ _ | refine kD ?_ | refine kA ?_ _)); exact BK240.out) k_ hk⟩) _ (Nat.le_refl _)) (Below.refl _ _) (Nat.le_refl _) (by simp) ?_; (case hd => rfl); (case hg => rfl); (case hr => first | (go_simp; done) | (go_simp; rfl)); (case hp => exact (Reps.one (show Kd.FK (Kd.slice 2 (Kd.int .i64)) _ _ x5_1 [.slice Ao18 x5_1.length co18] from (Kd.FK_slice_mk (Kd.R_reads' (rM (ok' := (fun k_ => (w.heap.size ≤ k_) ∧ k_ ≠ gb240)) (Kd.R_types (HO_5.out) BK240.out (by decide)) (fun k_ hk => ⟨hk.1, hk.2⟩))).2.1 (Kd.R_F (rM (ok' := (fun k_ => (w.heap.size ≤ k_) ∧ k_ ≠ gb240)) (Kd.R_types (HO_5.out) BK240.out (by decide)) (fun k_ hk => ⟨hk.1, hk.2⟩))))) (Reps.none _ _))); intro v247 w19 ho20 hb hg_ hnew_; clear hg_ hnew_; (first | rw [← Ny246.out] at ho20 | (simp only [Int.reduceToNat] at ho20; rw [← Ny246.out] at ho20)); have n0_ := Aside0.mk (Kd.N_lower ho20 (bZ (by repeat (first | (with_reducible first | exact HB.out | apply bA | apply bN | apply bD | refine bS ?_ GE240.out) | exact HB.out)))); have n1_ := Aside0.mk (kB (g := gb240) (o := .cells #[.int .i64 a0_0, .int .i64 a0_1, .slice A0_2 l0_2.length c0_2, .slice A0_3 l0_3.length c0_3] 30 (0, 0)) (by (with_reducible repeat (first | refine kN ?_ _ | refine kD ?_ | refine kA ?_ _)); exact BK240.out) hb); have n2_ := Aside0.mk (bP (by repeat (first | (with_reducible first | exact HB.out | apply bA | apply bN | apply bD | refine bS ?_ GE240.out) | exact HB.out)) hb); clear BK240; clear HB; clear HO_5; have HO248 := n0_; have BK240 := n1_; have HB := n2_; clear n0_ n1_ n2_; clear hb ho20))
      go_loopg [8, 30] k1 (fun kq v8 v30 w' => ∃ (x8_2 : List (List Int)) (x30_2 : Int), v30 = .int .i64 x30_2 ∧ Aside0 (impl_Grammar_counts.l1 kq x8_2 a1 x30_2 a0_0 a0_1 l0_2 l0_3 = some r) ∧ Aside0 (kq ≤ k1) ∧ Aside0 (Kd.N (Kd.slice 2 (Kd.int .i64)) 22 w' w.heap.size (fun k_ => (w.heap.size ≤ k_) ∧ k_ ≠ gb240) v8 x8_2) ∧ Aside0 (w'.heap[gb240]? = some (.cells #[.int .i64 a0_0, .int .i64 a0_1, (.slice A0_2 l0_2.length c0_2), (.slice A0_3 l0_3.length c0_3)] 30 (0, 0))) ∧ Aside0 (Below w.heap.size w w'))
      case atStart => exact ⟨(y246), (0), (by first | rfl | (simp; done) | (simp [*]; done)), H', ⟨Nat.le_refl _⟩, ⟨by (with_reducible repeat (first | apply Kd.N_alloc | apply Kd.N_drewN | apply Kd.N_drew)); exact HO248.out⟩, ⟨by (with_reducible repeat (first | refine kN ?_ _ | refine kD ?_ | refine kA ?_ _)); exact BK240.out⟩, ⟨by repeat (first | (with_reducible first | exact HB.out | apply bA | apply bN | apply bD | refine bS ?_ GE240.out) | exact HB.out)⟩⟩
      case round =>
       clear H'
       try clear c1
       try clear p1
       try clear q1
       try clear hx1
       try clear p2
       try clear q2
       try clear hx2
       try clear c3
       try clear c3b0
       try clear c3b1
       try clear c4
       try clear c4b0
       try clear c4b1
       try clear c6
       try clear p6
       try clear c10
       try clear c10b0
       try clear c11
       try clear c11b0
       try clear c12
       try clear c12b0
       try clear c13
       try clear c13b0
       try clear c14
       try clear c14b0
       try clear p15
       try clear q15
       try clear hx15
       try clear hf15
       try clear hcz6_0
       try clear hcz6_1
       try clear hcz6_2
       try clear hcz6_3
       try clear hcz9_0
       try clear hcz9_1
       try clear hcz9_2
       try clear hcz9_3
       try clear hfz6_0
       try clear hfz6_1
       try clear hfz6_2
       try clear hfz6_3
       try clear hfz9_0
       try clear hfz9_1
       try clear hfz9_2
       try clear hfz9_3
       try clear hx15_0
       try clear hx244_0
       try clear p15
       try clear p2
       try clear p244
       try clear q15
       try clear q244
       obtain ⟨x8_2, x30_2, rfl, HA, HK2, HO_8, BK240, HB⟩ := hrel
       cases gk with
       | zero => exact absurd HA.out (by simp [impl_Grammar_counts.l1])
       | succ k2 =>
        have H := HA.out
        clear HA
        simp only [impl_Grammar_counts.l1] at H
        by_cases c21 : x30_2 < a1
        ·rw [if_pos c21] at H
         have c21b0 : decide (x30_2 < a1) = true := decide_eq_true c21
         clear c21
         obtain ⟨ji22, hji22⟩ : ∃ j_ : Int, (wrap64 ((x8_2.length : Int) - 1)) = j_ := ⟨_, rfl⟩
         replace H : (if 0 ≤ (ji22) then (if (ji22) < (x8_2.length : Int) then (if 0 ≤ a0_0 then (if (a0_0 : Int).toNat ≤ 35184372088832 then (impl_Grammar_counts.l2 k2 x8_2 (rd_L3 x8_2 (ji22)) (List.replicate (a0_0 : Int).toNat 0) a1 x30_2 l0_3 (l0_3.length : Int) 0 a0_0 a0_1 l0_2 l0_3) else (none)) else (none)) else (none)) else (none)) = some r := by first | (rw [hji22] at H; exact H) | (simp only [hji22] at H ⊢; exact H)
         have hji22w : (IntKind.i64.wrap ((x8_2.length : Int) - 1)) = ji22 := (iW _).trans hji22
         by_cases c23 : 0 ≤ (ji22)
         ·rw [if_pos c23] at H
          have c23b0 : decide (0 ≤ (ji22)) = true := decide_eq_true c23
          clear c23
          by_cases c24 : (ji22) < (x8_2.length : Int)
          ·rw [if_pos c24] at H
           have c24b0 : decide ((ji22) < (x8_2.length : Int)) = true := decide_eq_true c24
           clear c24
           by_cases c25 : 0 ≤ a0_0
           ·rw [if_pos c25] at H
            have c25b0 := eq_true c25
            have c25b1 : decide (0 ≤ a0_0) = true := decide_eq_true c25
            clear c25
            by_cases c26 : (a0_0 : Int).toNat ≤ 35184372088832
            ·rw [if_pos c26] at H
             have c26b0 := eq_true c26
             have c26b1 : decide ((a0_0 : Int).toNat ≤ 35184372088832) = true := decide_eq_true c26
             clear c26
             obtain ⟨y250, hy250⟩ : ∃ y_ : List Int, y_ = (List.replicate (a0_0 : Int).toNat 0) := ⟨_, rfl⟩
             replace H : (impl_Grammar_counts.l2 k2 x8_2 (rd_L3 x8_2 (ji22)) y250 a1 x30_2 l0_3 (l0_3.length : Int) 0 a0_0 a0_1 l0_2 l0_3) = some r := by first | (rw [hy250]; with_reducible exact H) | (have H2_ := (Option.bind_some _ _).symm.trans H; rw [hy250]; with_reducible exact H2_) | (have H2_ := (Option.bind_some _ _).symm.trans H; with_reducible exact H2_) | with_reducible exact H | (rw [hy250]; exact H) | exact H
             have Ny250 := Aside0.mk hy250
             clear hy250
             have H' := Aside0.mk H
             clear H
             obtain ⟨Ao27, co27, eo27⟩ := Kd.N_slice HO_8.out
             subst eo27
             have p249 : 0 ≤ ((ji22) : Int) := of_decide_eq_true (by first | (with_reducible assumption) | assumption)
             have q249 : (ji22) < (x8_2.length : Int) := of_decide_eq_true (by first | (with_reducible assumption) | assumption)
             obtain ⟨ad249, A249_0, c249_0, e249, hx249_0, hl249_0, hi249_0⟩ := at_L3 (Kd.N_reads' HO_8.out).2.2 (ji22) p249 q249
             cases e249
             obtain ⟨ce249, hce249, hMe249, hcc249⟩ := Kd.N_get HO_8.out [] (ji22) p249 (by first | exact q249 | exact of_decide_eq_true (by first | (with_reducible assumption) | assumption) | (have e_ := (Kd.N_reads' HO_8.out).1; omega))
             obtain ⟨ua249_0, uc249_0, rfl, ul249_0, ge249_0⟩ := Kd.FK_slice_open hMe249
             have hv249_0 := hcc249 0 _ rfl
             rw [Nat.add_zero, show ((Kd.slice 2 (Kd.int .i64))).sz = 1 from rfl, Nat.mul_one] at hv249_0
             replace hv249_0 := Option.some.inj (hv249_0.symm.trans hx249_0)
             injection hv249_0 with hva_ hvn_ hvc_
             rw [hva_] at ge249_0
             rw [hvc_] at ul249_0
             have HL249_0 := Aside0.mk (show Kd.V (Kd.int .i64) 2 _ w.heap.size _ _ (rd_L3 x8_2 (ji22)) from Kd.V_mk ul249_0 ge249_0)
             clear hva_ hvn_ hvc_ ge249_0 ul249_0
             clear hcc249 hce249
             have HR249_0 := Aside0.mk hi249_0
             have HRy := HR249_0
             have HC249_0 := Aside0.mk hl249_0
             clear hi249_0 hl249_0
             replace p249 := eq_true p249
             replace q249 := eq_true q249
             have hcz28_0 : wr.cell? ⟨gb240, 0, none⟩ = some (.int .i64 a0_0) := (kC BK240.out 0).trans rfl
             have hcz28_1 : wr.cell? ⟨gb240, 1, none⟩ = some (.int .i64 a0_1) := (kC BK240.out 1).trans rfl
             have hcz28_2 : wr.cell? ⟨gb240, 2, none⟩ = some (.slice A0_2 l0_2.length c0_2) := (kC BK240.out 2).trans rfl
             have hcz28_3 : wr.cell? ⟨gb240, 3, none⟩ = some (.slice A0_3 l0_3.length c0_3) := (kC BK240.out 3).trans rfl
             have hfz28_0 := blk_frozen BK240.out 0
             have hfz28_1 := blk_frozen BK240.out 1
             have hfz28_2 := blk_frozen BK240.out 2
             have hfz28_3 := blk_frozen BK240.out 3
             go_wp2_with (first | ((with_reducible refine gate_dst (N := 40) rfl ?_); refine Kd.R_make (Kd.int .i64) _ 2 rfl (N := 40) rfl 22 _ _ rfl a0_0 rfl rfl Try.underlying22 (.int .i64 0) 8 info2 rfl (by decide) (by omega) 0 (ok := fun _ => True) (okp := fun _ => True) rfl (fun _ hk => hk) trivial (of_decide_eq_true (by first | (with_reducible assumption) | assumption)) (Nat.le_trans (Nat.mul_le_mul_right _ (of_decide_eq_true (by first | (with_reducible assumption) | assumption) : a0_0.toNat ≤ 35184372088832)) (by omega)) (Below.refl _ _) (Nat.le_refl _) ?_; intro v251 w29 ho30 hb hg_ hnew_; have HBy := Aside0.mk hb; have HGy := Aside0.mk (Kd.R_base ho30); clear hg_ hnew_; (first | rw [← Ny250.out] at ho30 | (simp only [Int.reduceToNat] at ho30; rw [← Ny250.out] at ho30)); have n0_ := Aside0.mk (Kd.N_elder' (by (with_reducible repeat (first | apply Kd.N_alloc | apply Kd.N_drewN | apply Kd.N_drew)); exact HO_8.out) (Kd.R_base ho30) hb); have n1_ := Aside0.mk (Kd.V_elder' (by (with_reducible repeat (first | apply Kd.V_alloc | apply Kd.V_drewN | apply Kd.V_drew)); exact HL249_0.out) (Kd.R_base ho30) hb); have n2_ := Aside0.mk (rL (Kd.R_newM (M := fun k_ => (w.heap.size ≤ k_)) ho30 (bZ (by repeat (first | (with_reducible first | exact HB.out | apply bA | apply bN | apply bD | refine bS ?_ GE240.out) | exact HB.out))) (fun k_ h_ => h_)) (bZ (by repeat (first | (with_reducible first | exact HB.out | apply bA | apply bN | apply bD | refine bS ?_ GE240.out) | exact HB.out)))); have n3_ := Aside0.mk (kB (g := gb240) (o := .cells #[.int .i64 a0_0, .int .i64 a0_1, .slice A0_2 l0_2.length c0_2, .slice A0_3 l0_3.length c0_3] 30 (0, 0)) (by (with_reducible repeat (first | refine kN ?_ _ | refine kD ?_ | refine kA ?_ _)); exact BK240.out) hb); have n4_ := Aside0.mk (cB (by repeat (first | (with_reducible exact HR249_0.out) | (with_reducible refine cA ?_ _) | (with_reducible refine cN ?_ _) | (with_reducible refine cD ?_) | exact HR249_0.out)) hb); have n5_ := Aside0.mk (bP (by repeat (first | (with_reducible first | exact HB.out | apply bA | apply bN | apply bD | refine bS ?_ GE240.out) | exact HB.out)) hb); clear HO_8; clear HL249_0; clear BK240; clear HR249_0; clear HB; have HO_8 := n0_; have HL249_0 := n1_; have HO252 := n2_; have BK240 := n3_; have HR249_0 := n4_; have HB := n5_; clear n0_ n1_ n2_ n3_ n4_ n5_; clear hb ho30; have hcz31_0 : w29.cell? ⟨gb240, 0, none⟩ = some (.int .i64 a0_0) := (kC BK240.out 0).trans rfl; have hcz31_1 : w29.cell? ⟨gb240, 1, none⟩ = some (.int .i64 a0_1) := (kC BK240.out 1).trans rfl; have hcz31_2 : w29.cell? ⟨gb240, 2, none⟩ = some (.slice A0_2 l0_2.length c0_2) := (kC BK240.out 2).trans rfl; have hcz31_3 : w29.cell? ⟨gb240, 3, none⟩ = some (.slice A0_3 l0_3.length c0_3) := (kC BK240.out 3).trans rfl; have hfz31_0 := blk_frozen BK240.out 0; have hfz31_1 := blk_frozen BK240.out 1; have hfz31_2 := blk_frozen BK240.out 2; have hfz31_3 := blk_frozen BK240.out 3))
             obtain ⟨wo, hwo⟩ : ∃ z : World, z = wr := ⟨wr, rfl⟩
             have HBz := HBy
             have HGz := HGy
             have HRz := HRy
             clear HBy HGy HRy
             rw [← hwo] at HBz HGz HRz
             clear hwo
             go_loopg [44] k2 (fun kq v44 w' => ∃ (x10_3 : List Int) (x44_3 : Int), v44 = .int .i64 x44_3 ∧ Aside0 (impl_Grammar_counts.l2 kq x8_2 (rd_L3 x8_2 (ji22)) x10_3 a1 x30_2 l0_3 (l0_3.length : Int) x44_3 a0_0 a0_1 l0_2 l0_3 = some r) ∧ Aside0 (kq ≤ k2) ∧ Aside0 (Kd.N (Kd.slice 2 (Kd.int .i64)) 22 w' w.heap.size (fun k_ => (w.heap.size ≤ k_) ∧ some k_ ≠ (v251 : Value).ownBlock ∧ k_ ≠ gb240) (.slice (some ad249) x8_2.length co27) x8_2) ∧ Aside0 (Kd.R (Kd.int .i64) 2 w' w.heap.size (fun k_ => (w.heap.size ≤ k_)) v251 x10_3) ∧ Aside0 (w'.heap[gb240]? = some (.cells #[.int .i64 a0_0, .int .i64 a0_1, (.slice A0_2 l0_2.length c0_2), (.slice A0_3 l0_3.length c0_3)] 30 (0, 0))) ∧ Aside0 (Below w.heap.size w w') ∧ Aside0 (Below wo.heap.size wo w'))
             case atStart => exact ⟨(y250), (0), (by first | rfl | (simp; done) | (simp [*]; done)), H', ⟨Nat.le_refl _⟩, ⟨by (with_reducible repeat (first | apply Kd.N_alloc | apply Kd.N_drewN | apply Kd.N_drew)); exact Kd.N_mono HO_8.out (fun _ hk => ⟨hk.1.1, ⟨hk.2, hk.1.2⟩⟩)⟩, ⟨by (with_reducible repeat (first | apply rA | apply rN | apply rD)); exact rM HO252.out (fun _ hk => hk.1)⟩, ⟨by (with_reducible repeat (first | refine kN ?_ _ | refine kD ?_ | refine kA ?_ _)); exact BK240.out⟩, ⟨by repeat (first | (with_reducible first | exact HB.out | apply bA | apply bN | apply bD | refine bS ?_ GE240.out) | exact HB.out)⟩, HBz⟩
             case round =>
              clear H'
              try clear c1
              try clear p1
              try clear q1
              try clear hx1
              try clear c2
              try clear p2
              try clear q2
              try clear hx2
              try clear c3
              try clear c3b0
              try clear c3b1
              try clear c4
              try clear c4b0
              try clear c4b1
              try clear c6
              try clear p6
              try clear c10
              try clear c10b0
              try clear c11
              try clear c11b0
              try clear c12
              try clear c12b0
              try clear c13
              try clear c13b0
              try clear c14
              try clear c14b0
              try clear p15
              try clear q15
              try clear hx15
              try clear hf15
              try clear c21
              try clear c21b0
              try clear c23
              try clear c23b0
              try clear c24
              try clear c24b0
              try clear p24
              try clear q24
              try clear hx24
              try clear c25
              try clear c25b0
              try clear c25b1
              try clear c26
              try clear c26b0
              try clear c26b1
              try clear hcz28_0
              try clear hcz28_1
              try clear hcz28_2
              try clear hcz28_3
              try clear hcz31_0
              try clear hcz31_1
              try clear hcz31_2
              try clear hcz31_3
              try clear hcz6_0
              try clear hcz6_1
              try clear hcz6_2
              try clear hcz6_3
              try clear hcz9_0
              try clear hcz9_1
              try clear hcz9_2
              try clear hcz9_3
              try clear hfz28_0
              try clear hfz28_1
              try clear hfz28_2
              try clear hfz28_3
              try clear hfz31_0
              try clear hfz31_1
              try clear hfz31_2
              try clear hfz31_3
              try clear hfz6_0
              try clear hfz6_1
              try clear hfz6_2
              try clear hfz6_3
              try clear hfz9_0
              try clear hfz9_1
              try clear hfz9_2
              try clear hfz9_3
              try clear hx15_0
              try clear hx244_0
              try clear hx249_0
              try clear p1
              try clear p15
              try clear p2
              try clear p244
              try clear p249
              try clear p6
              try clear q1
              try clear q15
              try clear q2
              try clear q244
              try clear q249
              obtain ⟨x10_3, x44_3, rfl, HA, HK3, HO_8, HO_10, BK240, HB, HB2⟩ := hrel
              cases gk with
              | zero => exact absurd HA.out (by simp [impl_Grammar_counts.l2])
              | succ k3 =>
               have H := HA.out
               clear HA
               simp only [impl_Grammar_counts.l2] at H
               by_cases c32 : x44_3 < (l0_3.length : Int)
               ·rw [if_pos c32] at H
                have c32b0 : decide (x44_3 < (l0_3.length : Int)) = true := decide_eq_true c32
                clear c32
                by_cases c33 : 0 ≤ x44_3
                ·rw [if_pos c33] at H
                 have c33b0 : decide (0 ≤ x44_3) = true := decide_eq_true c33
                 clear c33
                 by_cases c34 : x44_3 < (l0_3.length : Int)
                 ·rw [if_pos c34] at H
                  have c34b0 : decide (x44_3 < (l0_3.length : Int)) = true := decide_eq_true c34
                  clear c34
                  by_cases c35 : 0 ≤ ((rd_T67 l0_3 x44_3).f0)
                  ·rw [if_pos c35] at H
                   have c35b0 : decide (0 ≤ ((rd_T67 l0_3 x44_3).f0)) = true := decide_eq_true c35
                   clear c35
                   by_cases c36 : ((rd_T67 l0_3 x44_3).f0) < (x10_3.length : Int)
                   ·rw [if_pos c36] at H
                    have c36b0 : decide (((rd_T67 l0_3 x44_3).f0) < (x10_3.length : Int)) = true := decide_eq_true c36
                    clear c36
                    by_cases c37 : 0 ≤ ((rd_T67 l0_3 x44_3).f2)
                    ·rw [if_pos c37] at H
                     have c37b0 : decide (0 ≤ ((rd_T67 l0_3 x44_3).f2)) = true := decide_eq_true c37
                     clear c37
                     by_cases c38 : ((rd_T67 l0_3 x44_3).f2) < ((rd_L3 x8_2 (ji22)).length : Int)
                     ·rw [if_pos c38] at H
                      have c38b0 : decide (((rd_T67 l0_3 x44_3).f2) < ((rd_L3 x8_2 (ji22)).length : Int)) = true := decide_eq_true c38
                      clear c38
                      obtain ⟨y257, hy257⟩ : ∃ y_ : List Int, y_ = (x10_3.set (((rd_T67 l0_3 x44_3).f0) : Int).toNat (wrap64 ((rd x10_3 ((rd_T67 l0_3 x44_3).f0)) + (rd (rd_L3 x8_2 (ji22)) ((rd_T67 l0_3 x44_3).f2))))) := ⟨_, rfl⟩
                      replace H : (impl_Grammar_counts.l2 k3 x8_2 (rd_L3 x8_2 (ji22)) y257 a1 x30_2 l0_3 (l0_3.length : Int) (wrap64 (x44_3 + 1)) a0_0 a0_1 l0_2 l0_3) = some r := by first | (rw [hy257]; with_reducible exact H) | (have H2_ := (Option.bind_some _ _).symm.trans H; rw [hy257]; with_reducible exact H2_) | (have H2_ := (Option.bind_some _ _).symm.trans H; with_reducible exact H2_) | with_reducible exact H | (rw [hy257]; exact H) | exact H
                      have Ny257 := Aside0.mk hy257
                      clear hy257
                      have H' := Aside0.mk H
                      clear H
                      have p253 : 0 ≤ (x44_3 : Int) := of_decide_eq_true (by first | (with_reducible assumption) | assumption)
                      have q253 : x44_3 < (l0_3.length : Int) := of_decide_eq_true (by first | (with_reducible assumption) | assumption)
                      obtain ⟨ad253, e253, hx253_0, hx253_1, hx253_2⟩ := at_T67 HR0_3.out x44_3 p253 q253
                      cases e253
                      (try (replace hx253_0 := (HB.out.cell (World.block_lt_of_cell? w _ hx253_0)).trans hx253_0))
                      (try (replace hx253_1 := (HB.out.cell (World.block_lt_of_cell? w _ hx253_1)).trans hx253_1))
                      (try (replace hx253_2 := (HB.out.cell (World.block_lt_of_cell? w _ hx253_2)).trans hx253_2))
                      replace p253 := eq_true p253
                      replace q253 := eq_true q253
                      try go_wp2_with (first | ((with_reducible refine gate_dst (N := 12) rfl ?_); refine bE ?hg (N := 12) ?hd (cs := #[.int .i64 0, .int .i64 0, .int .i64 0]) (t := 67) ?hr ?_; (case hd => rfl); (case hg => rfl); (case hr => first | (go_simp; done) | (go_simp; rfl)); intro gb254 hg w40 hbox hb; have nB2_ := Aside0.mk (bP (by repeat (first | (with_reducible first | exact HB2.out | apply bA | apply bN | apply bD) | exact HB2.out)) hb); have GE2 := Aside0.mk (Nat.le_trans (bZ (by repeat (first | (with_reducible first | exact HB2.out | apply bA | apply bN | apply bD) | exact HB2.out))) (Nat.le_of_eq hg.symm)); clear HB2; have HB2 := nB2_; clear nB2_; have n0_ := Aside0.mk (Kd.N_below (Kd.N_elderB (by (with_reducible repeat (first | apply Kd.N_alloc | apply Kd.N_drewN | apply Kd.N_drew)); exact HO_8.out) gb254 (Nat.le_of_eq hg.symm)) hb); have n1_ := Aside0.mk (rB (by (with_reducible repeat (first | apply rA | apply rN | apply rD)); exact HO_10.out) hb); have n2_ := Aside0.mk (kB (g := gb240) (o := .cells #[.int .i64 a0_0, .int .i64 a0_1, .slice A0_2 l0_2.length c0_2, .slice (some ad253) l0_3.length c0_3] 30 (0, 0)) (by (with_reducible repeat (first | refine kN ?_ _ | refine kD ?_ | refine kA ?_ _)); exact BK240.out) hb); have n3_ := Aside0.mk (bP (by repeat (first | (with_reducible first | exact HB.out | apply bA | apply bN | apply bD | refine bS ?_ GE240.out) | exact HB.out)) hb); have n4_ := Aside0.mk (hbox); have n5_ := Aside0.mk ((by rw [hg]; exact (bZ (by repeat (first | (with_reducible first | exact HB.out | apply bA | apply bN | apply bD | refine bS ?_ GE240.out) | exact HB.out))) : w.heap.size ≤ gb254)); have n6_ := Aside0.mk ((by rw [hg]; exact (bZ (by repeat (first | (with_reducible first | exact HB.out | apply bA | apply bN | apply bD | refine bS ?_ GE240.out) | exact HB.out))) : w.heap.size ≤ gb254)); have n7_ := Aside0.mk ((by rw [hg]; exact Nat.ne_of_lt (kL (g := gb240) (o := .cells #[.int .i64 a0_0, .int .i64 a0_1, .slice A0_2 l0_2.length c0_2, .slice (some ad253) l0_3.length c0_3] 30 (0, 0)) (by (with_reducible repeat (first | refine kN ?_ _ | refine kD ?_ | refine kA ?_ _)); exact BK240.out)) : gb240 ≠ gb254)); have n8_ := Aside0.mk ((by rw [hg]; exact Nat.ne_of_gt (kL (g := gb240) (o := .cells #[.int .i64 a0_0, .int .i64 a0_1, .slice A0_2 l0_2.length c0_2, .slice (some ad253) l0_3.length c0_3] 30 (0, 0)) (by (with_reducible repeat (first | refine kN ?_ _ | refine kD ?_ | refine kA ?_ _)); exact BK240.out)) : gb254 ≠ gb240)); clear HO_8; clear HO_10; clear BK240; clear HB; have HO_8 := n0_; have HO_10 := n1_; have BK240 := n2_; have HB := n3_; have BK254 := n4_; have GW254 := n5_; have GE254 := n6_; have NB240_254 := n7_; have NB254_240 := n8_; clear n0_ n1_ n2_ n3_ n4_ n5_ n6_ n7_ n8_; clear hb hbox hg; have hnb41 := NB254_240.out; have hnc41 := NB240_254.out; have hcz42_0 : w40.cell? ⟨gb254, 0, none⟩ = some (.int .i64 0) := (kC BK254.out 0).trans rfl; have hcz42_1 : w40.cell? ⟨gb254, 1, none⟩ = some (.int .i64 0) := (kC BK254.out 1).trans rfl; have hcz42_2 : w40.cell? ⟨gb254, 2, none⟩ = some (.int .i64 0) := (kC BK254.out 2).trans rfl; have hfz42_0 := blk_frozen BK254.out 0; have hfz42_1 := blk_frozen BK254.out 1; have hfz42_2 := blk_frozen BK254.out 2))
                      have n0_ : Aside0 (Kd.N (Kd.slice 2 (Kd.int .i64)) 22 (((w40.setCell ⟨gb254, 0, none⟩ (.int .i64 ((rd_T67 l0_3 x44_3).f0))).setCell ⟨gb254, 1, none⟩ (.int .i64 ((rd_T67 l0_3 x44_3).f1))).setCell ⟨gb254, 2, none⟩ (.int .i64 ((rd_T67 l0_3 x44_3).f2))) w.heap.size (fun k_ => (w.heap.size ≤ k_) ∧ some k_ ≠ (v251 : Value).ownBlock ∧ k_ ≠ gb240 ∧ k_ ≠ gb254) (.slice (some ad249) x8_2.length co27) x8_2) := ⟨by (with_reducible repeat (first | apply Kd.N_alloc | apply Kd.N_drewN | apply Kd.N_drew)); exact Kd.N_mono (Kd.N_far (p := ⟨gb254, 2, none⟩) (Kd.N_far (p := ⟨gb254, 1, none⟩) (Kd.N_far (p := ⟨gb254, 0, none⟩) (Kd.N_mono HO_8.out (fun k_ hk => (⟨hk, hk.2⟩ : _ ∧ k_ ≠ gb254))) (fun _ hk => hk.2) (.int .i64 ((rd_T67 l0_3 x44_3).f0))) (fun _ hk => hk.2) (.int .i64 ((rd_T67 l0_3 x44_3).f1))) (fun _ hk => hk.2) (.int .i64 ((rd_T67 l0_3 x44_3).f2))) (fun _ hk => ⟨hk.1.1.1, ⟨hk.1.1.2.1, ⟨hk.1.1.2.2, hk.1.2⟩⟩⟩)⟩
                      have n1_ : Aside0 (Kd.R (Kd.int .i64) 2 (((w40.setCell ⟨gb254, 0, none⟩ (.int .i64 ((rd_T67 l0_3 x44_3).f0))).setCell ⟨gb254, 1, none⟩ (.int .i64 ((rd_T67 l0_3 x44_3).f1))).setCell ⟨gb254, 2, none⟩ (.int .i64 ((rd_T67 l0_3 x44_3).f2))) w.heap.size (fun k_ => (w.heap.size ≤ k_)) v251 x10_3) := ⟨by (with_reducible repeat (first | apply rA | apply rN | apply rD)); exact rM (Kd.R_far (p := ⟨gb254, 2, none⟩) (Kd.R_far (p := ⟨gb254, 1, none⟩) (Kd.R_far (p := ⟨gb254, 0, none⟩) (Kd.R_types HO_10.out BK254.out (by decide)) (fun _ hk => hk.2) (.int .i64 ((rd_T67 l0_3 x44_3).f0))) (fun _ hk => hk.2) (.int .i64 ((rd_T67 l0_3 x44_3).f1))) (fun _ hk => hk.2) (.int .i64 ((rd_T67 l0_3 x44_3).f2))) (fun _ hk => hk.1)⟩
                      have n2_ : Aside0 ((((w40.setCell ⟨gb254, 0, none⟩ (.int .i64 ((rd_T67 l0_3 x44_3).f0))).setCell ⟨gb254, 1, none⟩ (.int .i64 ((rd_T67 l0_3 x44_3).f1))).setCell ⟨gb254, 2, none⟩ (.int .i64 ((rd_T67 l0_3 x44_3).f2))).heap[gb240]? = some (.cells #[.int .i64 a0_0, .int .i64 a0_1, .slice A0_2 l0_2.length c0_2, .slice (some ad253) l0_3.length c0_3] 30 (0, 0))) := ⟨by (with_reducible repeat (first | refine kN ?_ _ | refine kD ?_ | refine kA ?_ _)); refine kF ?_ NB240_254.out _; (with_reducible repeat (first | refine kN ?_ _ | refine kD ?_ | refine kA ?_ _)); refine kF ?_ NB240_254.out _; (with_reducible repeat (first | refine kN ?_ _ | refine kD ?_ | refine kA ?_ _)); refine kF ?_ NB240_254.out _; (with_reducible repeat (first | refine kN ?_ _ | refine kD ?_ | refine kA ?_ _)); exact BK240.out⟩
                      have n3_ : Aside0 ((((w40.setCell ⟨gb254, 0, none⟩ (.int .i64 ((rd_T67 l0_3 x44_3).f0))).setCell ⟨gb254, 1, none⟩ (.int .i64 ((rd_T67 l0_3 x44_3).f1))).setCell ⟨gb254, 2, none⟩ (.int .i64 ((rd_T67 l0_3 x44_3).f2))).heap[gb254]? = some (.cells #[.int .i64 ((rd_T67 l0_3 x44_3).f0), .int .i64 ((rd_T67 l0_3 x44_3).f1), .int .i64 ((rd_T67 l0_3 x44_3).f2)] 67 (0, 0))) := ⟨by (with_reducible repeat (first | refine kN ?_ _ | refine kD ?_ | refine kA ?_ _)); refine blk_put (cs := #[.int .i64 ((rd_T67 l0_3 x44_3).f0), .int .i64 ((rd_T67 l0_3 x44_3).f1), .int .i64 0]) ?_ 2 _ rfl; (with_reducible repeat (first | refine kN ?_ _ | refine kD ?_ | refine kA ?_ _)); refine blk_put (cs := #[.int .i64 ((rd_T67 l0_3 x44_3).f0), .int .i64 0, .int .i64 0]) ?_ 1 _ rfl; (with_reducible repeat (first | refine kN ?_ _ | refine kD ?_ | refine kA ?_ _)); refine blk_put (cs := #[.int .i64 0, .int .i64 0, .int .i64 0]) ?_ 0 _ rfl; (with_reducible repeat (first | refine kN ?_ _ | refine kD ?_ | refine kA ?_ _)); exact BK254.out⟩
                      have n4_ : Aside0 (Below w.heap.size w (((w40.setCell ⟨gb254, 0, none⟩ (.int .i64 ((rd_T67 l0_3 x44_3).f0))).setCell ⟨gb254, 1, none⟩ (.int .i64 ((rd_T67 l0_3 x44_3).f1))).setCell ⟨gb254, 2, none⟩ (.int .i64 ((rd_T67 l0_3 x44_3).f2)))) := ⟨by repeat (first | (with_reducible first | exact HB.out | apply bA | apply bN | apply bD | refine bS ?_ GE240.out | refine bS ?_ GE254.out) | exact HB.out)⟩
                      have n9_ : Aside0 (Below wo.heap.size wo (((w40.setCell ⟨gb254, 0, none⟩ (.int .i64 ((rd_T67 l0_3 x44_3).f0))).setCell ⟨gb254, 1, none⟩ (.int .i64 ((rd_T67 l0_3 x44_3).f1))).setCell ⟨gb254, 2, none⟩ (.int .i64 ((rd_T67 l0_3 x44_3).f2)))) := ⟨by repeat (first | (with_reducible first | exact HB2.out | apply bA | apply bN | apply bD | refine bS ?_ GE2.out) | exact HB2.out)⟩
                      (try clear HO_8)
                      (try clear HO_10)
                      (try clear BK240)
                      (try clear BK254)
                      (try clear HB)
                      (try clear HB2)
                      generalize (((w40.setCell ⟨gb254, 0, none⟩ (.int .i64 ((rd_T67 l0_3 x44_3).f0))).setCell ⟨gb254, 1, none⟩ (.int .i64 ((rd_T67 l0_3 x44_3).f1))).setCell ⟨gb254, 2, none⟩ (.int .i64 ((rd_T67 l0_3 x44_3).f2))) = w43 at n9_ n0_ n1_ n2_ n3_ n4_ ⊢
                      have HO_8 := n0_
                      have HO_10 := n1_
                      have BK240 := n2_
                      have BK254 := n3_
                      have HB := n4_
                      have HB2 := n9_
                      clear n9_
                      clear n0_ n1_ n2_ n3_ n4_
                      have n0_ := Aside0.mk (Kd.N_drew HO_8.out)
                      have n1_ := Aside0.mk (rD HO_10.out)
                      have n2_ := Aside0.mk (kD BK240.out)
                      have n3_ := Aside0.mk (kD BK254.out)
                      have n4_ := Aside0.mk (bD HB.out)
                      have n9_ := Aside0.mk (bD HB2.out)
                      clear HO_8
                      clear HO_10
                      clear BK240
                      clear BK254
                      clear HB
                      clear HB2
                      have HO_8 := n0_
                      have HO_10 := n1_
                      have BK240 := n2_
                      have BK254 := n3_
                      have HB := n4_
                      have HB2 := n9_
                      clear n9_
                      clear n0_ n1_ n2_ n3_ n4_
                      obtain ⟨Ao45, co45, eo45⟩ := Kd.R_slice HO_10.out
                      (first | subst eo45 | (injection eo45 with f1_ f2_ f3_; have f4_ := f1_.symm; have f5_ := f3_.symm; clear f1_ f2_ f3_; subst f4_; subst f5_))
                      have p255 : 0 ≤ (((rd_T67 l0_3 x44_3).f0) : Int) := of_decide_eq_true (by first | (with_reducible assumption) | assumption)
                      have q255 : ((rd_T67 l0_3 x44_3).f0) < (x10_3.length : Int) := of_decide_eq_true (by first | (with_reducible assumption) | assumption)
                      obtain ⟨ad255, e255, hx255_0⟩ := Kd.at_int (Kd.R_reads' HO_10.out).2.2 ((rd_T67 l0_3 x44_3).f0) p255 q255
                      cases e255
                      replace p255 := eq_true p255
                      replace q255 := eq_true q255
                      have p256 : 0 ≤ (((rd_T67 l0_3 x44_3).f2) : Int) := of_decide_eq_true (by first | (with_reducible assumption) | assumption)
                      have q256 : ((rd_T67 l0_3 x44_3).f2) < ((rd_L3 x8_2 (ji22)).length : Int) := of_decide_eq_true (by first | (with_reducible assumption) | assumption)
                      obtain ⟨ad256, e256, hx256_0⟩ := Kd.at_int HRz.out ((rd_T67 l0_3 x44_3).f2) p256 q256
                      have hw256_0 := hx256_0
                      cases e256
                      (try (replace hx256_0 := (HB.out.cell (World.block_lt_of_cell? w _ hx256_0)).trans hx256_0))
                      replace p256 := eq_true p256
                      replace q256 := eq_true q256
                      have p39 : 0 ≤ (((rd_T67 l0_3 x44_3).f0) : Int) := of_decide_eq_true (by first | (with_reducible assumption) | assumption)
                      have q39 : (((rd_T67 l0_3 x44_3).f0) : Int) < ((x10_3.length : Int) : Int) := of_decide_eq_true (by first | (with_reducible assumption) | assumption)
                      obtain ⟨go39, co39, eo39, gb39, gl39, cl39, HG39⟩ := Kd.R_form HO_10.out (by omega)
                      (first | cases eo39 | (injection eo39 with ea_ en_ ec_; (first | subst ea_ | (injection ea_ with ea_; subst ea_)); subst ec_; clear en_))
                      have GB39 := Aside0.mk gb39
                      have GG39 := Aside0.mk HG39
                      clear gb39 gl39 HG39
                      (first | simp only [add_plain] at hx255_0 | skip)
                      obtain ⟨hx39_0, hf39_0⟩ := Kd.R_celln 0 HO_10.out (((rd_T67 l0_3 x44_3).f0) : Int) p39 q39
                      replace p39 := eq_true p39
                      replace q39 := eq_true q39
                      have HP46 := Kd.R_putn HO_10.out (((rd_T67 l0_3 x44_3).f0) : Int) (wrap64 ((rd x10_3 ((rd_T67 l0_3 x44_3).f0)) + (rd (rd_L3 x8_2 (ji22)) ((rd_T67 l0_3 x44_3).f2))))
                      rw [← Ny257.out] at HP46
                      have HQ46 := Aside0.mk HP46
                      clear HP46
                      refine start_ (n := 13) (S := fun w' => w'.cell? ⟨gb254, 0, none⟩ = some (.int .i64 ((rd_T67 l0_3 x44_3).f0)) ∧ w'.cell? ⟨gb254, 1, none⟩ = some (.int .i64 ((rd_T67 l0_3 x44_3).f1)) ∧ w'.cell? ⟨gb254, 2, none⟩ = some (.int .i64 ((rd_T67 l0_3 x44_3).f2)) ∧ w'.cell? ⟨go39, (((rd_T67 l0_3 x44_3).f0)).toNat, none⟩ = some (.int .i64 (rd x10_3 ((rd_T67 l0_3 x44_3).f0))) ∧ w'.cell? (ad256.add (((rd_T67 l0_3 x44_3).f2)).toNat) = some (.int .i64 (rd (rd_L3 x8_2 (ji22)) ((rd_T67 l0_3 x44_3).f2)))) (ds := [12]) #[F,F,F,F,F,F,F,F,F,F,F,F,F] (by kernel_rfl) rfl rfl ⟨(kC BK254.out 0).trans rfl, (kC BK254.out 1).trans rfl, (kC BK254.out 2).trans rfl, hx255_0, ((HB2.out.cell (World.block_lt_of_cell? _ _ hw256_0)).trans hw256_0)⟩ (fun hHeld => ?_); refine with_tabW impl_Grammar_counts.tab15 impl_Grammar_counts.bits15 (fun HT_ HW_ => ?_)
                      generalize w43.drew = w44 at HO_8 HO_10 BK240 BK254 HB HB2 GG39 HQ46 hf39_0 hx255_0 hx256_0 hx39_0 hHeld ⊢
                      refine pure_ (i := 0) (N := some 48) (v := ?_) (a' := ?_) #[T,F,F,F,F,F,F,F,F,F,F,F,F] rfl rfl (any_of HT_.out (by kernel_rfl)) (fun _ _ _ h => h) (Or.inl ⟨by rfl, ?_⟩) ?_ ?_; rotate_left; (·intro w'; go_simp; with_reducible rfl); rotate_left; (·simp only [Act.put, sI, sZ, sS, iW, jW]; rfl)
                      refine pure_ (i := 1) (N := some 49) (v := ?_) (a' := ?_) #[T,T,F,F,F,F,F,F,F,F,F,F,F] rfl rfl (any_of HT_.out (by kernel_rfl)) (fun _ _ _ h => h) (Or.inl ⟨by rfl, ?_⟩) ?_ ?_; rotate_left; (·intro w'; go_simp; with_reducible rfl); rotate_left; (·simp only [Act.put, sI, sZ, sS, iW, jW]; rfl)
                      refine pure_ (i := 5) (N := some 53) (v := ?_) (a' := ?_) #[T,T,F,F,F,T,F,F,F,F,F,F,F] rfl rfl (any_of HT_.out (by kernel_rfl)) (fun _ _ _ h => h) (Or.inl ⟨by rfl, ?_⟩) ?_ ?_; rotate_left; (·intro w'; go_simp; with_reducible rfl); rotate_left; (·simp only [Act.put, sI, sZ, sS, iW, jW]; rfl)
                      refine pure_ (i := 6) (N := some 54) (v := ?_) (a' := ?_) #[T,T,F,F,F,T,T,F,F,F,F,F,F] rfl rfl (any_of HT_.out (by kernel_rfl)) (fun _ _ _ h => h) (Or.inl ⟨by rfl, ?_⟩) ?_ ?_; rotate_left; (·intro w'; go_simp; with_reducible rfl); rotate_left; (·simp only [Act.put, sI, sZ, sS, iW, jW]; rfl)
                      refine take_ (i := 2) (N := some 50) (v := ?_) (a' := ?_) #[T,T,T,F,F,T,T,F,F,F,F,F,F] rfl rfl (tW HT_.out HW_.out (by kernel_rfl)) (fun _ _ _ h => h) (Or.inl ⟨by rfl, ?_⟩) hHeld ?_ ?_; rotate_left; (·rintro w' ⟨s0, s1, s2, s3, s4⟩; go_simp; with_reducible rfl); rotate_left; (·simp only [Act.put, sI, sZ, sS, iW, jW]; rfl)
                      refine pure_ (i := 3) (N := some 51) (v := ?_) (a' := ?_) #[T,T,T,T,F,T,T,F,F,F,F,F,F] rfl rfl (any_of HT_.out (by kernel_rfl)) (fun _ _ _ h => h) (Or.inl ⟨by rfl, ?_⟩) ?_ ?_; rotate_left; (·intro w'; go_simp; with_reducible rfl); rotate_left; (·simp only [Act.put, sI, sZ, sS, iW, jW]; rfl)
                      refine take_ (i := 4) (N := some 52) (v := ?_) (a' := ?_) #[T,T,T,T,T,T,T,F,F,F,F,F,F] rfl rfl (tW HT_.out HW_.out (by kernel_rfl)) (fun _ _ _ h => h) (Or.inl ⟨by rfl, ?_⟩) hHeld ?_ ?_; rotate_left; (·rintro w' ⟨s0, s1, s2, s3, s4⟩; go_simp; with_reducible rfl); rotate_left; (·simp only [Act.put, sI, sZ, sS, iW, jW]; rfl)
                      refine take_ (i := 7) (N := some 55) (v := ?_) (a' := ?_) #[T,T,T,T,T,T,T,T,F,F,F,F,F] rfl rfl (tW HT_.out HW_.out (by kernel_rfl)) (fun _ _ _ h => h) (Or.inl ⟨by rfl, ?_⟩) hHeld ?_ ?_; rotate_left; (·rintro w' ⟨s0, s1, s2, s3, s4⟩; go_simp; with_reducible rfl); rotate_left; (·simp only [Act.put, sI, sZ, sS, iW, jW]; rfl)
                      refine pure_ (i := 8) (N := some 56) (v := ?_) (a' := ?_) #[T,T,T,T,T,T,T,T,T,F,F,F,F] rfl rfl (any_of HT_.out (by kernel_rfl)) (fun _ _ _ h => h) (Or.inl ⟨by rfl, ?_⟩) ?_ ?_; rotate_left; (·intro w'; go_simp; with_reducible rfl); rotate_left; (·simp only [Act.put, sI, sZ, sS, iW, jW]; rfl)
                      refine take_ (i := 9) (N := some 57) (v := ?_) (a' := ?_) #[T,T,T,T,T,T,T,T,T,T,F,F,F] rfl rfl (tW HT_.out HW_.out (by kernel_rfl)) (fun _ _ _ h => h) (Or.inl ⟨by rfl, ?_⟩) hHeld ?_ ?_; rotate_left; (·rintro w' ⟨s0, s1, s2, s3, s4⟩; go_simp; with_reducible rfl); rotate_left; (·simp only [Act.put, sI, sZ, sS, iW, jW]; rfl)
                      refine pure_ (i := 10) (N := some 58) (v := ?_) (a' := ?_) #[T,T,T,T,T,T,T,T,T,T,T,F,F] rfl rfl (any_of HT_.out (by kernel_rfl)) (fun _ _ _ h => h) (Or.inl ⟨by rfl, ?_⟩) ?_ ?_; rotate_left; (·intro w'; go_simp; with_reducible rfl); rotate_left; (·simp only [Act.put, sI, sZ, sS, iW, jW]; rfl)
                      refine pure_ (i := 11) (N := some 59) (v := ?_) (a' := ?_) #[T,T,T,T,T,T,T,T,T,T,T,T,F] rfl rfl (any_of HT_.out (by kernel_rfl)) (fun _ _ _ h => h) (Or.inl ⟨by rfl, ?_⟩) ?_ ?_; rotate_left; (·intro w'; go_simp; with_reducible rfl); rotate_left; (·simp only [Act.put, sI, sZ, sS, iW, jW]; rfl)
                      refine last_ (i := 12) (N := none) #[T,T,T,T,T,T,T,T,T,T,T,T,T] rfl rfl (oO HT_.out (by kernel_rfl)) (by decide) (fun K hK => ?_)
                      refine skip_ (w1 := ?_) (by rfl) rfl ?_ ?_
                      rotate_left
                      ·go_simp
                       rfl
                      refine hK.out _ _ ?_
                      clear hK K
                      refine done_ (done_of HT_.out (by kernel_rfl)) ?_
                      try go_wp2
                      go_roundg k3
                      case measure => have := HK1.out; have := HK2.out; have := HK3.out; omega
                      case rel => exact ⟨(y257), (wrap64 (x44_3 + 1)), (by first | rfl | (simp; done) | (simp [*]; done)), H', ⟨by have := HK1.out; have := HK2.out; have := HK3.out; omega⟩, ⟨by (with_reducible repeat (first | apply Kd.N_alloc | apply Kd.N_drewN | apply Kd.N_drew)); exact Kd.N_mono (Kd.N_far (p := ⟨go39, (((rd_T67 l0_3 x44_3).f0) : Int).toNat, none⟩) (Kd.N_mono HO_8.out (fun k_ hk => (⟨hk, fun e_ => hk.2.1 (by rw [e_]; rfl)⟩ : _ ∧ k_ ≠ go39))) (fun _ hk => hk.2) (.int .i64 (wrap64 ((rd x10_3 ((rd_T67 l0_3 x44_3).f0)) + (rd (rd_L3 x8_2 (ji22)) ((rd_T67 l0_3 x44_3).f2)))))) (fun _ hk => ⟨hk.1.1, ⟨hk.1.2.1, hk.1.2.2.1⟩⟩)⟩, ⟨by (with_reducible repeat (first | apply rA | apply rN | apply rD)); exact HQ46.out⟩, ⟨by (with_reducible repeat (first | refine kN ?_ _ | refine kD ?_ | refine kA ?_ _)); refine kF ?_ (by have h_ := Kd.R_ne HO_10.out BK240.out (by decide); intro e_; exact h_ (by rw [e_]; rfl)) _; (with_reducible repeat (first | refine kN ?_ _ | refine kD ?_ | refine kA ?_ _)); exact BK240.out⟩, ⟨by repeat (first | (with_reducible first | exact HB.out | apply bA | apply bN | apply bD | refine bS ?_ GB39.out | refine bS ?_ GE240.out | refine bS ?_ GE254.out) | exact HB.out)⟩, ⟨by repeat (first | (with_reducible first | exact HB2.out | apply bA | apply bN | apply bD | refine bS ?_ (HGz.out go39 rfl) | refine bS ?_ GE2.out) | exact HB2.out)⟩⟩
                     ·rw [if_neg c38] at H
                      exact absurd H (by simp)
                    ·rw [if_neg c37] at H
                     exact absurd H (by simp)
                   ·rw [if_neg c36] at H
                    exact absurd H (by simp)
                  ·rw [if_neg c35] at H
                   exact absurd H (by simp)
                 ·rw [if_neg c34] at H
                  exact absurd H (by simp)
                ·rw [if_neg c33] at H
                 exact absurd H (by simp)
               ·rw [if_neg c32] at H
                have c32b0 : decide (x44_3 < (l0_3.length : Int)) = false := decide_eq_false c32
                clear c32
                by_cases c47 : x8_2.length < 5864062014805
                ·rw [if_pos c47] at H
                 have LMc47 := Aside0.mk c47
                 clear c47
                 obtain ⟨y258, hy258⟩ : ∃ y_ : List (List Int), y_ = (x8_2 ++ [x10_3]) := ⟨_, rfl⟩
                 replace H : (impl_Grammar_counts.l1 k3 y258 a1 (wrap64 (x30_2 + 1)) a0_0 a0_1 l0_2 l0_3) = some r := by first | (rw [hy258]; with_reducible exact H) | (have H2_ := (Option.bind_some _ _).symm.trans H; rw [hy258]; with_reducible exact H2_) | (have H2_ := (Option.bind_some _ _).symm.trans H; with_reducible exact H2_) | with_reducible exact H | (rw [hy258]; exact H) | exact H
                 have Ny258 := Aside0.mk hy258
                 clear hy258
                 have H' := Aside0.mk H
                 clear H
                 obtain ⟨Ao49, co49, eo49⟩ := Kd.R_slice HO_10.out
                 subst eo49
                 go_wp2_with (first | ((with_reducible refine gate_builtin (b := .append) (xs := #[.tmp 61, .tmp 63]) rfl ?_); at_builtin; refine Kd.N_append (Kd.slice 2 (Kd.int .i64)) (w0 := w) w.heap.size rfl (.tmp 61) (.tmp 63) 53 22 (.slice none 0 0) 24 rfl Try.underlying53 info22 rfl (by decide) (by omega) (.slice (some ad249) x8_2.length co27) x8_2 x10_3 [.slice Ao49 x10_3.length co49] (fun k_ => (w.heap.size ≤ k_) ∧ k_ ≠ gb240) (fun k_ => ((fun k_ => (w.heap.size ≤ k_) ∧ k_ ≠ gb240)) k_ ∧ some k_ ≠ (.slice (some ad249) x8_2.length co27 : Value).ownBlock) rfl rfl ?aP (fun _ hk => hk) ?aF ?aO ?aB ?aS ?aL ?_; (case aP => exact (Kd.FK_slice_mk (Kd.R_reads' (rM (ok' := (fun k_ => ((fun k_ => (w.heap.size ≤ k_) ∧ k_ ≠ gb240)) k_ ∧ some k_ ≠ (.slice (some ad249) x8_2.length co27 : Value).ownBlock)) (Kd.R_types (Kd.R_apart' (HO_10.out) (Kd.N_typed HO_8.out) (by decide)) BK240.out (by decide)) (fun k_ hk => ⟨⟨hk.1.1, hk.2⟩, hk.1.2⟩))).2.1 (Kd.R_F (rM (ok' := (fun k_ => ((fun k_ => (w.heap.size ≤ k_) ∧ k_ ≠ gb240)) k_ ∧ some k_ ≠ (.slice (some ad249) x8_2.length co27 : Value).ownBlock)) (Kd.R_types (Kd.R_apart' (HO_10.out) (Kd.N_typed HO_8.out) (by decide)) BK240.out (by decide)) (fun k_ hk => ⟨⟨hk.1.1, hk.2⟩, hk.1.2⟩))))); (case aB => exact (by repeat (first | (with_reducible first | exact HB.out | apply bA | apply bN | apply bD | refine bS ?_ GE240.out) | exact HB.out))); (case aF => exact (fun k_ hk => ⟨(Nat.le_trans (bZ (by repeat (first | (with_reducible first | exact HB.out | apply bA | apply bN | apply bD | refine bS ?_ GE240.out) | exact HB.out))) hk), Kd.freshB (g := gb240) (o := .cells #[.int .i64 a0_0, .int .i64 a0_1, .slice A0_2 l0_2.length c0_2, .slice A0_3 l0_3.length c0_3] 30 (0, 0)) (by (with_reducible repeat (first | refine kN ?_ _ | refine kD ?_ | refine kA ?_ _)); exact BK240.out) k_ hk⟩)); (case aO => exact (by (with_reducible repeat (first | apply Kd.N_alloc | apply Kd.N_drewN | apply Kd.N_drew)); exact Kd.N_mono HO_8.out (fun _ hk => ⟨hk.1, hk.2.2⟩))); (case aS => exact (bZ (by repeat (first | (with_reducible first | exact HB.out | apply bA | apply bN | apply bD | refine bS ?_ GE240.out) | exact HB.out)))); (case aL => have := LMc47.out; omega); intro v259 w48 ho hb hg hat; rw [← Ny258.out] at ho; have n0_ := Aside0.mk (blk_grown (g := gb240) (o := .cells #[.int .i64 a0_0, .int .i64 a0_1, .slice A0_2 l0_2.length c0_2, .slice A0_3 l0_3.length c0_3] 30 (0, 0)) (by (with_reducible repeat (first | refine kN ?_ _ | refine kD ?_ | refine kA ?_ _)); exact BK240.out) hg (Kd.N_ne HO_8.out BK240.out (by decide))); have n1_ := Aside0.mk (hb); have n2_ := Aside0.mk (ho); clear BK240; clear HB; clear HO_8; clear HO_10; have BK240 := n0_; have HB := n1_; have HO260 := n2_; clear n0_ n1_ n2_; clear ho hb hg hat))
                 go_roundg k3
                 case measure => have := HK1.out; have := HK2.out; have := HK3.out; omega
                 case rel => exact ⟨(y258), (wrap64 (x30_2 + 1)), (by first | rfl | (simp; done) | (simp [*]; done)), H', ⟨by have := HK1.out; have := HK2.out; have := HK3.out; omega⟩, ⟨by (with_reducible repeat (first | apply Kd.N_alloc | apply Kd.N_drewN | apply Kd.N_drew)); exact HO260.out⟩, ⟨by (with_reducible repeat (first | refine kN ?_ _ | refine kD ?_ | refine kA ?_ _)); exact BK240.out⟩, ⟨by repeat (first | (with_reducible first | exact HB.out | apply bA | apply bN | apply bD | refine bS ?_ GE240.out) | exact HB.out)⟩⟩
                ·rw [if_neg c47] at H
                 exact absurd H (by simp)
            ·rw [if_neg c26] at H
             exact absurd H (by simp)
           ·rw [if_neg c25] at H
            exact absurd H (by simp)
          ·rw [if_neg c24] at H
           exact absurd H (by simp)
         ·rw [if_neg c23] at H
          exact absurd H (by simp)
        ·rw [if_neg c21] at H
         have c21b0 : decide (x30_2 < a1) = false := decide_eq_false c21
         clear c21
         obtain rfl := Option.some.inj H
         go_wp2
         go_ret
         exact ⟨_, by first | rfl | (simp [errW_none, errW_some] <;> rfl) | (simp [*, errW_none, errW_some] <;> rfl), by (with_reducible repeat (first | apply Kd.N_alloc | apply Kd.N_drewN | apply Kd.N_drew)); exact Kd.N_mono HO_8.out (fun _ hk => hk.1), by repeat (first | (with_reducible first | exact HB.out | apply bA | apply bN | apply bD | refine bS ?_ GE240.out) | exact HB.out)⟩
  ·rw [if_neg c4] at H
   exact absurd H (by simp)
 ·rw [if_neg c3] at H
  exact absurd H (by simp)

end Go.Proofs.Ytijbhcalknfijaa.M5
-- shrunk
-- tight
