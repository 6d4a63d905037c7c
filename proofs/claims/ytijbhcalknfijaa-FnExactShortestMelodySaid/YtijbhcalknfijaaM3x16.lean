/- What functions of the given program compute, as plain Lean functions, and that the code comes to just that; by a program of this session over the kit's print. No condition. -/
import Derived.Test.YtijbhcalknfijaaM3x0
import Derived.Test.YtijbhcalknfijaaM3x15
namespace Go.Proofs.Ytijbhcalknfijaa.M3
open Go.RowKit Go.Proofs.YtijbhcalknfijaaW.PrintWords Go.Proofs.YtijbhcalknfijaaW.PrintLast
open Go.Proofs.YtijbhcalknfijaaW.PrintWords renaming below_alloc → bA, pw_below_drewN → bN, below_drew1 → bD, below_set → bS, blk_drewN → kN, blk_drew → kD, blk_alloc → kA, blk_below → kB, below_size → bZ, below_step → bP, blk_far → kF, blk_lt → kL, gate_callee → gC, box_event → bE, blk_cell → kC
open Go.Proofs.YtijbhcalknfijaaW.PrintWords.Kd renaming R_alloc → rA, R_drewN → rN, R_drew → rD, C_alloc → cA, C_drewN → cN, C_drew → cD, C_below → cB, R_lower → rL, R_below → rB, R_mono → rM
set_option linter.unusedVariables false
set_option linter.unusedSimpArgs false

/-! ### impl_Grammar_distances: function 73 -/
mutual
def impl_Grammar_distances.l0 : Nat → List Int → Int → Int → Int → Int → List Int → List (S67) → Option (List Int)
 | 0, _, _, _, _, _, _, _ => none
 | k + 1, x3, x13, x14, x243000, x243001, x243002, x243003 => if x14 < x13 then (if 0 ≤ x14 then (if x14 < (x3.length : Int) then ((some (x3.set (x14 : Int).toNat (-1) : List Int)).bind fun y246 => ((impl_Grammar_isFinal.f k x243000 x243001 x243002 x243003 x14).bind fun t247 => (if t247 = true then (impl_Grammar_distances.l0 k (y246.set (x14 : Int).toNat 0) x13 (wrap64 (x14 + 1)) x243000 x243001 x243002 x243003) else (impl_Grammar_distances.l0 k y246 x13 (wrap64 (x14 + 1)) x243000 x243001 x243002 x243003)))) else (none)) else (none)) else (impl_Grammar_distances.l1 k x3 true x243000 x243001 x243002 x243003)
def impl_Grammar_distances.l1 : Nat → List Int → Bool → Int → Int → List Int → List (S67) → Option (List Int)
 | 0, _, _, _, _, _, _ => none
 | k + 1, x3, x5, x243000, x243001, x243002, x243003 => if x5 = true then (impl_Grammar_distances.l2 k x3 false x243003 (x243003.length : Int) 0 x243000 x243001 x243002 x243003) else (some x3)
def impl_Grammar_distances.l2 : Nat → List Int → Bool → List (S67) → Int → Int → Int → Int → List Int → List (S67) → Option (List Int)
 | 0, _, _, _, _, _, _, _, _, _ => none
 | k + 1, x3, x5, x29, x30, x31, x243000, x243001, x243002, x243003 => if x31 < x30 then (if 0 ≤ x31 then (if x31 < (x29.length : Int) then (if 0 ≤ ((rd_T67 x29 x31).f2) then (if ((rd_T67 x29 x31).f2) < (x3.length : Int) then (if (wrap64 ((rd x3 ((rd_T67 x29 x31).f2)) + 1)) > 0 then (if 0 ≤ ((rd_T67 x29 x31).f0) then (if ((rd_T67 x29 x31).f0) < (x3.length : Int) then (if (rd x3 ((rd_T67 x29 x31).f0)) < 0 then (impl_Grammar_distances.l2 k (x3.set (((rd_T67 x29 x31).f0) : Int).toNat (wrap64 ((rd x3 ((rd_T67 x29 x31).f2)) + 1))) true x29 x30 (wrap64 (x31 + 1)) x243000 x243001 x243002 x243003) else (if (wrap64 ((rd x3 ((rd_T67 x29 x31).f2)) + 1)) < (rd x3 ((rd_T67 x29 x31).f0)) then (impl_Grammar_distances.l2 k (x3.set (((rd_T67 x29 x31).f0) : Int).toNat (wrap64 ((rd x3 ((rd_T67 x29 x31).f2)) + 1))) true x29 x30 (wrap64 (x31 + 1)) x243000 x243001 x243002 x243003) else (impl_Grammar_distances.l2 k x3 x5 x29 x30 (wrap64 (x31 + 1)) x243000 x243001 x243002 x243003))) else (none)) else (none)) else (impl_Grammar_distances.l2 k x3 x5 x29 x30 (wrap64 (x31 + 1)) x243000 x243001 x243002 x243003)) else (none)) else (none)) else (none)) else (none)) else (impl_Grammar_distances.l1 k x3 x5 x243000 x243001 x243002 x243003)
end
def impl_Grammar_distances.f (k : Nat) (a0_0 : Int) (a0_1 : Int) (l0_2 : List Int) (l0_3 : List (S67)) : Option (List Int) := if 0 ≤ a0_0 then (if (a0_0 : Int).toNat ≤ 35184372088832 then ((some (List.replicate (a0_0 : Int).toNat 0 : List Int)).bind fun y243 => (impl_Grammar_distances.l0 k y243 (y243.length : Int) 0 a0_0 a0_1 l0_2 l0_3)) else (none)) else (none)
theorem impl_Grammar_distances.mono_l : ∀ k, (∀ y0 y1 y2 y3 y4 y5 y6, LeO (impl_Grammar_distances.l0 k y0 y1 y2 y3 y4 y5 y6) (impl_Grammar_distances.l0 (k + 1) y0 y1 y2 y3 y4 y5 y6)) ∧ (∀ y0 y1 y2 y3 y4 y5, LeO (impl_Grammar_distances.l1 k y0 y1 y2 y3 y4 y5) (impl_Grammar_distances.l1 (k + 1) y0 y1 y2 y3 y4 y5)) ∧ (∀ y0 y1 y2 y3 y4 y5 y6 y7 y8, LeO (impl_Grammar_distances.l2 k y0 y1 y2 y3 y4 y5 y6 y7 y8) (impl_Grammar_distances.l2 (k + 1) y0 y1 y2 y3 y4 y5 y6 y7 y8))
 | 0 => ⟨fun _ _ _ _ _ _ _ r h => by simp [impl_Grammar_distances.l0] at h, fun _ _ _ _ _ _ r h => by simp [impl_Grammar_distances.l1] at h, fun _ _ _ _ _ _ _ _ _ r h => by simp [impl_Grammar_distances.l2] at h⟩
 | k + 1 => by
  obtain ⟨ih0, ih1, ih2⟩ := impl_Grammar_distances.mono_l k
  refine ⟨?_, ?_, ?_⟩
  ·intro y0 y1 y2 y3 y4 y5 y6
   unfold impl_Grammar_distances.l0
   repeat' first
   | (with_reducible exact ih0 _ _ _ _ _ _ _)
   | (with_reducible exact ih1 _ _ _ _ _ _)
   | (with_reducible exact ih2 _ _ _ _ _ _ _ _ _)
   | (with_reducible exact impl_Grammar_isFinal.mono _ _ _ _ _ _)
   | (with_reducible exact LeO.refl _)
   | (with_reducible exact LeO.none _)
   | (with_reducible refine LeO.ite ?_ ?_)
   | (with_reducible refine LeO.bind ?_ (fun _ => ?_))
   | exact ih0 _ _ _ _ _ _ _
   | exact ih1 _ _ _ _ _ _
   | exact ih2 _ _ _ _ _ _ _ _ _
   | exact impl_Grammar_isFinal.mono _ _ _ _ _ _
   | exact LeO.none _
   | refine LeO.ite ?_ ?_
   | refine LeO.bind ?_ (fun _ => ?_)
  ·intro y0 y1 y2 y3 y4 y5
   unfold impl_Grammar_distances.l1
   repeat' first
   | (with_reducible exact ih0 _ _ _ _ _ _ _)
   | (with_reducible exact ih1 _ _ _ _ _ _)
   | (with_reducible exact ih2 _ _ _ _ _ _ _ _ _)
   | (with_reducible exact impl_Grammar_isFinal.mono _ _ _ _ _ _)
   | (with_reducible exact LeO.refl _)
   | (with_reducible exact LeO.none _)
   | (with_reducible refine LeO.ite ?_ ?_)
   | (with_reducible refine LeO.bind ?_ (fun _ => ?_))
   | exact ih0 _ _ _ _ _ _ _
   | exact ih1 _ _ _ _ _ _
   | exact ih2 _ _ _ _ _ _ _ _ _
   | exact impl_Grammar_isFinal.mono _ _ _ _ _ _
   | exact LeO.none _
   | refine LeO.ite ?_ ?_
   | refine LeO.bind ?_ (fun _ => ?_)
  ·intro y0 y1 y2 y3 y4 y5 y6 y7 y8
   unfold impl_Grammar_distances.l2
   repeat' first
   | (with_reducible exact ih0 _ _ _ _ _ _ _)
   | (with_reducible exact ih1 _ _ _ _ _ _)
   | (with_reducible exact ih2 _ _ _ _ _ _ _ _ _)
   | (with_reducible exact impl_Grammar_isFinal.mono _ _ _ _ _ _)
   | (with_reducible exact LeO.refl _)
   | (with_reducible exact LeO.none _)
   | (with_reducible refine LeO.ite ?_ ?_)
   | (with_reducible refine LeO.bind ?_ (fun _ => ?_))
   | exact ih0 _ _ _ _ _ _ _
   | exact ih1 _ _ _ _ _ _
   | exact ih2 _ _ _ _ _ _ _ _ _
   | exact impl_Grammar_isFinal.mono _ _ _ _ _ _
   | exact LeO.none _
   | refine LeO.ite ?_ ?_
   | refine LeO.bind ?_ (fun _ => ?_)
theorem impl_Grammar_distances.mono : ∀ a0 a1 a2 a3 k, LeO (impl_Grammar_distances.f k a0 a1 a2 a3) (impl_Grammar_distances.f (k + 1) a0 a1 a2 a3) := by
 intro a0 a1 a2 a3 k
 obtain ⟨ih0, ih1, ih2⟩ := impl_Grammar_distances.mono_l k
 unfold impl_Grammar_distances.f
 repeat' first
   | (with_reducible exact ih0 _ _ _ _ _ _ _)
   | (with_reducible exact ih1 _ _ _ _ _ _)
   | (with_reducible exact ih2 _ _ _ _ _ _ _ _ _)
   | (with_reducible exact impl_Grammar_isFinal.mono _ _ _ _ _ _)
   | (with_reducible exact LeO.refl _)
   | (with_reducible exact LeO.none _)
   | (with_reducible refine LeO.ite ?_ ?_)
   | (with_reducible refine LeO.bind ?_ (fun _ => ?_))
   | exact ih0 _ _ _ _ _ _ _
   | exact ih1 _ _ _ _ _ _
   | exact ih2 _ _ _ _ _ _ _ _ _
   | exact impl_Grammar_isFinal.mono _ _ _ _ _ _
   | exact LeO.none _
   | refine LeO.ite ?_ ?_
   | refine LeO.bind ?_ (fun _ => ?_)
set_option maxHeartbeats 8000000 in
set_option maxRecDepth 100000 in
theorem impl_Grammar_distances.calls (k : Nat) (a0_0 : Int) (a0_1 : Int) (A0_2 : Option Addr) (c0_2 : Nat) (l0_2 : List Int) (A0_3 : Option Addr) (c0_3 : Nat) (l0_3 : List (S67)) (r : List Int) (w : World) (hr0_2 : Kd.C (Kd.int .i64) w A0_2 l0_2.length l0_2) (hc0_2 : l0_2.length ≤ c0_2) (hr0_3 : Kd.C k67 w A0_3 l0_3.length l0_3) (hc0_3 : l0_3.length ≤ c0_3) (h : impl_Grammar_distances.f k a0_0 a0_1 l0_2 l0_3 = some r) :
  Calls Try.prog 73 #[.agg #[.int .i64 a0_0, .int .i64 a0_1, .slice A0_2 l0_2.length c0_2, .slice A0_3 l0_3.length c0_3]] w fun e w' => ∃ v0_ : Value, e = .returned (v0_) ∧ Kd.R (Kd.int .i64) 2 w' w.heap.size (fun _ => True) v0_ r ∧ Below w.heap.size w w' := by
 have hu30 := Try.underlying30
 have hu67 := Try.underlying67
 have HR0_2 := Aside0.mk hr0_2
 have HC0_2 := Aside0.mk hc0_2
 clear hr0_2 hc0_2
 have HR0_3 := Aside0.mk hr0_3
 have HC0_3 := Aside0.mk hc0_3
 clear hr0_3 hc0_3
 have HB := Aside0.mk (Below.refl w.heap.size w)
 have H : (if 0 ≤ a0_0 then (if (a0_0 : Int).toNat ≤ 35184372088832 then ((some (List.replicate (a0_0 : Int).toNat 0 : List Int)).bind fun y243 => (impl_Grammar_distances.l0 k y243 (y243.length : Int) 0 a0_0 a0_1 l0_2 l0_3)) else (none)) else (none)) = some r := h
 clear h
 by_cases c2 : 0 ≤ a0_0
 ·rw [if_pos c2] at H
  have c2b0 := eq_true c2
  have c2b1 : decide (0 ≤ a0_0) = true := decide_eq_true c2
  clear c2
  by_cases c3 : (a0_0 : Int).toNat ≤ 35184372088832
  ·rw [if_pos c3] at H
   have c3b0 := eq_true c3
   have c3b1 : decide ((a0_0 : Int).toNat ≤ 35184372088832) = true := decide_eq_true c3
   clear c3
   obtain ⟨y243, hy243⟩ : ∃ y_ : List Int, y_ = (List.replicate (a0_0 : Int).toNat 0) := ⟨_, rfl⟩
   replace H : (impl_Grammar_distances.l0 k y243 (y243.length : Int) 0 a0_0 a0_1 l0_2 l0_3) = some r := by first | (rw [hy243]; with_reducible exact H) | (have H2_ := (Option.bind_some _ _).symm.trans H; rw [hy243]; with_reducible exact H2_) | (have H2_ := (Option.bind_some _ _).symm.trans H; with_reducible exact H2_) | with_reducible exact H | (rw [hy243]; exact H) | exact H
   have Ny243 := Aside0.mk hy243
   clear hy243
   have H' := Aside0.mk H
   clear H
   go_enter Try.func73, Try.ntmps73
   go_wp2_with (first | ((with_reducible refine gate_dst (N := 1) rfl ?_); refine bE ?hg (N := 1) ?hd (cs := #[.int .i64 a0_0, .int .i64 a0_1, .slice A0_2 l0_2.length c0_2, .slice A0_3 l0_3.length c0_3]) (t := 30) ?hr ?_; (case hd => rfl); (case hg => rfl); (case hr => first | (go_simp; done) | (go_simp; rfl)); intro gb242 hg w4 hbox hb; have n0_ := Aside0.mk (bP (by repeat (first | (with_reducible first | exact HB.out | apply bA | apply bN | apply bD) | exact HB.out)) hb); have n1_ := Aside0.mk (hbox); have n2_ := Aside0.mk ((by rw [hg]; exact (bZ (by repeat (first | (with_reducible first | exact HB.out | apply bA | apply bN | apply bD) | exact HB.out))) : w.heap.size ≤ gb242)); have n3_ := Aside0.mk ((by rw [hg]; exact (bZ (by repeat (first | (with_reducible first | exact HB.out | apply bA | apply bN | apply bD) | exact HB.out))) : w.heap.size ≤ gb242)); clear HB; have HB := n0_; have BK242 := n1_; have GW242 := n2_; have GE242 := n3_; clear n0_ n1_ n2_ n3_; clear hb hbox hg; have hcz5_0 : w4.cell? ⟨gb242, 0, none⟩ = some (.int .i64 a0_0) := (kC BK242.out 0).trans rfl; have hcz5_1 : w4.cell? ⟨gb242, 1, none⟩ = some (.int .i64 a0_1) := (kC BK242.out 1).trans rfl; have hcz5_2 : w4.cell? ⟨gb242, 2, none⟩ = some (.slice A0_2 l0_2.length c0_2) := (kC BK242.out 2).trans rfl; have hcz5_3 : w4.cell? ⟨gb242, 3, none⟩ = some (.slice A0_3 l0_3.length c0_3) := (kC BK242.out 3).trans rfl; have hfz5_0 := blk_frozen BK242.out 0; have hfz5_1 := blk_frozen BK242.out 1; have hfz5_2 := blk_frozen BK242.out 2; have hfz5_3 := blk_frozen BK242.out 3) | ((with_reducible refine gate_dst (N := 11) rfl ?_); refine Kd.R_make (Kd.int .i64) _ 2 rfl (N := 11) rfl 22 _ _ rfl a0_0 rfl rfl Try.underlying22 (.int .i64 0) 8 info2 rfl (by decide) (by omega) 0 (ok := fun _ => True) (okp := fun _ => True) rfl (fun _ hk => hk) trivial (of_decide_eq_true (by first | (with_reducible assumption) | assumption)) (Nat.le_trans (Nat.mul_le_mul_right _ (of_decide_eq_true (by first | (with_reducible assumption) | assumption) : a0_0.toNat ≤ 35184372088832)) (by omega)) (Below.refl _ _) (Nat.le_refl _) ?_; intro v244 w6 ho7 hb hg_ hnew_; clear hg_ hnew_; (first | rw [← Ny243.out] at ho7 | (simp only [Int.reduceToNat] at ho7; rw [← Ny243.out] at ho7)); have n0_ := Aside0.mk (rL ho7 (bZ (by repeat (first | (with_reducible first | exact HB.out | apply bA | apply bN | apply bD | refine bS ?_ GE242.out) | exact HB.out)))); have n1_ := Aside0.mk (kB (g := gb242) (o := .cells #[.int .i64 a0_0, .int .i64 a0_1, .slice A0_2 l0_2.length c0_2, .slice A0_3 l0_3.length c0_3] 30 (0, 0)) (by (with_reducible repeat (first | refine kN ?_ _ | refine kD ?_ | refine kA ?_ _)); exact BK242.out) hb); have n2_ := Aside0.mk (bP (by repeat (first | (with_reducible first | exact HB.out | apply bA | apply bN | apply bD | refine bS ?_ GE242.out) | exact HB.out)) hb); clear BK242; clear HB; have HO245 := n0_; have BK242 := n1_; have HB := n2_; clear n0_ n1_ n2_; clear hb ho7; obtain ⟨Ao8, co8, eo8⟩ := Kd.R_slice HO245.out; subst eo8))
   go_loopg [14] k (fun kq v14 w' => ∃ (x3_1 : List Int) (x14_1 : Int), v14 = .int .i64 x14_1 ∧ Aside0 (impl_Grammar_distances.l0 kq x3_1 (y243.length : Int) x14_1 a0_0 a0_1 l0_2 l0_3 = some r) ∧ Aside0 (kq ≤ k) ∧ Aside0 (Kd.R (Kd.int .i64) 2 w' w.heap.size (fun _ => True) (.slice Ao8 y243.length co8) x3_1) ∧ Aside0 (w'.heap[gb242]? = some (.cells #[.int .i64 a0_0, .int .i64 a0_1, (.slice A0_2 l0_2.length c0_2), (.slice A0_3 l0_3.length c0_3)] 30 (0, 0))) ∧ Aside0 (Below w.heap.size w w'))
   case atStart => exact ⟨(y243), (0), (by first | rfl | (simp; done) | (simp [*]; done)), H', ⟨Nat.le_refl _⟩, ⟨by (with_reducible repeat (first | apply rA | apply rN | apply rD)); exact HO245.out⟩, ⟨by (with_reducible repeat (first | refine kN ?_ _ | refine kD ?_ | refine kA ?_ _)); exact BK242.out⟩, ⟨by repeat (first | (with_reducible first | exact HB.out | apply bA | apply bN | apply bD | refine bS ?_ GE242.out) | exact HB.out)⟩⟩
   case round =>
    clear H'
    try clear c2
    try clear c2b0
    try clear c2b1
    try clear p2
    try clear c3
    try clear c3b0
    try clear c3b1
    try clear c7
    try clear hcz5_0
    try clear hcz5_1
    try clear hcz5_2
    try clear hcz5_3
    try clear hfz5_0
    try clear hfz5_1
    try clear hfz5_2
    try clear hfz5_3
    obtain ⟨x3_1, x14_1, rfl, HA, HK1, HO_3, BK242, HB⟩ := hrel
    have hl3_1 := (Kd.R_reads' HO_3.out).1
    rw [hl3_1] at HO_3
    (try simp only [hl3_1])
    (try simp only [hl3_1] at BK242)
    cases gk with
    | zero => exact absurd HA.out (by simp [impl_Grammar_distances.l0])
    | succ k1 =>
     have H := HA.out
     clear HA
     simp only [impl_Grammar_distances.l0] at H
     by_cases c9 : x14_1 < (y243.length : Int)
     ·rw [if_pos c9] at H
      have c9b0 : decide (x14_1 < (y243.length : Int)) = true := decide_eq_true c9
      clear c9
      by_cases c10 : 0 ≤ x14_1
      ·rw [if_pos c10] at H
       have c10b0 : decide (0 ≤ x14_1) = true := decide_eq_true c10
       clear c10
       by_cases c11 : x14_1 < (x3_1.length : Int)
       ·rw [if_pos c11] at H
        have c11b0 : decide (x14_1 < (x3_1.length : Int)) = true := decide_eq_true c11
        clear c11
        obtain ⟨y246, hy246⟩ : ∃ y_ : List Int, y_ = (x3_1.set (x14_1 : Int).toNat (-1)) := ⟨_, rfl⟩
        replace H : ((impl_Grammar_isFinal.f k1 a0_0 a0_1 l0_2 l0_3 x14_1).bind fun t247 => (if t247 = true then (impl_Grammar_distances.l0 k1 (y246.set (x14_1 : Int).toNat 0) (y243.length : Int) (wrap64 (x14_1 + 1)) a0_0 a0_1 l0_2 l0_3) else (impl_Grammar_distances.l0 k1 y246 (y243.length : Int) (wrap64 (x14_1 + 1)) a0_0 a0_1 l0_2 l0_3))) = some r := by first | (rw [hy246]; with_reducible exact H) | (have H2_ := (Option.bind_some _ _).symm.trans H; rw [hy246]; with_reducible exact H2_) | (have H2_ := (Option.bind_some _ _).symm.trans H; with_reducible exact H2_) | with_reducible exact H | (rw [hy246]; exact H) | exact H
        have Ny246 := Aside0.mk hy246
        clear hy246
        replace H := Option.bind_eq_some_iff.mp H
        obtain ⟨t247, A130, H⟩ := H
        replace H : (if t247 = true then (impl_Grammar_distances.l0 k1 (y246.set (x14_1 : Int).toNat 0) (y243.length : Int) (wrap64 (x14_1 + 1)) a0_0 a0_1 l0_2 l0_3) else (impl_Grammar_distances.l0 k1 y246 (y243.length : Int) (wrap64 (x14_1 + 1)) a0_0 a0_1 l0_2 l0_3)) = some r := H
        have A13 := Aside0.mk A130
        clear A130
        by_cases c14 : t247 = true
        ·subst c14
         have H1 : (impl_Grammar_distances.l0 k1 (y246.set (x14_1 : Int).toNat 0) (y243.length : Int) (wrap64 (x14_1 + 1)) a0_0 a0_1 l0_2 l0_3) = some r := by rw [if_pos rfl] at H; exact H
         clear H
         have H := H1
         clear H1
         obtain ⟨y248, hy248⟩ : ∃ y_ : List Int, y_ = (y246.set (x14_1 : Int).toNat 0) := ⟨_, rfl⟩
         replace H : (impl_Grammar_distances.l0 k1 y248 (y243.length : Int) (wrap64 (x14_1 + 1)) a0_0 a0_1 l0_2 l0_3) = some r := by first | (rw [hy248]; with_reducible exact H) | (have H2_ := (Option.bind_some _ _).symm.trans H; rw [hy248]; with_reducible exact H2_) | (have H2_ := (Option.bind_some _ _).symm.trans H; with_reducible exact H2_) | with_reducible exact H | (rw [hy248]; exact H) | exact H
         have Ny248 := Aside0.mk hy248
         clear hy248
         have H' := Aside0.mk H
         clear H
         have p12 : 0 ≤ (x14_1 : Int) := of_decide_eq_true (by first | (with_reducible assumption) | assumption)
         have q12 : (x14_1 : Int) < ((x3_1.length : Int) : Int) := of_decide_eq_true (by first | (with_reducible assumption) | assumption)
         obtain ⟨go12, co12, eo12, gb12, gl12, cl12, HG12⟩ := Kd.R_form HO_3.out (by omega)
         (first | cases eo12 | (injection eo12 with ea_ en_ ec_; (first | subst ea_ | (injection ea_ with ea_; subst ea_)); subst ec_; clear en_))
         have GB12 := Aside0.mk gb12
         have GG12 := Aside0.mk HG12
         clear gb12 gl12 HG12
         obtain ⟨hx12_0, hf12_0⟩ := Kd.R_celln 0 HO_3.out (x14_1 : Int) p12 q12
         replace p12 := eq_true p12
         replace q12 := eq_true q12
         have HP16 := Kd.R_putg HO_3.out (x14_1 : Int) (-1)
         go_wp2_with (first | ((with_reducible refine gate_store (t := 2) (p := 19) rfl ?_); refine store_event (t := 2) (p := 19) (v := ?vo_w17) (w1 := (wr.setCell ⟨go12, (x14_1 : Int).toNat, none⟩ (.int .i64 (-1)))) ?hg ?ho ?hn ?hr ?_; (case ho => rfl); (case hg => rfl); (case hn => rfl); (case hr => first | (go_simp; done) | (go_simp; rfl)); intro w17 hw; have hg : wr.grownBy w17 (some go12) := (by rw [hw]; exact HP16.2); have hp_ : Kd.R (Kd.int .i64) 2 w17 w.heap.size (fun _ => True) (.slice (some ⟨go12, 0, none⟩) x3_1.length co8) y246 := (by rw [hw, Ny246.out]; exact HP16.1); clear HP16; have n0_ := Aside0.mk (hp_); have n1_ := Aside0.mk (blk_grown (g := gb242) (o := .cells #[.int .i64 a0_0, .int .i64 a0_1, .slice A0_2 l0_2.length c0_2, .slice A0_3 l0_3.length c0_3] 30 (0, 0)) (by (with_reducible repeat (first | refine kN ?_ _ | refine kD ?_ | refine kA ?_ _)); exact BK242.out) hg (Kd.R_ne HO_3.out BK242.out (by decide))); have n2_ := Aside0.mk ((by rw [hw]; exact bS (HB.out) GB12.out : Below w.heap.size w w17)); clear HO_3; clear BK242; clear HB; have HO_3 := n0_; have BK242 := n1_; have HB := n2_; clear n0_ n1_ n2_; clear hg hw hp_; have hcz18_0 : w17.cell? ⟨gb242, 0, none⟩ = some (.int .i64 a0_0) := (kC BK242.out 0).trans rfl; have hcz18_1 : w17.cell? ⟨gb242, 1, none⟩ = some (.int .i64 a0_1) := (kC BK242.out 1).trans rfl; have hcz18_2 : w17.cell? ⟨gb242, 2, none⟩ = some (.slice A0_2 l0_2.length c0_2) := (kC BK242.out 2).trans rfl; have hcz18_3 : w17.cell? ⟨gb242, 3, none⟩ = some (.slice A0_3 l0_3.length c0_3) := (kC BK242.out 3).trans rfl; have hfz18_0 := blk_frozen BK242.out 0; have hfz18_1 := blk_frozen BK242.out 1; have hfz18_2 := blk_frozen BK242.out 2; have hfz18_3 := blk_frozen BK242.out 3) | ((with_reducible refine gC (f := 71) rfl ?_); refine goesL_ (some 22) rfl rfl Try.func71 (by kernel_rfl) rfl #[.agg #[.int .i64 a0_0, .int .i64 a0_1, .slice A0_2 l0_2.length c0_2, .slice A0_3 l0_3.length c0_3], .int .i64 x14_1] rfl (by (try simp only [List.map_toArray, List.map_cons, List.map_nil]); first | done | rfl | (simp only [List.length_drop, List.length_take]; rfl)) ?_; (with_reducible refine (impl_Grammar_isFinal.calls k1 a0_0 a0_1 _ _ l0_2 _ _ l0_3 x14_1 true _ ?side1 ?side2 ?side3 ?side4 A13.out).mono ?_); (case side1 => repeat (first | exact (cB HR0_2.out HB.out) | (with_reducible refine cA ?_ _) | (with_reducible refine cN ?_ _) | (with_reducible refine cD ?_))); (case side2 => exact HC0_2.out); (case side3 => repeat (first | exact (cB HR0_3.out HB.out) | (with_reducible refine cA ?_ _) | (with_reducible refine cN ?_ _) | (with_reducible refine cD ?_))); (case side4 => exact HC0_3.out); rintro e w19 ⟨rfl, hb⟩; refine ⟨_, rfl, ?_⟩; have n0_ := Aside0.mk (rB (by (with_reducible repeat (first | apply rA | apply rN | apply rD)); exact HO_3.out) hb); have n1_ := Aside0.mk (kB (g := gb242) (o := .cells #[.int .i64 a0_0, .int .i64 a0_1, .slice A0_2 l0_2.length c0_2, .slice A0_3 l0_3.length c0_3] 30 (0, 0)) (by (with_reducible repeat (first | refine kN ?_ _ | refine kD ?_ | refine kA ?_ _)); exact BK242.out) hb); have n2_ := Aside0.mk (bP (by repeat (first | (with_reducible first | exact HB.out | apply bA | apply bN | apply bD | refine bS ?_ GE242.out) | exact HB.out)) hb); clear HO_3; clear BK242; clear HB; have HO_3 := n0_; have BK242 := n1_; have HB := n2_; clear n0_ n1_ n2_; (try clear hb); (try clear hb2); (try clear hk); (try clear hi); have p15 : 0 ≤ (x14_1 : Int) := of_decide_eq_true (by first | (with_reducible assumption) | assumption); have q15 : (x14_1 : Int) < ((x3_1.length : Int) : Int) := of_decide_eq_true (by first | (with_reducible assumption) | assumption); obtain ⟨hx15_0, hf15_0⟩ := Kd.R_celln 0 HO_3.out (x14_1 : Int) p15 q15; replace p15 := eq_true p15; replace q15 := eq_true q15; obtain ⟨hy20_, hz20_⟩ := Kd.R_celln 0 HO_3.out (x14_1 : Int) (of_decide_eq_true (by first | (with_reducible assumption) | assumption)) (of_decide_eq_true (by first | (with_reducible assumption) | assumption)); have HP20 := Kd.R_putg HO_3.out (x14_1 : Int) 0) | ((with_reducible refine gate_store (t := 2) (p := 25) rfl ?_); refine store_event (t := 2) (p := 25) (v := ?vo_w21) (w1 := (w19.setCell ⟨go12, (x14_1 : Int).toNat, none⟩ (.int .i64 0))) ?hg ?ho ?hn ?hr ?_; (case ho => rfl); (case hg => rfl); (case hn => rfl); (case hr => first | (go_simp; done) | (go_simp; rfl)); intro w21 hw; have hg : w19.grownBy w21 (some go12) := (by rw [hw]; exact HP20.2); have hp_ : Kd.R (Kd.int .i64) 2 w21 w.heap.size (fun _ => True) (.slice (some ⟨go12, 0, none⟩) x3_1.length co8) y248 := (by rw [hw, Ny248.out]; exact HP20.1); clear HP20; have n0_ := Aside0.mk (hp_); have n1_ := Aside0.mk (blk_grown (g := gb242) (o := .cells #[.int .i64 a0_0, .int .i64 a0_1, .slice A0_2 l0_2.length c0_2, .slice A0_3 l0_3.length c0_3] 30 (0, 0)) (by (with_reducible repeat (first | refine kN ?_ _ | refine kD ?_ | refine kA ?_ _)); exact BK242.out) hg (Kd.R_ne HO_3.out BK242.out (by decide))); have n2_ := Aside0.mk ((by rw [hw]; exact bS (HB.out) GB12.out : Below w.heap.size w w21)); clear HO_3; clear BK242; clear HB; have HO_3 := n0_; have BK242 := n1_; have HB := n2_; clear n0_ n1_ n2_; clear hg hw hp_))
         (try simp only [← hl3_1])
         go_roundg k1
         case measure => have := HK1.out; omega
         case rel => exact ⟨(y248), (wrap64 (x14_1 + 1)), (by first | rfl | (simp; done) | (simp [*]; done)), H', ⟨by have := HK1.out; omega⟩, ⟨by (try simp only [hl3_1]); (with_reducible repeat (first | apply rA | apply rN | apply rD)); exact HO_3.out⟩, ⟨by (try simp only [hl3_1]); (with_reducible repeat (first | refine kN ?_ _ | refine kD ?_ | refine kA ?_ _)); exact BK242.out⟩, ⟨by repeat (first | (with_reducible first | exact HB.out | apply bA | apply bN | apply bD | refine bS ?_ GE242.out) | exact HB.out)⟩⟩
        ·replace c14 := Bool.eq_false_iff.mpr c14
         subst c14
         have H1 : (impl_Grammar_distances.l0 k1 y246 (y243.length : Int) (wrap64 (x14_1 + 1)) a0_0 a0_1 l0_2 l0_3) = some r := by rw [if_neg (show ¬ (false = true) by decide)] at H; exact H
         clear H
         have H := H1
         clear H1
         have H' := Aside0.mk H
         clear H
         have p12 : 0 ≤ (x14_1 : Int) := of_decide_eq_true (by first | (with_reducible assumption) | assumption)
         have q12 : (x14_1 : Int) < ((x3_1.length : Int) : Int) := of_decide_eq_true (by first | (with_reducible assumption) | assumption)
         obtain ⟨go12, co12, eo12, gb12, gl12, cl12, HG12⟩ := Kd.R_form HO_3.out (by omega)
         (first | cases eo12 | (injection eo12 with ea_ en_ ec_; (first | subst ea_ | (injection ea_ with ea_; subst ea_)); subst ec_; clear en_))
         have GB12 := Aside0.mk gb12
         have GG12 := Aside0.mk HG12
         clear gb12 gl12 HG12
         obtain ⟨hx12_0, hf12_0⟩ := Kd.R_celln 0 HO_3.out (x14_1 : Int) p12 q12
         replace p12 := eq_true p12
         replace q12 := eq_true q12
         have HP22 := Kd.R_putg HO_3.out (x14_1 : Int) (-1)
         go_wp2_with (first | ((with_reducible refine gate_store (t := 2) (p := 19) rfl ?_); refine store_event (t := 2) (p := 19) (v := ?vo_w23) (w1 := (wr.setCell ⟨go12, (x14_1 : Int).toNat, none⟩ (.int .i64 (-1)))) ?hg ?ho ?hn ?hr ?_; (case ho => rfl); (case hg => rfl); (case hn => rfl); (case hr => first | (go_simp; done) | (go_simp; rfl)); intro w23 hw; have hg : wr.grownBy w23 (some go12) := (by rw [hw]; exact HP22.2); have hp_ : Kd.R (Kd.int .i64) 2 w23 w.heap.size (fun _ => True) (.slice (some ⟨go12, 0, none⟩) x3_1.length co8) y246 := (by rw [hw, Ny246.out]; exact HP22.1); clear HP22; have n0_ := Aside0.mk (hp_); have n1_ := Aside0.mk (blk_grown (g := gb242) (o := .cells #[.int .i64 a0_0, .int .i64 a0_1, .slice A0_2 l0_2.length c0_2, .slice A0_3 l0_3.length c0_3] 30 (0, 0)) (by (with_reducible repeat (first | refine kN ?_ _ | refine kD ?_ | refine kA ?_ _)); exact BK242.out) hg (Kd.R_ne HO_3.out BK242.out (by decide))); have n2_ := Aside0.mk ((by rw [hw]; exact bS (HB.out) GB12.out : Below w.heap.size w w23)); clear HO_3; clear BK242; clear HB; have HO_3 := n0_; have BK242 := n1_; have HB := n2_; clear n0_ n1_ n2_; clear hg hw hp_; have hcz24_0 : w23.cell? ⟨gb242, 0, none⟩ = some (.int .i64 a0_0) := (kC BK242.out 0).trans rfl; have hcz24_1 : w23.cell? ⟨gb242, 1, none⟩ = some (.int .i64 a0_1) := (kC BK242.out 1).trans rfl; have hcz24_2 : w23.cell? ⟨gb242, 2, none⟩ = some (.slice A0_2 l0_2.length c0_2) := (kC BK242.out 2).trans rfl; have hcz24_3 : w23.cell? ⟨gb242, 3, none⟩ = some (.slice A0_3 l0_3.length c0_3) := (kC BK242.out 3).trans rfl; have hfz24_0 := blk_frozen BK242.out 0; have hfz24_1 := blk_frozen BK242.out 1; have hfz24_2 := blk_frozen BK242.out 2; have hfz24_3 := blk_frozen BK242.out 3) | ((with_reducible refine gC (f := 71) rfl ?_); refine goesL_ (some 22) rfl rfl Try.func71 (by kernel_rfl) rfl #[.agg #[.int .i64 a0_0, .int .i64 a0_1, .slice A0_2 l0_2.length c0_2, .slice A0_3 l0_3.length c0_3], .int .i64 x14_1] rfl (by (try simp only [List.map_toArray, List.map_cons, List.map_nil]); first | done | rfl | (simp only [List.length_drop, List.length_take]; rfl)) ?_; (with_reducible refine (impl_Grammar_isFinal.calls k1 a0_0 a0_1 _ _ l0_2 _ _ l0_3 x14_1 false _ ?side1 ?side2 ?side3 ?side4 A13.out).mono ?_); (case side1 => repeat (first | exact (cB HR0_2.out HB.out) | (with_reducible refine cA ?_ _) | (with_reducible refine cN ?_ _) | (with_reducible refine cD ?_))); (case side2 => exact HC0_2.out); (case side3 => repeat (first | exact (cB HR0_3.out HB.out) | (with_reducible refine cA ?_ _) | (with_reducible refine cN ?_ _) | (with_reducible refine cD ?_))); (case side4 => exact HC0_3.out); rintro e w25 ⟨rfl, hb⟩; refine ⟨_, rfl, ?_⟩; have n0_ := Aside0.mk (rB (by (with_reducible repeat (first | apply rA | apply rN | apply rD)); exact HO_3.out) hb); have n1_ := Aside0.mk (kB (g := gb242) (o := .cells #[.int .i64 a0_0, .int .i64 a0_1, .slice A0_2 l0_2.length c0_2, .slice A0_3 l0_3.length c0_3] 30 (0, 0)) (by (with_reducible repeat (first | refine kN ?_ _ | refine kD ?_ | refine kA ?_ _)); exact BK242.out) hb); have n2_ := Aside0.mk (bP (by repeat (first | (with_reducible first | exact HB.out | apply bA | apply bN | apply bD | refine bS ?_ GE242.out) | exact HB.out)) hb); clear HO_3; clear BK242; clear HB; have HO_3 := n0_; have BK242 := n1_; have HB := n2_; clear n0_ n1_ n2_; (try clear hb); (try clear hb2); (try clear hk); (try clear hi)))
         (try simp only [← hl3_1])
         go_roundg k1
         case measure => have := HK1.out; omega
         case rel => exact ⟨(y246), (wrap64 (x14_1 + 1)), (by first | rfl | (simp; done) | (simp [*]; done)), H', ⟨by have := HK1.out; omega⟩, ⟨by (try simp only [hl3_1]); (with_reducible repeat (first | apply rA | apply rN | apply rD)); exact HO_3.out⟩, ⟨by (try simp only [hl3_1]); (with_reducible repeat (first | refine kN ?_ _ | refine kD ?_ | refine kA ?_ _)); exact BK242.out⟩, ⟨by repeat (first | (with_reducible first | exact HB.out | apply bA | apply bN | apply bD | refine bS ?_ GE242.out) | exact HB.out)⟩⟩
       ·rw [if_neg c11] at H
        exact absurd H (by simp)
      ·rw [if_neg c10] at H
       exact absurd H (by simp)
     ·rw [if_neg c9] at H
      have c9b0 : decide (x14_1 < (y243.length : Int)) = false := decide_eq_false c9
      (try rw [hl3_1] at c9b0)
      clear c9
      have H' := Aside0.mk H
      clear H
      go_wp2
      go_loopg [5] k1 (fun kq v5 w' => ∃ (x3_2 : List Int) (x5_2 : Bool), v5 = .bool x5_2 ∧ Aside0 (impl_Grammar_distances.l1 kq x3_2 x5_2 a0_0 a0_1 l0_2 l0_3 = some r) ∧ Aside0 (kq ≤ k1) ∧ Aside0 (Kd.R (Kd.int .i64) 2 w' w.heap.size (fun _ => True) (.slice Ao8 x3_1.length co8) x3_2) ∧ Aside0 (w'.heap[gb242]? = some (.cells #[.int .i64 a0_0, .int .i64 a0_1, (.slice A0_2 l0_2.length c0_2), (.slice A0_3 l0_3.length c0_3)] 30 (0, 0))) ∧ Aside0 (Below w.heap.size w w'))
      case atStart => exact ⟨(x3_1), (true), (by first | rfl | (simp; done) | (simp [*]; done)), H', ⟨Nat.le_refl _⟩, ⟨by (try simp only [hl3_1]); (with_reducible repeat (first | apply rA | apply rN | apply rD)); exact HO_3.out⟩, ⟨by (try simp only [hl3_1]); (with_reducible repeat (first | refine kN ?_ _ | refine kD ?_ | refine kA ?_ _)); exact BK242.out⟩, ⟨by repeat (first | (with_reducible first | exact HB.out | apply bA | apply bN | apply bD | refine bS ?_ GE242.out) | exact HB.out)⟩⟩
      case round =>
       clear H'
       try clear c1
       try clear p1
       try clear q1
       try clear hx1
       try clear hf1
       try clear c2
       try clear c2b0
       try clear c2b1
       try clear p2
       try clear c3
       try clear c3b0
       try clear c3b1
       try clear p6
       try clear c7
       try clear c9
       try clear c9b0
       try clear c10
       try clear c10b0
       try clear c11
       try clear c11b0
       try clear p12
       try clear q12
       try clear hx12
       try clear hf12
       try clear c14
       try clear p15
       try clear q15
       try clear hx15
       try clear hf15
       try clear hcz18_0
       try clear hcz18_1
       try clear hcz18_2
       try clear hcz18_3
       try clear hcz24_0
       try clear hcz24_1
       try clear hcz24_2
       try clear hcz24_3
       try clear hcz5_0
       try clear hcz5_1
       try clear hcz5_2
       try clear hcz5_3
       try clear hfz18_0
       try clear hfz18_1
       try clear hfz18_2
       try clear hfz18_3
       try clear hfz24_0
       try clear hfz24_1
       try clear hfz24_2
       try clear hfz24_3
       try clear hfz5_0
       try clear hfz5_1
       try clear hfz5_2
       try clear hfz5_3
       try clear hx12_0
       try clear hx15_0
       try clear p12
       try clear p15
       try clear p2
       try clear q12
       try clear q15
       obtain ⟨x3_2, x5_2, rfl, HA, HK2, HO_3, BK242, HB⟩ := hrel
       have hl3_2 := (Kd.R_reads' HO_3.out).1
       rw [hl3_2] at HO_3
       (try simp only [hl3_2])
       (try simp only [hl3_2] at BK242)
       cases gk with
       | zero => exact absurd HA.out (by simp [impl_Grammar_distances.l1])
       | succ k2 =>
        have H := HA.out
        clear HA
        simp only [impl_Grammar_distances.l1] at H
        by_cases c26 : x5_2 = true
        ·subst c26
         have H1 : (impl_Grammar_distances.l2 k2 x3_2 false l0_3 (l0_3.length : Int) 0 a0_0 a0_1 l0_2 l0_3) = some r := by rw [if_pos rfl] at H; exact H
         clear H
         have H := H1
         clear H1
         have H' := Aside0.mk H
         clear H
         have hcz27_0 : wr.cell? ⟨gb242, 0, none⟩ = some (.int .i64 a0_0) := (kC BK242.out 0).trans rfl
         have hcz27_1 : wr.cell? ⟨gb242, 1, none⟩ = some (.int .i64 a0_1) := (kC BK242.out 1).trans rfl
         have hcz27_2 : wr.cell? ⟨gb242, 2, none⟩ = some (.slice A0_2 l0_2.length c0_2) := (kC BK242.out 2).trans rfl
         have hcz27_3 : wr.cell? ⟨gb242, 3, none⟩ = some (.slice A0_3 l0_3.length c0_3) := (kC BK242.out 3).trans rfl
         have hfz27_0 := blk_frozen BK242.out 0
         have hfz27_1 := blk_frozen BK242.out 1
         have hfz27_2 := blk_frozen BK242.out 2
         have hfz27_3 := blk_frozen BK242.out 3
         go_wp2
         go_loopg [5, 31] k2 (fun kq v5 v31 w' => ∃ (x3_3 : List Int) (x5_3 : Bool) (x31_3 : Int), v5 = .bool x5_3 ∧ v31 = .int .i64 x31_3 ∧ Aside0 (impl_Grammar_distances.l2 kq x3_3 x5_3 l0_3 (l0_3.length : Int) x31_3 a0_0 a0_1 l0_2 l0_3 = some r) ∧ Aside0 (kq ≤ k2) ∧ Aside0 (Kd.R (Kd.int .i64) 2 w' w.heap.size (fun _ => True) (.slice Ao8 x3_2.length co8) x3_3) ∧ Aside0 (w'.heap[gb242]? = some (.cells #[.int .i64 a0_0, .int .i64 a0_1, (.slice A0_2 l0_2.length c0_2), (.slice A0_3 l0_3.length c0_3)] 30 (0, 0))) ∧ Aside0 (Below w.heap.size w w'))
         case atStart => exact ⟨(x3_2), (false), (0), (by first | rfl | (simp; done) | (simp [*]; done)), (by first | rfl | (simp; done) | (simp [*]; done)), H', ⟨Nat.le_refl _⟩, ⟨by (try simp only [hl3_1]); (try simp only [hl3_2]); (with_reducible repeat (first | apply rA | apply rN | apply rD)); exact HO_3.out⟩, ⟨by (try simp only [hl3_1]); (try simp only [hl3_2]); (with_reducible repeat (first | refine kN ?_ _ | refine kD ?_ | refine kA ?_ _)); exact BK242.out⟩, ⟨by repeat (first | (with_reducible first | exact HB.out | apply bA | apply bN | apply bD | refine bS ?_ GE242.out) | exact HB.out)⟩⟩
         case round =>
          clear H'
          try clear c1
          try clear p1
          try clear q1
          try clear hx1
          try clear hf1
          try clear c2
          try clear c2b0
          try clear c2b1
          try clear p2
          try clear c3
          try clear c3b0
          try clear c3b1
          try clear p6
          try clear c7
          try clear c9
          try clear c9b0
          try clear c10
          try clear c10b0
          try clear c11
          try clear c11b0
          try clear p12
          try clear q12
          try clear hx12
          try clear hf12
          try clear c14
          try clear p15
          try clear q15
          try clear hx15
          try clear hf15
          try clear c26
          try clear hcz18_0
          try clear hcz18_1
          try clear hcz18_2
          try clear hcz18_3
          try clear hcz24_0
          try clear hcz24_1
          try clear hcz24_2
          try clear hcz24_3
          try clear hcz27_0
          try clear hcz27_1
          try clear hcz27_2
          try clear hcz27_3
          try clear hcz5_0
          try clear hcz5_1
          try clear hcz5_2
          try clear hcz5_3
          try clear hfz18_0
          try clear hfz18_1
          try clear hfz18_2
          try clear hfz18_3
          try clear hfz24_0
          try clear hfz24_1
          try clear hfz24_2
          try clear hfz24_3
          try clear hfz27_0
          try clear hfz27_1
          try clear hfz27_2
          try clear hfz27_3
          try clear hfz5_0
          try clear hfz5_1
          try clear hfz5_2
          try clear hfz5_3
          try clear hx12_0
          try clear hx15_0
          try clear p1
          try clear p12
          try clear p15
          try clear p2
          try clear p6
          try clear q1
          try clear q12
          try clear q15
          obtain ⟨x3_3, x5_3, x31_3, rfl, rfl, HA, HK3, HO_3, BK242, HB⟩ := hrel
          have hl3_3 := (Kd.R_reads' HO_3.out).1
          rw [hl3_3] at HO_3
          (try simp only [hl3_3])
          (try simp only [hl3_3] at BK242)
          cases gk with
          | zero => exact absurd HA.out (by simp [impl_Grammar_distances.l2])
          | succ k3 =>
           have H := HA.out
           clear HA
           simp only [impl_Grammar_distances.l2] at H
           by_cases c28 : x31_3 < (l0_3.length : Int)
           ·rw [if_pos c28] at H
            have c28b0 : decide (x31_3 < (l0_3.length : Int)) = true := decide_eq_true c28
            clear c28
            by_cases c29 : 0 ≤ x31_3
            ·rw [if_pos c29] at H
             have c29b0 : decide (0 ≤ x31_3) = true := decide_eq_true c29
             clear c29
             by_cases c30 : x31_3 < (l0_3.length : Int)
             ·rw [if_pos c30] at H
              have c30b0 : decide (x31_3 < (l0_3.length : Int)) = true := decide_eq_true c30
              clear c30
              by_cases c31 : 0 ≤ ((rd_T67 l0_3 x31_3).f2)
              ·rw [if_pos c31] at H
               have c31b0 : decide (0 ≤ ((rd_T67 l0_3 x31_3).f2)) = true := decide_eq_true c31
               clear c31
               by_cases c32 : ((rd_T67 l0_3 x31_3).f2) < (x3_3.length : Int)
               ·rw [if_pos c32] at H
                have c32b0 : decide (((rd_T67 l0_3 x31_3).f2) < (x3_3.length : Int)) = true := decide_eq_true c32
                clear c32
                by_cases c33 : (wrap64 ((rd x3_3 ((rd_T67 l0_3 x31_3).f2)) + 1)) > 0
                ·rw [if_pos c33] at H
                 have c33b0 : decide (0 < (wrap64 ((rd x3_3 ((rd_T67 l0_3 x31_3).f2)) + 1))) = true := decide_eq_true c33
                 clear c33
                 by_cases c34 : 0 ≤ ((rd_T67 l0_3 x31_3).f0)
                 ·rw [if_pos c34] at H
                  have c34b0 : decide (0 ≤ ((rd_T67 l0_3 x31_3).f0)) = true := decide_eq_true c34
                  clear c34
                  by_cases c35 : ((rd_T67 l0_3 x31_3).f0) < (x3_3.length : Int)
                  ·rw [if_pos c35] at H
                   have c35b0 : decide (((rd_T67 l0_3 x31_3).f0) < (x3_3.length : Int)) = true := decide_eq_true c35
                   clear c35
                   by_cases c36 : (rd x3_3 ((rd_T67 l0_3 x31_3).f0)) < 0
                   ·rw [if_pos c36] at H
                    have c36b0 : decide ((rd x3_3 ((rd_T67 l0_3 x31_3).f0)) < 0) = true := decide_eq_true c36
                    clear c36
                    obtain ⟨y253, hy253⟩ : ∃ y_ : List Int, y_ = (x3_3.set (((rd_T67 l0_3 x31_3).f0) : Int).toNat (wrap64 ((rd x3_3 ((rd_T67 l0_3 x31_3).f2)) + 1))) := ⟨_, rfl⟩
                    replace H : (impl_Grammar_distances.l2 k3 y253 true l0_3 (l0_3.length : Int) (wrap64 (x31_3 + 1)) a0_0 a0_1 l0_2 l0_3) = some r := by first | (rw [hy253]; with_reducible exact H) | (have H2_ := (Option.bind_some _ _).symm.trans H; rw [hy253]; with_reducible exact H2_) | (have H2_ := (Option.bind_some _ _).symm.trans H; with_reducible exact H2_) | with_reducible exact H | (rw [hy253]; exact H) | exact H
                    have Ny253 := Aside0.mk hy253
                    clear hy253
                    have H' := Aside0.mk H
                    clear H
                    have p249 : 0 ≤ (x31_3 : Int) := of_decide_eq_true (by first | (with_reducible assumption) | assumption)
                    have q249 : x31_3 < (l0_3.length : Int) := of_decide_eq_true (by first | (with_reducible assumption) | assumption)
                    obtain ⟨ad249, e249, hx249_0, hx249_1, hx249_2⟩ := at_T67 HR0_3.out x31_3 p249 q249
                    cases e249
                    replace hx249_0 := (HB.out.cell (World.block_lt_of_cell? w _ hx249_0)).trans hx249_0
                    replace hx249_1 := (HB.out.cell (World.block_lt_of_cell? w _ hx249_1)).trans hx249_1
                    replace hx249_2 := (HB.out.cell (World.block_lt_of_cell? w _ hx249_2)).trans hx249_2
                    replace p249 := eq_true p249
                    replace q249 := eq_true q249
                    go_wp2_with (first | ((with_reducible refine gate_dst (N := 7) rfl ?_); refine bE ?hg (N := 7) ?hd (cs := #[.int .i64 0, .int .i64 0, .int .i64 0]) (t := 67) ?hr ?_; (case hd => rfl); (case hg => rfl); (case hr => first | (go_simp; done) | (go_simp; rfl)); intro gb250 hg w38 hbox hb; have n0_ := Aside0.mk (rB (by (with_reducible repeat (first | apply rA | apply rN | apply rD)); exact HO_3.out) hb); have n1_ := Aside0.mk (kB (g := gb242) (o := .cells #[.int .i64 a0_0, .int .i64 a0_1, .slice A0_2 l0_2.length c0_2, .slice (some ad249) l0_3.length c0_3] 30 (0, 0)) (by (with_reducible repeat (first | refine kN ?_ _ | refine kD ?_ | refine kA ?_ _)); exact BK242.out) hb); have n2_ := Aside0.mk (bP (by repeat (first | (with_reducible first | exact HB.out | apply bA | apply bN | apply bD | refine bS ?_ GE242.out) | exact HB.out)) hb); have n3_ := Aside0.mk (hbox); have n4_ := Aside0.mk ((by rw [hg]; exact (bZ (by repeat (first | (with_reducible first | exact HB.out | apply bA | apply bN | apply bD | refine bS ?_ GE242.out) | exact HB.out))) : w.heap.size ≤ gb250)); have n5_ := Aside0.mk ((by rw [hg]; exact (bZ (by repeat (first | (with_reducible first | exact HB.out | apply bA | apply bN | apply bD | refine bS ?_ GE242.out) | exact HB.out))) : w.heap.size ≤ gb250)); have n6_ := Aside0.mk ((by rw [hg]; exact Nat.ne_of_lt (kL (g := gb242) (o := .cells #[.int .i64 a0_0, .int .i64 a0_1, .slice A0_2 l0_2.length c0_2, .slice (some ad249) l0_3.length c0_3] 30 (0, 0)) (by (with_reducible repeat (first | refine kN ?_ _ | refine kD ?_ | refine kA ?_ _)); exact BK242.out)) : gb242 ≠ gb250)); have n7_ := Aside0.mk ((by rw [hg]; exact Nat.ne_of_gt (kL (g := gb242) (o := .cells #[.int .i64 a0_0, .int .i64 a0_1, .slice A0_2 l0_2.length c0_2, .slice (some ad249) l0_3.length c0_3] 30 (0, 0)) (by (with_reducible repeat (first | refine kN ?_ _ | refine kD ?_ | refine kA ?_ _)); exact BK242.out)) : gb250 ≠ gb242)); clear HO_3; clear BK242; clear HB; have HO_3 := n0_; have BK242 := n1_; have HB := n2_; have BK250 := n3_; have GW250 := n4_; have GE250 := n5_; have NB242_250 := n6_; have NB250_242 := n7_; clear n0_ n1_ n2_ n3_ n4_ n5_ n6_ n7_; clear hb hbox hg; have hnb39 := NB250_242.out; have hnc39 := NB242_250.out; have hcz40_0 : w38.cell? ⟨gb250, 0, none⟩ = some (.int .i64 0) := (kC BK250.out 0).trans rfl; have hcz40_1 : w38.cell? ⟨gb250, 1, none⟩ = some (.int .i64 0) := (kC BK250.out 1).trans rfl; have hcz40_2 : w38.cell? ⟨gb250, 2, none⟩ = some (.int .i64 0) := (kC BK250.out 2).trans rfl; have hfz40_0 := blk_frozen BK250.out 0; have hfz40_1 := blk_frozen BK250.out 1; have hfz40_2 := blk_frozen BK250.out 2) | ((with_reducible refine gate_store (t := 67) (p := 7) rfl ?_); refine store_event (t := 67) (p := 7) (v := ?vo_w41) (w1 := (((w38.setCell ⟨gb250, 0, none⟩ (.int .i64 ((rd_T67 l0_3 x31_3).f0))).setCell ⟨gb250, 1, none⟩ (.int .i64 ((rd_T67 l0_3 x31_3).f1))).setCell ⟨gb250, 2, none⟩ (.int .i64 ((rd_T67 l0_3 x31_3).f2)))) ?hg ?ho ?hn ?hr ?_; (case ho => rfl); (case hg => rfl); (case hn => rfl); (case hr => first | (go_simp; done) | (go_simp; rfl)); intro w41 hw; have n0_ : Aside0 (Kd.R (Kd.int .i64) 2 w41 w.heap.size (fun _ => True) (.slice Ao8 x3_3.length co8) x3_3) := ⟨(by rw [hw]; exact (by (with_reducible repeat (first | apply rA | apply rN | apply rD)); exact rM (Kd.R_far (p := ⟨gb250, 2, none⟩) (Kd.R_far (p := ⟨gb250, 1, none⟩) (Kd.R_far (p := ⟨gb250, 0, none⟩) (Kd.R_types HO_3.out BK250.out (by decide)) (fun _ hk => hk.2) (.int .i64 ((rd_T67 l0_3 x31_3).f0))) (fun _ hk => hk.2) (.int .i64 ((rd_T67 l0_3 x31_3).f1))) (fun _ hk => hk.2) (.int .i64 ((rd_T67 l0_3 x31_3).f2))) (fun _ hk => trivial)))⟩; have n1_ : Aside0 (w41.heap[gb242]? = some (.cells #[.int .i64 a0_0, .int .i64 a0_1, .slice A0_2 l0_2.length c0_2, .slice (some ad249) l0_3.length c0_3] 30 (0, 0))) := ⟨(by rw [hw]; exact (by (with_reducible repeat (first | refine kN ?_ _ | refine kD ?_ | refine kA ?_ _)); refine kF ?_ NB242_250.out _; (with_reducible repeat (first | refine kN ?_ _ | refine kD ?_ | refine kA ?_ _)); refine kF ?_ NB242_250.out _; (with_reducible repeat (first | refine kN ?_ _ | refine kD ?_ | refine kA ?_ _)); refine kF ?_ NB242_250.out _; (with_reducible repeat (first | refine kN ?_ _ | refine kD ?_ | refine kA ?_ _)); exact BK242.out))⟩; have n2_ : Aside0 (w41.heap[gb250]? = some (.cells #[.int .i64 ((rd_T67 l0_3 x31_3).f0), .int .i64 ((rd_T67 l0_3 x31_3).f1), .int .i64 ((rd_T67 l0_3 x31_3).f2)] 67 (0, 0))) := ⟨(by rw [hw]; exact (by (with_reducible repeat (first | refine kN ?_ _ | refine kD ?_ | refine kA ?_ _)); refine blk_put (cs := #[.int .i64 ((rd_T67 l0_3 x31_3).f0), .int .i64 ((rd_T67 l0_3 x31_3).f1), .int .i64 0]) ?_ 2 _ rfl; (with_reducible repeat (first | refine kN ?_ _ | refine kD ?_ | refine kA ?_ _)); refine blk_put (cs := #[.int .i64 ((rd_T67 l0_3 x31_3).f0), .int .i64 0, .int .i64 0]) ?_ 1 _ rfl; (with_reducible repeat (first | refine kN ?_ _ | refine kD ?_ | refine kA ?_ _)); refine blk_put (cs := #[.int .i64 0, .int .i64 0, .int .i64 0]) ?_ 0 _ rfl; (with_reducible repeat (first | refine kN ?_ _ | refine kD ?_ | refine kA ?_ _)); exact BK250.out))⟩; have n3_ : Aside0 (Below w.heap.size w w41) := ⟨(by rw [hw]; exact (by repeat (first | (with_reducible first | exact HB.out | apply bA | apply bN | apply bD | refine bS ?_ GE242.out | refine bS ?_ GE250.out) | exact HB.out)))⟩; clear hw; clear HO_3; clear BK242; clear BK250; clear HB; have HO_3 := n0_; have BK242 := n1_; have BK250 := n2_; have HB := n3_; clear n0_ n1_ n2_ n3_; have hcz42_0 : w41.cell? ⟨gb250, 0, none⟩ = some (.int .i64 ((rd_T67 l0_3 x31_3).f0)) := (kC BK250.out 0).trans rfl; have hcz42_1 : w41.cell? ⟨gb250, 1, none⟩ = some (.int .i64 ((rd_T67 l0_3 x31_3).f1)) := (kC BK250.out 1).trans rfl; have hcz42_2 : w41.cell? ⟨gb250, 2, none⟩ = some (.int .i64 ((rd_T67 l0_3 x31_3).f2)) := (kC BK250.out 2).trans rfl; have hfz42_0 := blk_frozen BK250.out 0; have hfz42_1 := blk_frozen BK250.out 1; have hfz42_2 := blk_frozen BK250.out 2; have p251 : 0 ≤ (((rd_T67 l0_3 x31_3).f2) : Int) := of_decide_eq_true (by first | (with_reducible assumption) | assumption); have q251 : ((rd_T67 l0_3 x31_3).f2) < (x3_3.length : Int) := of_decide_eq_true (by first | (with_reducible assumption) | assumption); obtain ⟨ad251, e251, hx251_0⟩ := Kd.at_int (Kd.R_reads' HO_3.out).2.2 ((rd_T67 l0_3 x31_3).f2) p251 q251; cases e251; replace p251 := eq_true p251; replace q251 := eq_true q251; have p252 : 0 ≤ (((rd_T67 l0_3 x31_3).f0) : Int) := of_decide_eq_true (by first | (with_reducible assumption) | assumption); have q252 : ((rd_T67 l0_3 x31_3).f0) < (x3_3.length : Int) := of_decide_eq_true (by first | (with_reducible assumption) | assumption); obtain ⟨ad252, e252, hx252_0⟩ := Kd.at_int (Kd.R_reads' HO_3.out).2.2 ((rd_T67 l0_3 x31_3).f0) p252 q252; obtain rfl : ad251 = ad252 := (by injection e252); replace p252 := eq_true p252; replace q252 := eq_true q252; have p37 : 0 ≤ (((rd_T67 l0_3 x31_3).f0) : Int) := of_decide_eq_true (by first | (with_reducible assumption) | assumption); have q37 : (((rd_T67 l0_3 x31_3).f0) : Int) < ((x3_3.length : Int) : Int) := of_decide_eq_true (by first | (with_reducible assumption) | assumption); obtain ⟨go37, co37, eo37, gb37, gl37, cl37, HG37⟩ := Kd.R_form HO_3.out (by omega); (first | cases eo37 | (injection eo37 with ea_ en_ ec_; (first | subst ea_ | (injection ea_ with ea_; subst ea_)); subst ec_; clear en_)); have GB37 := Aside0.mk gb37; have GG37 := Aside0.mk HG37; clear gb37 gl37 HG37; (first | simp only [add_plain] at hx251_0 | skip); (first | simp only [add_plain] at hx252_0 | skip); obtain ⟨hx37_0, hf37_0⟩ := Kd.R_celln 0 HO_3.out (((rd_T67 l0_3 x31_3).f0) : Int) p37 q37; replace p37 := eq_true p37; replace q37 := eq_true q37; obtain ⟨hy43_, hz43_⟩ := Kd.R_celln 0 HO_3.out (((rd_T67 l0_3 x31_3).f0) : Int) (of_decide_eq_true (by first | (with_reducible assumption) | assumption)) (of_decide_eq_true (by first | (with_reducible assumption) | assumption)); have HP43 := Kd.R_putg HO_3.out (((rd_T67 l0_3 x31_3).f0) : Int) (wrap64 ((rd x3_3 ((rd_T67 l0_3 x31_3).f2)) + 1))) | ((with_reducible refine gate_store (t := 2) (p := 64) rfl ?_); refine store_event (t := 2) (p := 64) (v := ?vo_w44) (w1 := (w41.setCell ⟨go37, (((rd_T67 l0_3 x31_3).f0) : Int).toNat, none⟩ (.int .i64 (wrap64 ((rd x3_3 ((rd_T67 l0_3 x31_3).f2)) + 1))))) ?hg ?ho ?hn ?hr ?_; (case ho => rfl); (case hg => rfl); (case hn => rfl); (case hr => first | (go_simp; done) | (go_simp; rfl)); intro w44 hw; have hg : w41.grownBy w44 (some go37) := (by rw [hw]; exact HP43.2); have hp_ : Kd.R (Kd.int .i64) 2 w44 w.heap.size (fun _ => True) (.slice (some ⟨go37, 0, none⟩) x3_3.length co8) y253 := (by rw [hw, Ny253.out]; exact HP43.1); clear HP43; have n0_ := Aside0.mk (hp_); have n1_ := Aside0.mk (blk_grown (g := gb242) (o := .cells #[.int .i64 a0_0, .int .i64 a0_1, .slice A0_2 l0_2.length c0_2, .slice (some ad249) l0_3.length c0_3] 30 (0, 0)) (by (with_reducible repeat (first | refine kN ?_ _ | refine kD ?_ | refine kA ?_ _)); exact BK242.out) hg (Kd.R_ne HO_3.out BK242.out (by decide))); have n2_ := Aside0.mk (blk_grown (g := gb250) (o := .cells #[.int .i64 ((rd_T67 l0_3 x31_3).f0), .int .i64 ((rd_T67 l0_3 x31_3).f1), .int .i64 ((rd_T67 l0_3 x31_3).f2)] 67 (0, 0)) (by (with_reducible repeat (first | refine kN ?_ _ | refine kD ?_ | refine kA ?_ _)); exact BK250.out) hg (Kd.R_ne HO_3.out BK250.out (by decide))); have n3_ := Aside0.mk ((by rw [hw]; exact bS (HB.out) GB37.out : Below w.heap.size w w44)); clear HO_3; clear BK242; clear BK250; clear HB; have HO_3 := n0_; have BK242 := n1_; have BK250 := n2_; have HB := n3_; clear n0_ n1_ n2_ n3_; clear hg hw hp_))
                    (try simp only [← hl3_3])
                    go_roundg k3
                    case measure => have := HK1.out; have := HK2.out; have := HK3.out; omega
                    case rel => exact ⟨(y253), (true), (wrap64 (x31_3 + 1)), (by first | rfl | (simp; done) | (simp [*]; done)), (by first | rfl | (simp; done) | (simp [*]; done)), H', ⟨by have := HK1.out; have := HK2.out; have := HK3.out; omega⟩, ⟨by (try simp only [hl3_1]); (try simp only [hl3_2]); (try simp only [hl3_3]); (with_reducible repeat (first | apply rA | apply rN | apply rD)); exact HO_3.out⟩, ⟨by (try simp only [hl3_1]); (try simp only [hl3_2]); (try simp only [hl3_3]); (with_reducible repeat (first | refine kN ?_ _ | refine kD ?_ | refine kA ?_ _)); exact BK242.out⟩, ⟨by repeat (first | (with_reducible first | exact HB.out | apply bA | apply bN | apply bD | refine bS ?_ GE242.out | refine bS ?_ GE250.out) | exact HB.out)⟩⟩
                   ·rw [if_neg c36] at H
                    have c36b0 : decide ((rd x3_3 ((rd_T67 l0_3 x31_3).f0)) < 0) = false := decide_eq_false c36
                    clear c36
                    by_cases c45 : (wrap64 ((rd x3_3 ((rd_T67 l0_3 x31_3).f2)) + 1)) < (rd x3_3 ((rd_T67 l0_3 x31_3).f0))
                    ·rw [if_pos c45] at H
                     have c45b0 : decide ((wrap64 ((rd x3_3 ((rd_T67 l0_3 x31_3).f2)) + 1)) < (rd x3_3 ((rd_T67 l0_3 x31_3).f0))) = true := decide_eq_true c45
                     clear c45
                     obtain ⟨y255, hy255⟩ : ∃ y_ : List Int, y_ = (x3_3.set (((rd_T67 l0_3 x31_3).f0) : Int).toNat (wrap64 ((rd x3_3 ((rd_T67 l0_3 x31_3).f2)) + 1))) := ⟨_, rfl⟩
                     replace H : (impl_Grammar_distances.l2 k3 y255 true l0_3 (l0_3.length : Int) (wrap64 (x31_3 + 1)) a0_0 a0_1 l0_2 l0_3) = some r := by first | (rw [hy255]; with_reducible exact H) | (have H2_ := (Option.bind_some _ _).symm.trans H; rw [hy255]; with_reducible exact H2_) | (have H2_ := (Option.bind_some _ _).symm.trans H; with_reducible exact H2_) | with_reducible exact H | (rw [hy255]; exact H) | exact H
                     have Ny255 := Aside0.mk hy255
                     clear hy255
                     have H' := Aside0.mk H
                     clear H
                     have p249 : 0 ≤ (x31_3 : Int) := of_decide_eq_true (by first | (with_reducible assumption) | assumption)
                     have q249 : x31_3 < (l0_3.length : Int) := of_decide_eq_true (by first | (with_reducible assumption) | assumption)
                     obtain ⟨ad249, e249, hx249_0, hx249_1, hx249_2⟩ := at_T67 HR0_3.out x31_3 p249 q249
                     cases e249
                     replace hx249_0 := (HB.out.cell (World.block_lt_of_cell? w _ hx249_0)).trans hx249_0
                     replace hx249_1 := (HB.out.cell (World.block_lt_of_cell? w _ hx249_1)).trans hx249_1
                     replace hx249_2 := (HB.out.cell (World.block_lt_of_cell? w _ hx249_2)).trans hx249_2
                     replace p249 := eq_true p249
                     replace q249 := eq_true q249
                     go_wp2_with (first | ((with_reducible refine gate_dst (N := 7) rfl ?_); refine bE ?hg (N := 7) ?hd (cs := #[.int .i64 0, .int .i64 0, .int .i64 0]) (t := 67) ?hr ?_; (case hd => rfl); (case hg => rfl); (case hr => first | (go_simp; done) | (go_simp; rfl)); intro gb250 hg w47 hbox hb; have n0_ := Aside0.mk (rB (by (with_reducible repeat (first | apply rA | apply rN | apply rD)); exact HO_3.out) hb); have n1_ := Aside0.mk (kB (g := gb242) (o := .cells #[.int .i64 a0_0, .int .i64 a0_1, .slice A0_2 l0_2.length c0_2, .slice (some ad249) l0_3.length c0_3] 30 (0, 0)) (by (with_reducible repeat (first | refine kN ?_ _ | refine kD ?_ | refine kA ?_ _)); exact BK242.out) hb); have n2_ := Aside0.mk (bP (by repeat (first | (with_reducible first | exact HB.out | apply bA | apply bN | apply bD | refine bS ?_ GE242.out) | exact HB.out)) hb); have n3_ := Aside0.mk (hbox); have n4_ := Aside0.mk ((by rw [hg]; exact (bZ (by repeat (first | (with_reducible first | exact HB.out | apply bA | apply bN | apply bD | refine bS ?_ GE242.out) | exact HB.out))) : w.heap.size ≤ gb250)); have n5_ := Aside0.mk ((by rw [hg]; exact (bZ (by repeat (first | (with_reducible first | exact HB.out | apply bA | apply bN | apply bD | refine bS ?_ GE242.out) | exact HB.out))) : w.heap.size ≤ gb250)); have n6_ := Aside0.mk ((by rw [hg]; exact Nat.ne_of_lt (kL (g := gb242) (o := .cells #[.int .i64 a0_0, .int .i64 a0_1, .slice A0_2 l0_2.length c0_2, .slice (some ad249) l0_3.length c0_3] 30 (0, 0)) (by (with_reducible repeat (first | refine kN ?_ _ | refine kD ?_ | refine kA ?_ _)); exact BK242.out)) : gb242 ≠ gb250)); have n7_ := Aside0.mk ((by rw [hg]; exact Nat.ne_of_gt (kL (g := gb242) (o := .cells #[.int .i64 a0_0, .int .i64 a0_1, .slice A0_2 l0_2.length c0_2, .slice (some ad249) l0_3.length c0_3] 30 (0, 0)) (by (with_reducible repeat (first | refine kN ?_ _ | refine kD ?_ | refine kA ?_ _)); exact BK242.out)) : gb250 ≠ gb242)); clear HO_3; clear BK242; clear HB; have HO_3 := n0_; have BK242 := n1_; have HB := n2_; have BK250 := n3_; have GW250 := n4_; have GE250 := n5_; have NB242_250 := n6_; have NB250_242 := n7_; clear n0_ n1_ n2_ n3_ n4_ n5_ n6_ n7_; clear hb hbox hg; have hnb48 := NB250_242.out; have hnc48 := NB242_250.out; have hcz49_0 : w47.cell? ⟨gb250, 0, none⟩ = some (.int .i64 0) := (kC BK250.out 0).trans rfl; have hcz49_1 : w47.cell? ⟨gb250, 1, none⟩ = some (.int .i64 0) := (kC BK250.out 1).trans rfl; have hcz49_2 : w47.cell? ⟨gb250, 2, none⟩ = some (.int .i64 0) := (kC BK250.out 2).trans rfl; have hfz49_0 := blk_frozen BK250.out 0; have hfz49_1 := blk_frozen BK250.out 1; have hfz49_2 := blk_frozen BK250.out 2) | ((with_reducible refine gate_store (t := 67) (p := 7) rfl ?_); refine store_event (t := 67) (p := 7) (v := ?vo_w50) (w1 := (((w47.setCell ⟨gb250, 0, none⟩ (.int .i64 ((rd_T67 l0_3 x31_3).f0))).setCell ⟨gb250, 1, none⟩ (.int .i64 ((rd_T67 l0_3 x31_3).f1))).setCell ⟨gb250, 2, none⟩ (.int .i64 ((rd_T67 l0_3 x31_3).f2)))) ?hg ?ho ?hn ?hr ?_; (case ho => rfl); (case hg => rfl); (case hn => rfl); (case hr => first | (go_simp; done) | (go_simp; rfl)); intro w50 hw; have n0_ : Aside0 (Kd.R (Kd.int .i64) 2 w50 w.heap.size (fun _ => True) (.slice Ao8 x3_3.length co8) x3_3) := ⟨(by rw [hw]; exact (by (with_reducible repeat (first | apply rA | apply rN | apply rD)); exact rM (Kd.R_far (p := ⟨gb250, 2, none⟩) (Kd.R_far (p := ⟨gb250, 1, none⟩) (Kd.R_far (p := ⟨gb250, 0, none⟩) (Kd.R_types HO_3.out BK250.out (by decide)) (fun _ hk => hk.2) (.int .i64 ((rd_T67 l0_3 x31_3).f0))) (fun _ hk => hk.2) (.int .i64 ((rd_T67 l0_3 x31_3).f1))) (fun _ hk => hk.2) (.int .i64 ((rd_T67 l0_3 x31_3).f2))) (fun _ hk => trivial)))⟩; have n1_ : Aside0 (w50.heap[gb242]? = some (.cells #[.int .i64 a0_0, .int .i64 a0_1, .slice A0_2 l0_2.length c0_2, .slice (some ad249) l0_3.length c0_3] 30 (0, 0))) := ⟨(by rw [hw]; exact (by (with_reducible repeat (first | refine kN ?_ _ | refine kD ?_ | refine kA ?_ _)); refine kF ?_ NB242_250.out _; (with_reducible repeat (first | refine kN ?_ _ | refine kD ?_ | refine kA ?_ _)); refine kF ?_ NB242_250.out _; (with_reducible repeat (first | refine kN ?_ _ | refine kD ?_ | refine kA ?_ _)); refine kF ?_ NB242_250.out _; (with_reducible repeat (first | refine kN ?_ _ | refine kD ?_ | refine kA ?_ _)); exact BK242.out))⟩; have n2_ : Aside0 (w50.heap[gb250]? = some (.cells #[.int .i64 ((rd_T67 l0_3 x31_3).f0), .int .i64 ((rd_T67 l0_3 x31_3).f1), .int .i64 ((rd_T67 l0_3 x31_3).f2)] 67 (0, 0))) := ⟨(by rw [hw]; exact (by (with_reducible repeat (first | refine kN ?_ _ | refine kD ?_ | refine kA ?_ _)); refine blk_put (cs := #[.int .i64 ((rd_T67 l0_3 x31_3).f0), .int .i64 ((rd_T67 l0_3 x31_3).f1), .int .i64 0]) ?_ 2 _ rfl; (with_reducible repeat (first | refine kN ?_ _ | refine kD ?_ | refine kA ?_ _)); refine blk_put (cs := #[.int .i64 ((rd_T67 l0_3 x31_3).f0), .int .i64 0, .int .i64 0]) ?_ 1 _ rfl; (with_reducible repeat (first | refine kN ?_ _ | refine kD ?_ | refine kA ?_ _)); refine blk_put (cs := #[.int .i64 0, .int .i64 0, .int .i64 0]) ?_ 0 _ rfl; (with_reducible repeat (first | refine kN ?_ _ | refine kD ?_ | refine kA ?_ _)); exact BK250.out))⟩; have n3_ : Aside0 (Below w.heap.size w w50) := ⟨(by rw [hw]; exact (by repeat (first | (with_reducible first | exact HB.out | apply bA | apply bN | apply bD | refine bS ?_ GE242.out | refine bS ?_ GE250.out) | exact HB.out)))⟩; clear hw; clear HO_3; clear BK242; clear BK250; clear HB; have HO_3 := n0_; have BK242 := n1_; have BK250 := n2_; have HB := n3_; clear n0_ n1_ n2_ n3_; have hcz51_0 : w50.cell? ⟨gb250, 0, none⟩ = some (.int .i64 ((rd_T67 l0_3 x31_3).f0)) := (kC BK250.out 0).trans rfl; have hcz51_1 : w50.cell? ⟨gb250, 1, none⟩ = some (.int .i64 ((rd_T67 l0_3 x31_3).f1)) := (kC BK250.out 1).trans rfl; have hcz51_2 : w50.cell? ⟨gb250, 2, none⟩ = some (.int .i64 ((rd_T67 l0_3 x31_3).f2)) := (kC BK250.out 2).trans rfl; have hfz51_0 := blk_frozen BK250.out 0; have hfz51_1 := blk_frozen BK250.out 1; have hfz51_2 := blk_frozen BK250.out 2; have p251 : 0 ≤ (((rd_T67 l0_3 x31_3).f2) : Int) := of_decide_eq_true (by first | (with_reducible assumption) | assumption); have q251 : ((rd_T67 l0_3 x31_3).f2) < (x3_3.length : Int) := of_decide_eq_true (by first | (with_reducible assumption) | assumption); obtain ⟨ad251, e251, hx251_0⟩ := Kd.at_int (Kd.R_reads' HO_3.out).2.2 ((rd_T67 l0_3 x31_3).f2) p251 q251; cases e251; replace p251 := eq_true p251; replace q251 := eq_true q251; have p252 : 0 ≤ (((rd_T67 l0_3 x31_3).f0) : Int) := of_decide_eq_true (by first | (with_reducible assumption) | assumption); have q252 : ((rd_T67 l0_3 x31_3).f0) < (x3_3.length : Int) := of_decide_eq_true (by first | (with_reducible assumption) | assumption); obtain ⟨ad252, e252, hx252_0⟩ := Kd.at_int (Kd.R_reads' HO_3.out).2.2 ((rd_T67 l0_3 x31_3).f0) p252 q252; obtain rfl : ad251 = ad252 := (by injection e252); replace p252 := eq_true p252; replace q252 := eq_true q252; have p254 : 0 ≤ (((rd_T67 l0_3 x31_3).f0) : Int) := of_decide_eq_true (by first | (with_reducible assumption) | assumption); have q254 : ((rd_T67 l0_3 x31_3).f0) < (x3_3.length : Int) := of_decide_eq_true (by first | (with_reducible assumption) | assumption); obtain ⟨ad254, e254, hx254_0⟩ := Kd.at_int (Kd.R_reads' HO_3.out).2.2 ((rd_T67 l0_3 x31_3).f0) p254 q254; obtain rfl : ad251 = ad254 := (by injection e254); replace p254 := eq_true p254; replace q254 := eq_true q254; have p46 : 0 ≤ (((rd_T67 l0_3 x31_3).f0) : Int) := of_decide_eq_true (by first | (with_reducible assumption) | assumption); have q46 : (((rd_T67 l0_3 x31_3).f0) : Int) < ((x3_3.length : Int) : Int) := of_decide_eq_true (by first | (with_reducible assumption) | assumption); obtain ⟨go46, co46, eo46, gb46, gl46, cl46, HG46⟩ := Kd.R_form HO_3.out (by omega); (first | cases eo46 | (injection eo46 with ea_ en_ ec_; (first | subst ea_ | (injection ea_ with ea_; subst ea_)); subst ec_; clear en_)); have GB46 := Aside0.mk gb46; have GG46 := Aside0.mk HG46; clear gb46 gl46 HG46; (first | simp only [add_plain] at hx251_0 | skip); (first | simp only [add_plain] at hx252_0 | skip); (first | simp only [add_plain] at hx254_0 | skip); obtain ⟨hx46_0, hf46_0⟩ := Kd.R_celln 0 HO_3.out (((rd_T67 l0_3 x31_3).f0) : Int) p46 q46; replace p46 := eq_true p46; replace q46 := eq_true q46; obtain ⟨hy52_, hz52_⟩ := Kd.R_celln 0 HO_3.out (((rd_T67 l0_3 x31_3).f0) : Int) (of_decide_eq_true (by first | (with_reducible assumption) | assumption)) (of_decide_eq_true (by first | (with_reducible assumption) | assumption)); have HP52 := Kd.R_putg HO_3.out (((rd_T67 l0_3 x31_3).f0) : Int) (wrap64 ((rd x3_3 ((rd_T67 l0_3 x31_3).f2)) + 1))) | ((with_reducible refine gate_store (t := 2) (p := 64) rfl ?_); refine store_event (t := 2) (p := 64) (v := ?vo_w53) (w1 := (w50.setCell ⟨go46, (((rd_T67 l0_3 x31_3).f0) : Int).toNat, none⟩ (.int .i64 (wrap64 ((rd x3_3 ((rd_T67 l0_3 x31_3).f2)) + 1))))) ?hg ?ho ?hn ?hr ?_; (case ho => rfl); (case hg => rfl); (case hn => rfl); (case hr => first | (go_simp; done) | (go_simp; rfl)); intro w53 hw; have hg : w50.grownBy w53 (some go46) := (by rw [hw]; exact HP52.2); have hp_ : Kd.R (Kd.int .i64) 2 w53 w.heap.size (fun _ => True) (.slice (some ⟨go46, 0, none⟩) x3_3.length co8) y255 := (by rw [hw, Ny255.out]; exact HP52.1); clear HP52; have n0_ := Aside0.mk (hp_); have n1_ := Aside0.mk (blk_grown (g := gb242) (o := .cells #[.int .i64 a0_0, .int .i64 a0_1, .slice A0_2 l0_2.length c0_2, .slice (some ad249) l0_3.length c0_3] 30 (0, 0)) (by (with_reducible repeat (first | refine kN ?_ _ | refine kD ?_ | refine kA ?_ _)); exact BK242.out) hg (Kd.R_ne HO_3.out BK242.out (by decide))); have n2_ := Aside0.mk (blk_grown (g := gb250) (o := .cells #[.int .i64 ((rd_T67 l0_3 x31_3).f0), .int .i64 ((rd_T67 l0_3 x31_3).f1), .int .i64 ((rd_T67 l0_3 x31_3).f2)] 67 (0, 0)) (by (with_reducible repeat (first | refine kN ?_ _ | refine kD ?_ | refine kA ?_ _)); exact BK250.out) hg (Kd.R_ne HO_3.out BK250.out (by decide))); have n3_ := Aside0.mk ((by rw [hw]; exact bS (HB.out) GB46.out : Below w.heap.size w w53)); clear HO_3; clear BK242; clear BK250; clear HB; have HO_3 := n0_; have BK242 := n1_; have BK250 := n2_; have HB := n3_; clear n0_ n1_ n2_ n3_; clear hg hw hp_))
                     (try simp only [← hl3_3])
                     go_roundg k3
                     case measure => have := HK1.out; have := HK2.out; have := HK3.out; omega
                     case rel => exact ⟨(y255), (true), (wrap64 (x31_3 + 1)), (by first | rfl | (simp; done) | (simp [*]; done)), (by first | rfl | (simp; done) | (simp [*]; done)), H', ⟨by have := HK1.out; have := HK2.out; have := HK3.out; omega⟩, ⟨by (try simp only [hl3_1]); (try simp only [hl3_2]); (try simp only [hl3_3]); (with_reducible repeat (first | apply rA | apply rN | apply rD)); exact HO_3.out⟩, ⟨by (try simp only [hl3_1]); (try simp only [hl3_2]); (try simp only [hl3_3]); (with_reducible repeat (first | refine kN ?_ _ | refine kD ?_ | refine kA ?_ _)); exact BK242.out⟩, ⟨by repeat (first | (with_reducible first | exact HB.out | apply bA | apply bN | apply bD | refine bS ?_ GE242.out | refine bS ?_ GE250.out) | exact HB.out)⟩⟩
                    ·rw [if_neg c45] at H
                     have c45b0 : decide ((wrap64 ((rd x3_3 ((rd_T67 l0_3 x31_3).f2)) + 1)) < (rd x3_3 ((rd_T67 l0_3 x31_3).f0))) = false := decide_eq_false c45
                     clear c45
                     have H' := Aside0.mk H
                     clear H
                     have p249 : 0 ≤ (x31_3 : Int) := of_decide_eq_true (by first | (with_reducible assumption) | assumption)
                     have q249 : x31_3 < (l0_3.length : Int) := of_decide_eq_true (by first | (with_reducible assumption) | assumption)
                     obtain ⟨ad249, e249, hx249_0, hx249_1, hx249_2⟩ := at_T67 HR0_3.out x31_3 p249 q249
                     cases e249
                     replace hx249_0 := (HB.out.cell (World.block_lt_of_cell? w _ hx249_0)).trans hx249_0
                     replace hx249_1 := (HB.out.cell (World.block_lt_of_cell? w _ hx249_1)).trans hx249_1
                     replace hx249_2 := (HB.out.cell (World.block_lt_of_cell? w _ hx249_2)).trans hx249_2
                     replace p249 := eq_true p249
                     replace q249 := eq_true q249
                     go_wp2_with (first | ((with_reducible refine gate_dst (N := 7) rfl ?_); refine bE ?hg (N := 7) ?hd (cs := #[.int .i64 0, .int .i64 0, .int .i64 0]) (t := 67) ?hr ?_; (case hd => rfl); (case hg => rfl); (case hr => first | (go_simp; done) | (go_simp; rfl)); intro gb250 hg w54 hbox hb; have n0_ := Aside0.mk (rB (by (with_reducible repeat (first | apply rA | apply rN | apply rD)); exact HO_3.out) hb); have n1_ := Aside0.mk (kB (g := gb242) (o := .cells #[.int .i64 a0_0, .int .i64 a0_1, .slice A0_2 l0_2.length c0_2, .slice (some ad249) l0_3.length c0_3] 30 (0, 0)) (by (with_reducible repeat (first | refine kN ?_ _ | refine kD ?_ | refine kA ?_ _)); exact BK242.out) hb); have n2_ := Aside0.mk (bP (by repeat (first | (with_reducible first | exact HB.out | apply bA | apply bN | apply bD | refine bS ?_ GE242.out) | exact HB.out)) hb); have n3_ := Aside0.mk (hbox); have n4_ := Aside0.mk ((by rw [hg]; exact (bZ (by repeat (first | (with_reducible first | exact HB.out | apply bA | apply bN | apply bD | refine bS ?_ GE242.out) | exact HB.out))) : w.heap.size ≤ gb250)); have n5_ := Aside0.mk ((by rw [hg]; exact (bZ (by repeat (first | (with_reducible first | exact HB.out | apply bA | apply bN | apply bD | refine bS ?_ GE242.out) | exact HB.out))) : w.heap.size ≤ gb250)); have n6_ := Aside0.mk ((by rw [hg]; exact Nat.ne_of_lt (kL (g := gb242) (o := .cells #[.int .i64 a0_0, .int .i64 a0_1, .slice A0_2 l0_2.length c0_2, .slice (some ad249) l0_3.length c0_3] 30 (0, 0)) (by (with_reducible repeat (first | refine kN ?_ _ | refine kD ?_ | refine kA ?_ _)); exact BK242.out)) : gb242 ≠ gb250)); have n7_ := Aside0.mk ((by rw [hg]; exact Nat.ne_of_gt (kL (g := gb242) (o := .cells #[.int .i64 a0_0, .int .i64 a0_1, .slice A0_2 l0_2.length c0_2, .slice (some ad249) l0_3.length c0_3] 30 (0, 0)) (by (with_reducible repeat (first | refine kN ?_ _ | refine kD ?_ | refine kA ?_ _)); exact BK242.out)) : gb250 ≠ gb242)); clear HO_3; clear BK242; clear HB; have HO_3 := n0_; have BK242 := n1_; have HB := n2_; have BK250 := n3_; have GW250 := n4_; have GE250 := n5_; have NB242_250 := n6_; have NB250_242 := n7_; clear n0_ n1_ n2_ n3_ n4_ n5_ n6_ n7_; clear hb hbox hg; have hnb55 := NB250_242.out; have hnc55 := NB242_250.out; have hcz56_0 : w54.cell? ⟨gb250, 0, none⟩ = some (.int .i64 0) := (kC BK250.out 0).trans rfl; have hcz56_1 : w54.cell? ⟨gb250, 1, none⟩ = some (.int .i64 0) := (kC BK250.out 1).trans rfl; have hcz56_2 : w54.cell? ⟨gb250, 2, none⟩ = some (.int .i64 0) := (kC BK250.out 2).trans rfl; have hfz56_0 := blk_frozen BK250.out 0; have hfz56_1 := blk_frozen BK250.out 1; have hfz56_2 := blk_frozen BK250.out 2; have p251 : 0 ≤ (((rd_T67 l0_3 x31_3).f2) : Int) := of_decide_eq_true (by first | (with_reducible assumption) | assumption); have q251 : ((rd_T67 l0_3 x31_3).f2) < (x3_3.length : Int) := of_decide_eq_true (by first | (with_reducible assumption) | assumption); obtain ⟨ad251, e251, hx251_0⟩ := Kd.at_int (Kd.R_reads' HO_3.out).2.2 ((rd_T67 l0_3 x31_3).f2) p251 q251; cases e251; have hn251_0 : ad251.block ≠ gb250 := Kd.own_blk (Kd.R_ne HO_3.out BK250.out (by decide)); have hn251_1 : ad251.block ≠ gb250 := Kd.own_blk (Kd.R_ne HO_3.out BK250.out (by decide)); have hn251_2 : ad251.block ≠ gb250 := Kd.own_blk (Kd.R_ne HO_3.out BK250.out (by decide)); replace hx251_0 := (cell_far (p := ⟨gb250, 0, none⟩) (by first | (rw [add_block]; exact hn251_0) | (show (Addr.add _ _).block ≠ _; rw [add_block]; exact hn251_0) | exact hn251_0) (.int .i64 ((rd_T67 l0_3 x31_3).f0))).trans hx251_0; replace hx251_0 := (cell_far (p := ⟨gb250, 1, none⟩) (by first | (rw [add_block]; exact hn251_1) | (show (Addr.add _ _).block ≠ _; rw [add_block]; exact hn251_1) | exact hn251_1) (.int .i64 ((rd_T67 l0_3 x31_3).f1))).trans hx251_0; replace hx251_0 := (cell_far (p := ⟨gb250, 2, none⟩) (by first | (rw [add_block]; exact hn251_2) | (show (Addr.add _ _).block ≠ _; rw [add_block]; exact hn251_2) | exact hn251_2) (.int .i64 ((rd_T67 l0_3 x31_3).f2))).trans hx251_0; clear hn251_0; clear hn251_1; clear hn251_2; replace p251 := eq_true p251; replace q251 := eq_true q251; have p252 : 0 ≤ (((rd_T67 l0_3 x31_3).f0) : Int) := of_decide_eq_true (by first | (with_reducible assumption) | assumption); have q252 : ((rd_T67 l0_3 x31_3).f0) < (x3_3.length : Int) := of_decide_eq_true (by first | (with_reducible assumption) | assumption); obtain ⟨ad252, e252, hx252_0⟩ := Kd.at_int (Kd.R_reads' HO_3.out).2.2 ((rd_T67 l0_3 x31_3).f0) p252 q252; obtain rfl : ad251 = ad252 := (by injection e252); have hn252_0 : ad251.block ≠ gb250 := Kd.own_blk (Kd.R_ne HO_3.out BK250.out (by decide)); have hn252_1 : ad251.block ≠ gb250 := Kd.own_blk (Kd.R_ne HO_3.out BK250.out (by decide)); have hn252_2 : ad251.block ≠ gb250 := Kd.own_blk (Kd.R_ne HO_3.out BK250.out (by decide)); replace hx252_0 := (cell_far (p := ⟨gb250, 0, none⟩) (by first | (rw [add_block]; exact hn252_0) | (show (Addr.add _ _).block ≠ _; rw [add_block]; exact hn252_0) | exact hn252_0) (.int .i64 ((rd_T67 l0_3 x31_3).f0))).trans hx252_0; replace hx252_0 := (cell_far (p := ⟨gb250, 1, none⟩) (by first | (rw [add_block]; exact hn252_1) | (show (Addr.add _ _).block ≠ _; rw [add_block]; exact hn252_1) | exact hn252_1) (.int .i64 ((rd_T67 l0_3 x31_3).f1))).trans hx252_0; replace hx252_0 := (cell_far (p := ⟨gb250, 2, none⟩) (by first | (rw [add_block]; exact hn252_2) | (show (Addr.add _ _).block ≠ _; rw [add_block]; exact hn252_2) | exact hn252_2) (.int .i64 ((rd_T67 l0_3 x31_3).f2))).trans hx252_0; clear hn252_0; clear hn252_1; clear hn252_2; replace p252 := eq_true p252; replace q252 := eq_true q252; have p254 : 0 ≤ (((rd_T67 l0_3 x31_3).f0) : Int) := of_decide_eq_true (by first | (with_reducible assumption) | assumption); have q254 : ((rd_T67 l0_3 x31_3).f0) < (x3_3.length : Int) := of_decide_eq_true (by first | (with_reducible assumption) | assumption); obtain ⟨ad254, e254, hx254_0⟩ := Kd.at_int (Kd.R_reads' HO_3.out).2.2 ((rd_T67 l0_3 x31_3).f0) p254 q254; obtain rfl : ad251 = ad254 := (by injection e254); have hn254_0 : ad251.block ≠ gb250 := Kd.own_blk (Kd.R_ne HO_3.out BK250.out (by decide)); have hn254_1 : ad251.block ≠ gb250 := Kd.own_blk (Kd.R_ne HO_3.out BK250.out (by decide)); have hn254_2 : ad251.block ≠ gb250 := Kd.own_blk (Kd.R_ne HO_3.out BK250.out (by decide)); replace hx254_0 := (cell_far (p := ⟨gb250, 0, none⟩) (by first | (rw [add_block]; exact hn254_0) | (show (Addr.add _ _).block ≠ _; rw [add_block]; exact hn254_0) | exact hn254_0) (.int .i64 ((rd_T67 l0_3 x31_3).f0))).trans hx254_0; replace hx254_0 := (cell_far (p := ⟨gb250, 1, none⟩) (by first | (rw [add_block]; exact hn254_1) | (show (Addr.add _ _).block ≠ _; rw [add_block]; exact hn254_1) | exact hn254_1) (.int .i64 ((rd_T67 l0_3 x31_3).f1))).trans hx254_0; replace hx254_0 := (cell_far (p := ⟨gb250, 2, none⟩) (by first | (rw [add_block]; exact hn254_2) | (show (Addr.add _ _).block ≠ _; rw [add_block]; exact hn254_2) | exact hn254_2) (.int .i64 ((rd_T67 l0_3 x31_3).f2))).trans hx254_0; clear hn254_0; clear hn254_1; clear hn254_2; replace p254 := eq_true p254; replace q254 := eq_true q254))
                     (try simp only [← hl3_3])
                     go_roundg k3
                     case measure => have := HK1.out; have := HK2.out; have := HK3.out; omega
                     case rel => exact ⟨(x3_3), (x5_3), (wrap64 (x31_3 + 1)), (by first | rfl | (simp; done) | (simp [*]; done)), (by first | rfl | (simp; done) | (simp [*]; done)), H', ⟨by have := HK1.out; have := HK2.out; have := HK3.out; omega⟩, ⟨by (try simp only [hl3_1]); (try simp only [hl3_2]); (try simp only [hl3_3]); (with_reducible repeat (first | apply rA | apply rN | apply rD)); exact rM (Kd.R_far (p := ⟨gb250, 2, none⟩) (Kd.R_far (p := ⟨gb250, 1, none⟩) (Kd.R_far (p := ⟨gb250, 0, none⟩) (Kd.R_types HO_3.out BK250.out (by decide)) (fun _ hk => hk.2) (.int .i64 ((rd_T67 l0_3 x31_3).f0))) (fun _ hk => hk.2) (.int .i64 ((rd_T67 l0_3 x31_3).f1))) (fun _ hk => hk.2) (.int .i64 ((rd_T67 l0_3 x31_3).f2))) (fun _ hk => trivial)⟩, ⟨by (try simp only [hl3_1]); (try simp only [hl3_2]); (try simp only [hl3_3]); (with_reducible repeat (first | refine kN ?_ _ | refine kD ?_ | refine kA ?_ _)); refine kF ?_ NB242_250.out _; (with_reducible repeat (first | refine kN ?_ _ | refine kD ?_ | refine kA ?_ _)); refine kF ?_ NB242_250.out _; (with_reducible repeat (first | refine kN ?_ _ | refine kD ?_ | refine kA ?_ _)); refine kF ?_ NB242_250.out _; (with_reducible repeat (first | refine kN ?_ _ | refine kD ?_ | refine kA ?_ _)); exact BK242.out⟩, ⟨by repeat (first | (with_reducible first | exact HB.out | apply bA | apply bN | apply bD | refine bS ?_ GE242.out | refine bS ?_ GE250.out) | exact HB.out)⟩⟩
                  ·rw [if_neg c35] at H
                   exact absurd H (by simp)
                 ·rw [if_neg c34] at H
                  exact absurd H (by simp)
                ·rw [if_neg c33] at H
                 have c33b0 : decide (0 < (wrap64 ((rd x3_3 ((rd_T67 l0_3 x31_3).f2)) + 1))) = false := decide_eq_false c33
                 clear c33
                 have H' := Aside0.mk H
                 clear H
                 have p249 : 0 ≤ (x31_3 : Int) := of_decide_eq_true (by first | (with_reducible assumption) | assumption)
                 have q249 : x31_3 < (l0_3.length : Int) := of_decide_eq_true (by first | (with_reducible assumption) | assumption)
                 obtain ⟨ad249, e249, hx249_0, hx249_1, hx249_2⟩ := at_T67 HR0_3.out x31_3 p249 q249
                 cases e249
                 replace hx249_0 := (HB.out.cell (World.block_lt_of_cell? w _ hx249_0)).trans hx249_0
                 replace hx249_1 := (HB.out.cell (World.block_lt_of_cell? w _ hx249_1)).trans hx249_1
                 replace hx249_2 := (HB.out.cell (World.block_lt_of_cell? w _ hx249_2)).trans hx249_2
                 replace p249 := eq_true p249
                 replace q249 := eq_true q249
                 go_wp2_with (first | ((with_reducible refine gate_dst (N := 7) rfl ?_); refine bE ?hg (N := 7) ?hd (cs := #[.int .i64 0, .int .i64 0, .int .i64 0]) (t := 67) ?hr ?_; (case hd => rfl); (case hg => rfl); (case hr => first | (go_simp; done) | (go_simp; rfl)); intro gb250 hg w57 hbox hb; have n0_ := Aside0.mk (rB (by (with_reducible repeat (first | apply rA | apply rN | apply rD)); exact HO_3.out) hb); have n1_ := Aside0.mk (kB (g := gb242) (o := .cells #[.int .i64 a0_0, .int .i64 a0_1, .slice A0_2 l0_2.length c0_2, .slice (some ad249) l0_3.length c0_3] 30 (0, 0)) (by (with_reducible repeat (first | refine kN ?_ _ | refine kD ?_ | refine kA ?_ _)); exact BK242.out) hb); have n2_ := Aside0.mk (bP (by repeat (first | (with_reducible first | exact HB.out | apply bA | apply bN | apply bD | refine bS ?_ GE242.out) | exact HB.out)) hb); have n3_ := Aside0.mk (hbox); have n4_ := Aside0.mk ((by rw [hg]; exact (bZ (by repeat (first | (with_reducible first | exact HB.out | apply bA | apply bN | apply bD | refine bS ?_ GE242.out) | exact HB.out))) : w.heap.size ≤ gb250)); have n5_ := Aside0.mk ((by rw [hg]; exact (bZ (by repeat (first | (with_reducible first | exact HB.out | apply bA | apply bN | apply bD | refine bS ?_ GE242.out) | exact HB.out))) : w.heap.size ≤ gb250)); have n6_ := Aside0.mk ((by rw [hg]; exact Nat.ne_of_lt (kL (g := gb242) (o := .cells #[.int .i64 a0_0, .int .i64 a0_1, .slice A0_2 l0_2.length c0_2, .slice (some ad249) l0_3.length c0_3] 30 (0, 0)) (by (with_reducible repeat (first | refine kN ?_ _ | refine kD ?_ | refine kA ?_ _)); exact BK242.out)) : gb242 ≠ gb250)); have n7_ := Aside0.mk ((by rw [hg]; exact Nat.ne_of_gt (kL (g := gb242) (o := .cells #[.int .i64 a0_0, .int .i64 a0_1, .slice A0_2 l0_2.length c0_2, .slice (some ad249) l0_3.length c0_3] 30 (0, 0)) (by (with_reducible repeat (first | refine kN ?_ _ | refine kD ?_ | refine kA ?_ _)); exact BK242.out)) : gb250 ≠ gb242)); clear HO_3; clear BK242; clear HB; have HO_3 := n0_; have BK242 := n1_; have HB := n2_; have BK250 := n3_; have GW250 := n4_; have GE250 := n5_; have NB242_250 := n6_; have NB250_242 := n7_; clear n0_ n1_ n2_ n3_ n4_ n5_ n6_ n7_; clear hb hbox hg; have hnb58 := NB250_242.out; have hnc58 := NB242_250.out; have hcz59_0 : w57.cell? ⟨gb250, 0, none⟩ = some (.int .i64 0) := (kC BK250.out 0).trans rfl; have hcz59_1 : w57.cell? ⟨gb250, 1, none⟩ = some (.int .i64 0) := (kC BK250.out 1).trans rfl; have hcz59_2 : w57.cell? ⟨gb250, 2, none⟩ = some (.int .i64 0) := (kC BK250.out 2).trans rfl; have hfz59_0 := blk_frozen BK250.out 0; have hfz59_1 := blk_frozen BK250.out 1; have hfz59_2 := blk_frozen BK250.out 2; have p251 : 0 ≤ (((rd_T67 l0_3 x31_3).f2) : Int) := of_decide_eq_true (by first | (with_reducible assumption) | assumption); have q251 : ((rd_T67 l0_3 x31_3).f2) < (x3_3.length : Int) := of_decide_eq_true (by first | (with_reducible assumption) | assumption); obtain ⟨ad251, e251, hx251_0⟩ := Kd.at_int (Kd.R_reads' HO_3.out).2.2 ((rd_T67 l0_3 x31_3).f2) p251 q251; cases e251; have hn251_0 : ad251.block ≠ gb250 := Kd.own_blk (Kd.R_ne HO_3.out BK250.out (by decide)); have hn251_1 : ad251.block ≠ gb250 := Kd.own_blk (Kd.R_ne HO_3.out BK250.out (by decide)); have hn251_2 : ad251.block ≠ gb250 := Kd.own_blk (Kd.R_ne HO_3.out BK250.out (by decide)); replace hx251_0 := (cell_far (p := ⟨gb250, 0, none⟩) (by first | (rw [add_block]; exact hn251_0) | (show (Addr.add _ _).block ≠ _; rw [add_block]; exact hn251_0) | exact hn251_0) (.int .i64 ((rd_T67 l0_3 x31_3).f0))).trans hx251_0; replace hx251_0 := (cell_far (p := ⟨gb250, 1, none⟩) (by first | (rw [add_block]; exact hn251_1) | (show (Addr.add _ _).block ≠ _; rw [add_block]; exact hn251_1) | exact hn251_1) (.int .i64 ((rd_T67 l0_3 x31_3).f1))).trans hx251_0; replace hx251_0 := (cell_far (p := ⟨gb250, 2, none⟩) (by first | (rw [add_block]; exact hn251_2) | (show (Addr.add _ _).block ≠ _; rw [add_block]; exact hn251_2) | exact hn251_2) (.int .i64 ((rd_T67 l0_3 x31_3).f2))).trans hx251_0; clear hn251_0; clear hn251_1; clear hn251_2; replace p251 := eq_true p251; replace q251 := eq_true q251))
                 (try simp only [← hl3_3])
                 go_roundg k3
                 case measure => have := HK1.out; have := HK2.out; have := HK3.out; omega
                 case rel => exact ⟨(x3_3), (x5_3), (wrap64 (x31_3 + 1)), (by first | rfl | (simp; done) | (simp [*]; done)), (by first | rfl | (simp; done) | (simp [*]; done)), H', ⟨by have := HK1.out; have := HK2.out; have := HK3.out; omega⟩, ⟨by (try simp only [hl3_1]); (try simp only [hl3_2]); (try simp only [hl3_3]); (with_reducible repeat (first | apply rA | apply rN | apply rD)); exact rM (Kd.R_far (p := ⟨gb250, 2, none⟩) (Kd.R_far (p := ⟨gb250, 1, none⟩) (Kd.R_far (p := ⟨gb250, 0, none⟩) (Kd.R_types HO_3.out BK250.out (by decide)) (fun _ hk => hk.2) (.int .i64 ((rd_T67 l0_3 x31_3).f0))) (fun _ hk => hk.2) (.int .i64 ((rd_T67 l0_3 x31_3).f1))) (fun _ hk => hk.2) (.int .i64 ((rd_T67 l0_3 x31_3).f2))) (fun _ hk => trivial)⟩, ⟨by (try simp only [hl3_1]); (try simp only [hl3_2]); (try simp only [hl3_3]); (with_reducible repeat (first | refine kN ?_ _ | refine kD ?_ | refine kA ?_ _)); refine kF ?_ NB242_250.out _; (with_reducible repeat (first | refine kN ?_ _ | refine kD ?_ | refine kA ?_ _)); refine kF ?_ NB242_250.out _; (with_reducible repeat (first | refine kN ?_ _ | refine kD ?_ | refine kA ?_ _)); refine kF ?_ NB242_250.out _; (with_reducible repeat (first | refine kN ?_ _ | refine kD ?_ | refine kA ?_ _)); exact BK242.out⟩, ⟨by repeat (first | (with_reducible first | exact HB.out | apply bA | apply bN | apply bD | refine bS ?_ GE242.out | refine bS ?_ GE250.out) | exact HB.out)⟩⟩
               ·rw [if_neg c32] at H
                exact absurd H (by simp)
              ·rw [if_neg c31] at H
               exact absurd H (by simp)
             ·rw [if_neg c30] at H
              exact absurd H (by simp)
            ·rw [if_neg c29] at H
             exact absurd H (by simp)
           ·rw [if_neg c28] at H
            have c28b0 : decide (x31_3 < (l0_3.length : Int)) = false := decide_eq_false c28
            clear c28
            have H' := Aside0.mk H
            clear H
            go_wp2
            (try simp only [← hl3_2, ← hl3_3])
            go_roundg k3
            case measure => have := HK1.out; have := HK2.out; have := HK3.out; omega
            case rel => exact ⟨(x3_3), (x5_3), (by first | rfl | (simp; done) | (simp [*]; done)), H', ⟨by have := HK1.out; have := HK2.out; have := HK3.out; omega⟩, ⟨by (try simp only [hl3_1]); (try simp only [hl3_2]); (try simp only [hl3_3]); (with_reducible repeat (first | apply rA | apply rN | apply rD)); exact HO_3.out⟩, ⟨by (try simp only [hl3_1]); (try simp only [hl3_2]); (try simp only [hl3_3]); (with_reducible repeat (first | refine kN ?_ _ | refine kD ?_ | refine kA ?_ _)); exact BK242.out⟩, ⟨by repeat (first | (with_reducible first | exact HB.out | apply bA | apply bN | apply bD | refine bS ?_ GE242.out) | exact HB.out)⟩⟩
        ·replace c26 := Bool.eq_false_iff.mpr c26
         subst c26
         have H1 : (some x3_2) = some r := by rw [if_neg (show ¬ (false = true) by decide)] at H; exact H
         clear H
         have H := H1
         clear H1
         obtain rfl := Option.some.inj H
         go_wp2
         go_ret
         exact ⟨_, by first | rfl | (simp [errW_none, errW_some] <;> rfl) | (simp [*, errW_none, errW_some] <;> rfl), by (with_reducible repeat (first | apply rA | apply rN | apply rD)); exact HO_3.out, by repeat (first | (with_reducible first | exact HB.out | apply bA | apply bN | apply bD | refine bS ?_ GE242.out) | exact HB.out)⟩
  ·rw [if_neg c3] at H
   exact absurd H (by simp)
 ·rw [if_neg c2] at H
  exact absurd H (by simp)

end Go.Proofs.Ytijbhcalknfijaa.M3
-- shrunk
-- tight
