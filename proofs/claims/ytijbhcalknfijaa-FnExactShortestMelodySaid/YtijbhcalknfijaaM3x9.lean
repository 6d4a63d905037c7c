/- What functions of the given program compute, as plain Lean functions, and that the code comes to just that; by a program of this session over the kit's print. No condition. -/
import Derived.Test.YtijbhcalknfijaaM3x0
namespace Go.Proofs.Ytijbhcalknfijaa.M3
open Go.RowKit Go.Proofs.YtijbhcalknfijaaW.PrintWords Go.Proofs.YtijbhcalknfijaaW.PrintLast
open Go.Proofs.YtijbhcalknfijaaW.PrintWords renaming below_alloc → bA, pw_below_drewN → bN, below_drew1 → bD, below_set → bS, below_size → bZ, below_step → bP
open Go.Proofs.YtijbhcalknfijaaW.PrintWords.Kd renaming R_alloc → rA, R_drewN → rN, R_drew → rD, R_lower → rL
set_option linter.unusedVariables false
set_option linter.unusedSimpArgs false

/-! ### spec_l07Far: function 78 -/
mutual
def spec_l07Far.l0 : Nat → List Int → Int → Int → Int → List Int → List (S67) → Option (List Int)
 | 0, _, _, _, _, _, _ => none
 | k + 1, x3, x4, x1000, x1001, x1002, x1003 => if x4 < x1000 then (if x3.length < 17592186044416 then (spec_l07Far.l0 k (x3 ++ [(-1)]) (wrap64 (x4 + 1)) x1000 x1001 x1002 x1003) else (none)) else (spec_l07Far.l1 k x3 0 x1000 x1001 x1002 x1003)
def spec_l07Far.l1 : Nat → List Int → Int → Int → Int → List Int → List (S67) → Option (List Int)
 | 0, _, _, _, _, _, _ => none
 | k + 1, x3, x5, x1000, x1001, x1002, x1003 => if x5 < (x1002.length : Int) then (if 0 ≤ x5 then (if 0 ≤ (rd x1002 x5) then (if (rd x1002 x5) < (x3.length : Int) then (spec_l07Far.l1 k (x3.set ((rd x1002 x5) : Int).toNat 0) (wrap64 (x5 + 1)) x1000 x1001 x1002 x1003) else (none)) else (none)) else (none)) else (spec_l07Far.l2 k x3 0 x1000 x1001 x1002 x1003)
def spec_l07Far.l2 : Nat → List Int → Int → Int → Int → List Int → List (S67) → Option (List Int)
 | 0, _, _, _, _, _, _ => none
 | k + 1, x3, x6, x1000, x1001, x1002, x1003 => if x6 < x1000 then (spec_l07Far.l3 k x3 x6 0 x1000 x1001 x1002 x1003) else (some x3)
def spec_l07Far.l3 : Nat → List Int → Int → Int → Int → Int → List Int → List (S67) → Option (List Int)
 | 0, _, _, _, _, _, _, _ => none
 | k + 1, x3, x6, x7, x1000, x1001, x1002, x1003 => if x7 < (x1003.length : Int) then (if 0 ≤ x7 then (if 0 ≤ ((rd_T67 x1003 x7).f2) then (if ((rd_T67 x1003 x7).f2) < (x3.length : Int) then (if (rd x3 ((rd_T67 x1003 x7).f2)) ≥ 0 then (if 0 ≤ ((rd_T67 x1003 x7).f0) then (if ((rd_T67 x1003 x7).f0) < (x3.length : Int) then (if (rd x3 ((rd_T67 x1003 x7).f0)) < 0 then (spec_l07Far.l3 k (x3.set (((rd_T67 x1003 x7).f0) : Int).toNat (wrap64 ((rd x3 ((rd_T67 x1003 x7).f2)) + 1))) x6 (wrap64 (x7 + 1)) x1000 x1001 x1002 x1003) else (if (rd x3 ((rd_T67 x1003 x7).f0)) > (wrap64 ((rd x3 ((rd_T67 x1003 x7).f2)) + 1)) then (spec_l07Far.l3 k (x3.set (((rd_T67 x1003 x7).f0) : Int).toNat (wrap64 ((rd x3 ((rd_T67 x1003 x7).f2)) + 1))) x6 (wrap64 (x7 + 1)) x1000 x1001 x1002 x1003) else (spec_l07Far.l3 k x3 x6 (wrap64 (x7 + 1)) x1000 x1001 x1002 x1003))) else (none)) else (none)) else (spec_l07Far.l3 k x3 x6 (wrap64 (x7 + 1)) x1000 x1001 x1002 x1003)) else (none)) else (none)) else (none)) else (spec_l07Far.l2 k x3 (wrap64 (x6 + 1)) x1000 x1001 x1002 x1003)
end
def spec_l07Far.f (k : Nat) (a0_0 : Int) (a0_1 : Int) (l0_2 : List Int) (l0_3 : List (S67)) : Option (List Int) := spec_l07Far.l0 k (([] : List Int)) 0 a0_0 a0_1 l0_2 l0_3
theorem spec_l07Far.mono_l : ∀ k, (∀ y0 y1 y2 y3 y4 y5, LeO (spec_l07Far.l0 k y0 y1 y2 y3 y4 y5) (spec_l07Far.l0 (k + 1) y0 y1 y2 y3 y4 y5)) ∧ (∀ y0 y1 y2 y3 y4 y5, LeO (spec_l07Far.l1 k y0 y1 y2 y3 y4 y5) (spec_l07Far.l1 (k + 1) y0 y1 y2 y3 y4 y5)) ∧ (∀ y0 y1 y2 y3 y4 y5, LeO (spec_l07Far.l2 k y0 y1 y2 y3 y4 y5) (spec_l07Far.l2 (k + 1) y0 y1 y2 y3 y4 y5)) ∧ (∀ y0 y1 y2 y3 y4 y5 y6, LeO (spec_l07Far.l3 k y0 y1 y2 y3 y4 y5 y6) (spec_l07Far.l3 (k + 1) y0 y1 y2 y3 y4 y5 y6))
 | 0 => ⟨fun _ _ _ _ _ _ r h => by simp [spec_l07Far.l0] at h, fun _ _ _ _ _ _ r h => by simp [spec_l07Far.l1] at h, fun _ _ _ _ _ _ r h => by simp [spec_l07Far.l2] at h, fun _ _ _ _ _ _ _ r h => by simp [spec_l07Far.l3] at h⟩
 | k + 1 => by
  obtain ⟨ih0, ih1, ih2, ih3⟩ := spec_l07Far.mono_l k
  refine ⟨?_, ?_, ?_, ?_⟩
  ·intro y0 y1 y2 y3 y4 y5
   unfold spec_l07Far.l0
   repeat' first
   | (with_reducible exact ih0 _ _ _ _ _ _)
   | (with_reducible exact ih1 _ _ _ _ _ _)
   | (with_reducible exact ih2 _ _ _ _ _ _)
   | (with_reducible exact ih3 _ _ _ _ _ _ _)
   | (with_reducible exact LeO.refl _)
   | (with_reducible exact LeO.none _)
   | (with_reducible refine LeO.ite ?_ ?_)
   | (with_reducible refine LeO.bind ?_ (fun _ => ?_))
   | exact ih0 _ _ _ _ _ _
   | exact ih1 _ _ _ _ _ _
   | exact ih2 _ _ _ _ _ _
   | exact ih3 _ _ _ _ _ _ _
   | exact LeO.none _
   | refine LeO.ite ?_ ?_
   | refine LeO.bind ?_ (fun _ => ?_)
  ·intro y0 y1 y2 y3 y4 y5
   unfold spec_l07Far.l1
   repeat' first
   | (with_reducible exact ih0 _ _ _ _ _ _)
   | (with_reducible exact ih1 _ _ _ _ _ _)
   | (with_reducible exact ih2 _ _ _ _ _ _)
   | (with_reducible exact ih3 _ _ _ _ _ _ _)
   | (with_reducible exact LeO.refl _)
   | (with_reducible exact LeO.none _)
   | (with_reducible refine LeO.ite ?_ ?_)
   | (with_reducible refine LeO.bind ?_ (fun _ => ?_))
   | exact ih0 _ _ _ _ _ _
   | exact ih1 _ _ _ _ _ _
   | exact ih2 _ _ _ _ _ _
   | exact ih3 _ _ _ _ _ _ _
   | exact LeO.none _
   | refine LeO.ite ?_ ?_
   | refine LeO.bind ?_ (fun _ => ?_)
  ·intro y0 y1 y2 y3 y4 y5
   unfold spec_l07Far.l2
   repeat' first
   | (with_reducible exact ih0 _ _ _ _ _ _)
   | (with_reducible exact ih1 _ _ _ _ _ _)
   | (with_reducible exact ih2 _ _ _ _ _ _)
   | (with_reducible exact ih3 _ _ _ _ _ _ _)
   | (with_reducible exact LeO.refl _)
   | (with_reducible exact LeO.none _)
   | (with_reducible refine LeO.ite ?_ ?_)
   | (with_reducible refine LeO.bind ?_ (fun _ => ?_))
   | exact ih0 _ _ _ _ _ _
   | exact ih1 _ _ _ _ _ _
   | exact ih2 _ _ _ _ _ _
   | exact ih3 _ _ _ _ _ _ _
   | exact LeO.none _
   | refine LeO.ite ?_ ?_
   | refine LeO.bind ?_ (fun _ => ?_)
  ·intro y0 y1 y2 y3 y4 y5 y6
   unfold spec_l07Far.l3
   repeat' first
   | (with_reducible exact ih0 _ _ _ _ _ _)
   | (with_reducible exact ih1 _ _ _ _ _ _)
   | (with_reducible exact ih2 _ _ _ _ _ _)
   | (with_reducible exact ih3 _ _ _ _ _ _ _)
   | (with_reducible exact LeO.refl _)
   | (with_reducible exact LeO.none _)
   | (with_reducible refine LeO.ite ?_ ?_)
   | (with_reducible refine LeO.bind ?_ (fun _ => ?_))
   | exact ih0 _ _ _ _ _ _
   | exact ih1 _ _ _ _ _ _
   | exact ih2 _ _ _ _ _ _
   | exact ih3 _ _ _ _ _ _ _
   | exact LeO.none _
   | refine LeO.ite ?_ ?_
   | refine LeO.bind ?_ (fun _ => ?_)
theorem spec_l07Far.mono : ∀ a0 a1 a2 a3 k, LeO (spec_l07Far.f k a0 a1 a2 a3) (spec_l07Far.f (k + 1) a0 a1 a2 a3) := by
 intro a0 a1 a2 a3 k
 obtain ⟨ih0, ih1, ih2, ih3⟩ := spec_l07Far.mono_l k
 unfold spec_l07Far.f
 repeat' first
   | (with_reducible exact ih0 _ _ _ _ _ _)
   | (with_reducible exact ih1 _ _ _ _ _ _)
   | (with_reducible exact ih2 _ _ _ _ _ _)
   | (with_reducible exact ih3 _ _ _ _ _ _ _)
   | (with_reducible exact LeO.refl _)
   | (with_reducible exact LeO.none _)
   | (with_reducible refine LeO.ite ?_ ?_)
   | (with_reducible refine LeO.bind ?_ (fun _ => ?_))
   | exact ih0 _ _ _ _ _ _
   | exact ih1 _ _ _ _ _ _
   | exact ih2 _ _ _ _ _ _
   | exact ih3 _ _ _ _ _ _ _
   | exact LeO.none _
   | refine LeO.ite ?_ ?_
   | refine LeO.bind ?_ (fun _ => ?_)
set_option maxHeartbeats 8000000 in
set_option maxRecDepth 100000 in
theorem spec_l07Far.calls (k : Nat) (adp0 : Addr) (a0_0 : Int) (a0_1 : Int) (l0_2 : List Int) (l0_3 : List (S67)) (r : List Int) (w : World) (hp0 : Kd.C k30 w (some adp0) 1 [(⟨a0_0, a0_1, l0_2, l0_3⟩ : S30)]) (h : spec_l07Far.f k a0_0 a0_1 l0_2 l0_3 = some r) :
  Calls Try.prog 78 #[.pointer (some adp0)] w fun e w' => ∃ v0_ : Value, e = .returned (v0_) ∧ Kd.R (Kd.int .i64) 2 w' w.heap.size (fun _ => True) v0_ r ∧ Below w.heap.size w w' := by
 have HRp0 := Aside0.mk hp0
 clear hp0
 have HB := Aside0.mk (Below.refl w.heap.size w)
 have H : (spec_l07Far.l0 k (([] : List Int)) 0 a0_0 a0_1 l0_2 l0_3) = some r := h
 clear h
 obtain ⟨y169, hy169⟩ : ∃ y_ : List Int, y_ = (([] : List Int)) := ⟨_, rfl⟩
 replace H : (spec_l07Far.l0 k y169 0 a0_0 a0_1 l0_2 l0_3) = some r := by first | (rw [hy169]; with_reducible exact H) | (have H2_ := (Option.bind_some _ _).symm.trans H; rw [hy169]; with_reducible exact H2_) | (have H2_ := (Option.bind_some _ _).symm.trans H; with_reducible exact H2_) | with_reducible exact H | (rw [hy169]; exact H) | exact H
 have Ny169 := Aside0.mk hy169
 clear hy169
 have H' := Aside0.mk H
 clear H
 go_enter Try.func78, Try.ntmps78
 go_wp2_with (first | ((with_reducible refine gate_dst (N := 9) rfl ?_); refine Kd.R_lit (Kd.int .i64) _ 2 ?hg (N := 9) ?hd (xs := ([] : List Int)) (inner := []) (ok := fun _ => True) (okp := fun _ => True) ?hr ?hp (fun _ hk => hk) trivial (Below.refl _ _) (Nat.le_refl _) (by simp) ?_; (case hd => rfl); (case hg => rfl); (case hr => first | (go_simp; done) | (go_simp; rfl)); (case hp => exact (Reps.none _ _)); intro v170 w2 ho3 hb hg_ hnew_; clear hg_ hnew_; (first | rw [← Ny169.out] at ho3 | (simp only [Int.reduceToNat] at ho3; rw [← Ny169.out] at ho3)); have n0_ := Aside0.mk (rL ho3 (bZ (by repeat (first | (with_reducible first | exact HB.out | apply bA | apply bN | apply bD) | exact HB.out)))); have n1_ := Aside0.mk (bP (by repeat (first | (with_reducible first | exact HB.out | apply bA | apply bN | apply bD) | exact HB.out)) hb); clear HB; have HO171 := n0_; have HB := n1_; clear n0_ n1_; clear hb ho3))
 go_loopg [3, 4] k (fun kq v3 v4 w' => ∃ (x3_1 : List Int) (x4_1 : Int), v4 = .int .i64 x4_1 ∧ Aside0 (spec_l07Far.l0 kq x3_1 x4_1 a0_0 a0_1 l0_2 l0_3 = some r) ∧ Aside0 (kq ≤ k) ∧ Aside0 (Kd.R (Kd.int .i64) 2 w' w.heap.size (fun _ => True) v3 x3_1) ∧ Aside0 (Below w.heap.size w w'))
 case atStart => exact ⟨(y169), (0), (by first | rfl | (simp; done) | (simp [*]; done)), H', ⟨Nat.le_refl _⟩, ⟨by (with_reducible repeat (first | apply rA | apply rN | apply rD)); exact HO171.out⟩, ⟨by repeat (first | (with_reducible first | exact HB.out | apply bA | apply bN | apply bD) | exact HB.out)⟩⟩
 case round =>
  clear H'
  try clear p2
  obtain ⟨x3_1, x4_1, rfl, HA, HK1, HO_3, HB⟩ := hrel
  cases gk with
  | zero => exact absurd HA.out (by simp [spec_l07Far.l0])
  | succ k1 =>
   have H := HA.out
   clear HA
   simp only [spec_l07Far.l0] at H
   by_cases c4 : x4_1 < a0_0
   ·rw [if_pos c4] at H
    have c4b0 : decide (x4_1 < a0_0) = true := decide_eq_true c4
    clear c4
    by_cases c5 : x3_1.length < 17592186044416
    ·rw [if_pos c5] at H
     have LMc5 := Aside0.mk c5
     clear c5
     obtain ⟨y173, hy173⟩ : ∃ y_ : List Int, y_ = (x3_1 ++ [(-1)]) := ⟨_, rfl⟩
     replace H : (spec_l07Far.l0 k1 y173 (wrap64 (x4_1 + 1)) a0_0 a0_1 l0_2 l0_3) = some r := by first | (rw [hy173]; with_reducible exact H) | (have H2_ := (Option.bind_some _ _).symm.trans H; rw [hy173]; with_reducible exact H2_) | (have H2_ := (Option.bind_some _ _).symm.trans H; with_reducible exact H2_) | with_reducible exact H | (rw [hy173]; exact H) | exact H
     have Ny173 := Aside0.mk hy173
     clear hy173
     have H' := Aside0.mk H
     clear H
     have p172 : 0 ≤ (0 : Int) := (by omega)
     have q172 : 0 < ([(⟨a0_0, a0_1, l0_2, l0_3⟩ : S30)].length : Int) := (by simp)
     obtain ⟨ad172, A172_2, c172_2, A172_3, c172_3, e172, hx172_0, hx172_1, hx172_2, hx172_3, hl172_2, hi172_2, hl172_3, hi172_3⟩ := at_T30 HRp0.out 0 p172 q172
     replace hx172_0 : _ = (some (.int .i64 a0_0) : Option Value) := hx172_0
     replace hx172_1 : _ = (some (.int .i64 a0_1) : Option Value) := hx172_1
     replace hx172_2 : _ = (some (.slice A172_2 l0_2.length c172_2) : Option Value) := hx172_2
     replace hi172_2 : Kd.C (Kd.int .i64) _ _ l0_2.length l0_2 := hi172_2
     replace hl172_2 : l0_2.length ≤ _ := hl172_2
     replace hx172_3 : _ = (some (.slice A172_3 l0_3.length c172_3) : Option Value) := hx172_3
     replace hi172_3 : Kd.C k67 _ _ l0_3.length l0_3 := hi172_3
     replace hl172_3 : l0_3.length ≤ _ := hl172_3
     obtain rfl : adp0 = ad172 := (by injection e172)
     have qi172 : (0 < [(⟨a0_0, a0_1, l0_2, l0_3⟩ : S30)].length) = True := eq_true (by simp)
     (try rw [show ((0 : Int)).toNat = 0 from rfl] at hx172_0)
     (try rw [show 0 * 4 = 0 from rfl] at hx172_0)
     (try rw [Addr.add_zero'] at hx172_0)
     (try rw [show ((0 : Int)).toNat = 0 from rfl] at hx172_1)
     (try rw [show 0 * 4 = 0 from rfl] at hx172_1)
     (try rw [Addr.add_zero'] at hx172_1)
     (try rw [show ((0 : Int)).toNat = 0 from rfl] at hx172_2)
     (try rw [show 0 * 4 = 0 from rfl] at hx172_2)
     (try rw [Addr.add_zero'] at hx172_2)
     (try rw [show ((0 : Int)).toNat = 0 from rfl] at hx172_3)
     (try rw [show 0 * 4 = 0 from rfl] at hx172_3)
     (try rw [Addr.add_zero'] at hx172_3)
     replace hx172_0 := (HB.out.cell (World.block_lt_of_cell? w _ hx172_0)).trans hx172_0
     replace hx172_1 := (HB.out.cell (World.block_lt_of_cell? w _ hx172_1)).trans hx172_1
     replace hx172_2 := (HB.out.cell (World.block_lt_of_cell? w _ hx172_2)).trans hx172_2
     replace hx172_3 := (HB.out.cell (World.block_lt_of_cell? w _ hx172_3)).trans hx172_3
     have HR172_2 := Aside0.mk hi172_2
     have HC172_2 := Aside0.mk hl172_2
     clear hi172_2 hl172_2
     have HR172_3 := Aside0.mk hi172_3
     have HC172_3 := Aside0.mk hl172_3
     clear hi172_3 hl172_3
     replace p172 := eq_true p172
     replace q172 := eq_true q172
     go_wp2_with (first | ((with_reducible refine gate_builtin (b := .append) (xs := #[.tmp 18, .tmp 19]) rfl ?_); at_builtin; refine Kd.R_append (Kd.int .i64) (w0 := w) w.heap.size rfl (.tmp 18) (.tmp 19) 22 2 (.int .i64 0) 8 rfl Try.underlying22 info2 rfl (by decide) (by omega) u3 x3_1 (-1) [.int .i64 (-1)] (fun _ => True) (fun _ => False) rfl rfl ?aP (fun _ hk => hk.elim) ?aF ?aO ?aB ?aS ?aL ?_; (case aP => exact rfl); (case aB => exact (by repeat (first | (with_reducible first | exact HB.out | apply bA | apply bN | apply bD) | exact HB.out))); (case aF => exact (fun _ _ => trivial)); (case aO => exact (by (with_reducible repeat (first | apply rA | apply rN | apply rD)); exact HO_3.out)); (case aS => exact (bZ (by repeat (first | (with_reducible first | exact HB.out | apply bA | apply bN | apply bD) | exact HB.out)))); (case aL => have := LMc5.out; omega); intro v174 w6 ho hb hg hat; rw [← Ny173.out] at ho; have n0_ := Aside0.mk (hb); have n1_ := Aside0.mk (ho); clear HB; clear HO_3; have HB := n0_; have HO175 := n1_; clear n0_ n1_; clear ho hb hg hat))
     go_roundg k1
     case measure => have := HK1.out; omega
     case rel => exact ⟨(y173), (wrap64 (x4_1 + 1)), (by first | rfl | (simp; done) | (simp [*]; done)), H', ⟨by have := HK1.out; omega⟩, ⟨by (with_reducible repeat (first | apply rA | apply rN | apply rD)); exact HO175.out⟩, ⟨by repeat (first | (with_reducible first | exact HB.out | apply bA | apply bN | apply bD) | exact HB.out)⟩⟩
    ·rw [if_neg c5] at H
     exact absurd H (by simp)
   ·rw [if_neg c4] at H
    have c4b0 : decide (x4_1 < a0_0) = false := decide_eq_false c4
    clear c4
    have H' := Aside0.mk H
    clear H
    have p172 : 0 ≤ (0 : Int) := (by omega)
    have q172 : 0 < ([(⟨a0_0, a0_1, l0_2, l0_3⟩ : S30)].length : Int) := (by simp)
    obtain ⟨ad172, A172_2, c172_2, A172_3, c172_3, e172, hx172_0, hx172_1, hx172_2, hx172_3, hl172_2, hi172_2, hl172_3, hi172_3⟩ := at_T30 HRp0.out 0 p172 q172
    replace hx172_0 : _ = (some (.int .i64 a0_0) : Option Value) := hx172_0
    replace hx172_1 : _ = (some (.int .i64 a0_1) : Option Value) := hx172_1
    replace hx172_2 : _ = (some (.slice A172_2 l0_2.length c172_2) : Option Value) := hx172_2
    replace hi172_2 : Kd.C (Kd.int .i64) _ _ l0_2.length l0_2 := hi172_2
    replace hl172_2 : l0_2.length ≤ _ := hl172_2
    replace hx172_3 : _ = (some (.slice A172_3 l0_3.length c172_3) : Option Value) := hx172_3
    replace hi172_3 : Kd.C k67 _ _ l0_3.length l0_3 := hi172_3
    replace hl172_3 : l0_3.length ≤ _ := hl172_3
    obtain rfl : adp0 = ad172 := (by injection e172)
    have qi172 : (0 < [(⟨a0_0, a0_1, l0_2, l0_3⟩ : S30)].length) = True := eq_true (by simp)
    (try rw [show ((0 : Int)).toNat = 0 from rfl] at hx172_0)
    (try rw [show 0 * 4 = 0 from rfl] at hx172_0)
    (try rw [Addr.add_zero'] at hx172_0)
    (try rw [show ((0 : Int)).toNat = 0 from rfl] at hx172_1)
    (try rw [show 0 * 4 = 0 from rfl] at hx172_1)
    (try rw [Addr.add_zero'] at hx172_1)
    (try rw [show ((0 : Int)).toNat = 0 from rfl] at hx172_2)
    (try rw [show 0 * 4 = 0 from rfl] at hx172_2)
    (try rw [Addr.add_zero'] at hx172_2)
    (try rw [show ((0 : Int)).toNat = 0 from rfl] at hx172_3)
    (try rw [show 0 * 4 = 0 from rfl] at hx172_3)
    (try rw [Addr.add_zero'] at hx172_3)
    replace hx172_0 := (HB.out.cell (World.block_lt_of_cell? w _ hx172_0)).trans hx172_0
    replace hx172_1 := (HB.out.cell (World.block_lt_of_cell? w _ hx172_1)).trans hx172_1
    replace hx172_2 := (HB.out.cell (World.block_lt_of_cell? w _ hx172_2)).trans hx172_2
    replace hx172_3 := (HB.out.cell (World.block_lt_of_cell? w _ hx172_3)).trans hx172_3
    have HR172_2 := Aside0.mk hi172_2
    have HC172_2 := Aside0.mk hl172_2
    clear hi172_2 hl172_2
    have HR172_3 := Aside0.mk hi172_3
    have HC172_3 := Aside0.mk hl172_3
    clear hi172_3 hl172_3
    replace p172 := eq_true p172
    replace q172 := eq_true q172
    go_wp2
    go_loopg [5] k1 (fun kq v5 w' => ∃ (x3_2 : List Int) (x5_2 : Int), v5 = .int .i64 x5_2 ∧ Aside0 (spec_l07Far.l1 kq x3_2 x5_2 a0_0 a0_1 l0_2 l0_3 = some r) ∧ Aside0 (kq ≤ k1) ∧ Aside0 (Kd.R (Kd.int .i64) 2 w' w.heap.size (fun _ => True) u3 x3_2) ∧ Aside0 (Below w.heap.size w w'))
    case atStart => exact ⟨(x3_1), (0), (by first | rfl | (simp; done) | (simp [*]; done)), H', ⟨Nat.le_refl _⟩, ⟨by (with_reducible repeat (first | apply rA | apply rN | apply rD)); exact HO_3.out⟩, ⟨by repeat (first | (with_reducible first | exact HB.out | apply bA | apply bN | apply bD) | exact HB.out)⟩⟩
    case round =>
     clear H'
     try clear c1
     try clear p1
     try clear q1
     try clear hx1
     try clear qi1
     try clear p2
     try clear c4
     try clear c4b0
     try clear c5
     try clear p6
     try clear hx172_0
     try clear hx172_1
     try clear hx172_2
     try clear hx172_3
     try clear p172
     try clear p2
     try clear q172
     obtain ⟨x3_2, x5_2, rfl, HA, HK2, HO_3, HB⟩ := hrel
     cases gk with
     | zero => exact absurd HA.out (by simp [spec_l07Far.l1])
     | succ k2 =>
      have H := HA.out
      clear HA
      simp only [spec_l07Far.l1] at H
      by_cases c7 : x5_2 < (l0_2.length : Int)
      ·rw [if_pos c7] at H
       have c7b0 : decide (x5_2 < (l0_2.length : Int)) = true := decide_eq_true c7
       clear c7
       by_cases c8 : 0 ≤ x5_2
       ·rw [if_pos c8] at H
        have c8b0 : decide (0 ≤ x5_2) = true := decide_eq_true c8
        clear c8
        by_cases c9 : 0 ≤ (rd l0_2 x5_2)
        ·rw [if_pos c9] at H
         have c9b0 : decide (0 ≤ (rd l0_2 x5_2)) = true := decide_eq_true c9
         clear c9
         by_cases c10 : (rd l0_2 x5_2) < (x3_2.length : Int)
         ·rw [if_pos c10] at H
          have c10b0 : decide ((rd l0_2 x5_2) < (x3_2.length : Int)) = true := decide_eq_true c10
          clear c10
          obtain ⟨y178, hy178⟩ : ∃ y_ : List Int, y_ = (x3_2.set ((rd l0_2 x5_2) : Int).toNat 0) := ⟨_, rfl⟩
          replace H : (spec_l07Far.l1 k2 y178 (wrap64 (x5_2 + 1)) a0_0 a0_1 l0_2 l0_3) = some r := by first | (rw [hy178]; with_reducible exact H) | (have H2_ := (Option.bind_some _ _).symm.trans H; rw [hy178]; with_reducible exact H2_) | (have H2_ := (Option.bind_some _ _).symm.trans H; with_reducible exact H2_) | with_reducible exact H | (rw [hy178]; exact H) | exact H
          have Ny178 := Aside0.mk hy178
          clear hy178
          have H' := Aside0.mk H
          clear H
          have p176 : 0 ≤ (0 : Int) := (by omega)
          have q176 : 0 < ([(⟨a0_0, a0_1, l0_2, l0_3⟩ : S30)].length : Int) := (by simp)
          obtain ⟨ad176, A176_2, c176_2, A176_3, c176_3, e176, hx176_0, hx176_1, hx176_2, hx176_3, hl176_2, hi176_2, hl176_3, hi176_3⟩ := at_T30 HRp0.out 0 p176 q176
          replace hx176_0 : _ = (some (.int .i64 a0_0) : Option Value) := hx176_0
          replace hx176_1 : _ = (some (.int .i64 a0_1) : Option Value) := hx176_1
          replace hx176_2 : _ = (some (.slice A176_2 l0_2.length c176_2) : Option Value) := hx176_2
          replace hi176_2 : Kd.C (Kd.int .i64) _ _ l0_2.length l0_2 := hi176_2
          replace hl176_2 : l0_2.length ≤ _ := hl176_2
          replace hx176_3 : _ = (some (.slice A176_3 l0_3.length c176_3) : Option Value) := hx176_3
          replace hi176_3 : Kd.C k67 _ _ l0_3.length l0_3 := hi176_3
          replace hl176_3 : l0_3.length ≤ _ := hl176_3
          obtain rfl : adp0 = ad176 := (by injection e176)
          have qi176 : (0 < [(⟨a0_0, a0_1, l0_2, l0_3⟩ : S30)].length) = True := eq_true (by simp)
          (try rw [show ((0 : Int)).toNat = 0 from rfl] at hx176_0)
          (try rw [show 0 * 4 = 0 from rfl] at hx176_0)
          (try rw [Addr.add_zero'] at hx176_0)
          (try rw [show ((0 : Int)).toNat = 0 from rfl] at hx176_1)
          (try rw [show 0 * 4 = 0 from rfl] at hx176_1)
          (try rw [Addr.add_zero'] at hx176_1)
          (try rw [show ((0 : Int)).toNat = 0 from rfl] at hx176_2)
          (try rw [show 0 * 4 = 0 from rfl] at hx176_2)
          (try rw [Addr.add_zero'] at hx176_2)
          (try rw [show ((0 : Int)).toNat = 0 from rfl] at hx176_3)
          (try rw [show 0 * 4 = 0 from rfl] at hx176_3)
          (try rw [Addr.add_zero'] at hx176_3)
          replace hx176_0 := (HB.out.cell (World.block_lt_of_cell? w _ hx176_0)).trans hx176_0
          replace hx176_1 := (HB.out.cell (World.block_lt_of_cell? w _ hx176_1)).trans hx176_1
          replace hx176_2 := (HB.out.cell (World.block_lt_of_cell? w _ hx176_2)).trans hx176_2
          replace hx176_3 := (HB.out.cell (World.block_lt_of_cell? w _ hx176_3)).trans hx176_3
          have HR176_2 := Aside0.mk hi176_2
          have HC176_2 := Aside0.mk hl176_2
          clear hi176_2 hl176_2
          have HR176_3 := Aside0.mk hi176_3
          have HC176_3 := Aside0.mk hl176_3
          clear hi176_3 hl176_3
          replace p176 := eq_true p176
          replace q176 := eq_true q176
          have p177 : 0 ≤ (x5_2 : Int) := of_decide_eq_true (by first | (with_reducible assumption) | assumption)
          have q177 : x5_2 < (l0_2.length : Int) := of_decide_eq_true (by first | (with_reducible assumption) | assumption)
          obtain ⟨ad177, e177, hx177_0⟩ := Kd.at_int HR176_2.out x5_2 p177 q177
          cases e177
          replace hx177_0 := (HB.out.cell (World.block_lt_of_cell? w _ hx177_0)).trans hx177_0
          replace p177 := eq_true p177
          replace q177 := eq_true q177
          have p11 : 0 ≤ ((rd l0_2 x5_2) : Int) := of_decide_eq_true (by first | (with_reducible assumption) | assumption)
          have q11 : ((rd l0_2 x5_2) : Int) < ((x3_2.length : Int) : Int) := of_decide_eq_true (by first | (with_reducible assumption) | assumption)
          obtain ⟨go11, co11, eo11, gb11, gl11, cl11, HG11⟩ := Kd.R_form HO_3.out (by omega)
          (first | cases eo11 | (injection eo11 with ea_ en_ ec_; (first | subst ea_ | (injection ea_ with ea_; subst ea_)); subst ec_; clear en_))
          have GB11 := Aside0.mk gb11
          have GG11 := Aside0.mk HG11
          clear gb11 gl11 HG11
          obtain ⟨hx11_0, hf11_0⟩ := Kd.R_celln 0 HO_3.out ((rd l0_2 x5_2) : Int) p11 q11
          replace p11 := eq_true p11
          replace q11 := eq_true q11
          have HP12 := Kd.R_putg HO_3.out ((rd l0_2 x5_2) : Int) 0
          go_wp2_with (first | ((with_reducible refine gate_store (t := 2) (p := 38) rfl ?_); refine store_event (t := 2) (p := 38) (v := ?vo_w13) (w1 := (wr.setCell ⟨go11, ((rd l0_2 x5_2) : Int).toNat, none⟩ (.int .i64 0))) ?hg ?ho ?hn ?hr ?_; (case ho => rfl); (case hg => rfl); (case hn => rfl); (case hr => first | (go_simp; done) | (go_simp; rfl)); intro w13 hw; have hg : wr.grownBy w13 (some go11) := (by rw [hw]; exact HP12.2); have hp_ : Kd.R (Kd.int .i64) 2 w13 w.heap.size (fun _ => True) (.slice (some ⟨go11, 0, none⟩) x3_2.length co11) y178 := (by rw [hw, Ny178.out]; exact HP12.1); clear HP12; have n0_ := Aside0.mk (hp_); have n1_ := Aside0.mk ((by rw [hw]; exact bS (HB.out) GB11.out : Below w.heap.size w w13)); clear HO_3; clear HB; have HO_3 := n0_; have HB := n1_; clear n0_ n1_; clear hg hw hp_))
          go_roundg k2
          case measure => have := HK1.out; have := HK2.out; omega
          case rel => exact ⟨(y178), (wrap64 (x5_2 + 1)), (by first | rfl | (simp; done) | (simp [*]; done)), H', ⟨by have := HK1.out; have := HK2.out; omega⟩, ⟨by (with_reducible repeat (first | apply rA | apply rN | apply rD)); exact HO_3.out⟩, ⟨by repeat (first | (with_reducible first | exact HB.out | apply bA | apply bN | apply bD) | exact HB.out)⟩⟩
         ·rw [if_neg c10] at H
          exact absurd H (by simp)
        ·rw [if_neg c9] at H
         exact absurd H (by simp)
       ·rw [if_neg c8] at H
        exact absurd H (by simp)
      ·rw [if_neg c7] at H
       have c7b0 : decide (x5_2 < (l0_2.length : Int)) = false := decide_eq_false c7
       clear c7
       have H' := Aside0.mk H
       clear H
       have p176 : 0 ≤ (0 : Int) := (by omega)
       have q176 : 0 < ([(⟨a0_0, a0_1, l0_2, l0_3⟩ : S30)].length : Int) := (by simp)
       obtain ⟨ad176, A176_2, c176_2, A176_3, c176_3, e176, hx176_0, hx176_1, hx176_2, hx176_3, hl176_2, hi176_2, hl176_3, hi176_3⟩ := at_T30 HRp0.out 0 p176 q176
       replace hx176_0 : _ = (some (.int .i64 a0_0) : Option Value) := hx176_0
       replace hx176_1 : _ = (some (.int .i64 a0_1) : Option Value) := hx176_1
       replace hx176_2 : _ = (some (.slice A176_2 l0_2.length c176_2) : Option Value) := hx176_2
       replace hi176_2 : Kd.C (Kd.int .i64) _ _ l0_2.length l0_2 := hi176_2
       replace hl176_2 : l0_2.length ≤ _ := hl176_2
       replace hx176_3 : _ = (some (.slice A176_3 l0_3.length c176_3) : Option Value) := hx176_3
       replace hi176_3 : Kd.C k67 _ _ l0_3.length l0_3 := hi176_3
       replace hl176_3 : l0_3.length ≤ _ := hl176_3
       obtain rfl : adp0 = ad176 := (by injection e176)
       have qi176 : (0 < [(⟨a0_0, a0_1, l0_2, l0_3⟩ : S30)].length) = True := eq_true (by simp)
       (try rw [show ((0 : Int)).toNat = 0 from rfl] at hx176_0)
       (try rw [show 0 * 4 = 0 from rfl] at hx176_0)
       (try rw [Addr.add_zero'] at hx176_0)
       (try rw [show ((0 : Int)).toNat = 0 from rfl] at hx176_1)
       (try rw [show 0 * 4 = 0 from rfl] at hx176_1)
       (try rw [Addr.add_zero'] at hx176_1)
       (try rw [show ((0 : Int)).toNat = 0 from rfl] at hx176_2)
       (try rw [show 0 * 4 = 0 from rfl] at hx176_2)
       (try rw [Addr.add_zero'] at hx176_2)
       (try rw [show ((0 : Int)).toNat = 0 from rfl] at hx176_3)
       (try rw [show 0 * 4 = 0 from rfl] at hx176_3)
       (try rw [Addr.add_zero'] at hx176_3)
       replace hx176_0 := (HB.out.cell (World.block_lt_of_cell? w _ hx176_0)).trans hx176_0
       replace hx176_1 := (HB.out.cell (World.block_lt_of_cell? w _ hx176_1)).trans hx176_1
       replace hx176_2 := (HB.out.cell (World.block_lt_of_cell? w _ hx176_2)).trans hx176_2
       replace hx176_3 := (HB.out.cell (World.block_lt_of_cell? w _ hx176_3)).trans hx176_3
       have HR176_2 := Aside0.mk hi176_2
       have HC176_2 := Aside0.mk hl176_2
       clear hi176_2 hl176_2
       have HR176_3 := Aside0.mk hi176_3
       have HC176_3 := Aside0.mk hl176_3
       clear hi176_3 hl176_3
       replace p176 := eq_true p176
       replace q176 := eq_true q176
       go_wp2
       go_loopg [6] k2 (fun kq v6 w' => ∃ (x3_3 : List Int) (x6_3 : Int), v6 = .int .i64 x6_3 ∧ Aside0 (spec_l07Far.l2 kq x3_3 x6_3 a0_0 a0_1 l0_2 l0_3 = some r) ∧ Aside0 (kq ≤ k2) ∧ Aside0 (Kd.R (Kd.int .i64) 2 w' w.heap.size (fun _ => True) u3 x3_3) ∧ Aside0 (Below w.heap.size w w'))
       case atStart => exact ⟨(x3_2), (0), (by first | rfl | (simp; done) | (simp [*]; done)), H', ⟨Nat.le_refl _⟩, ⟨by (with_reducible repeat (first | apply rA | apply rN | apply rD)); exact HO_3.out⟩, ⟨by repeat (first | (with_reducible first | exact HB.out | apply bA | apply bN | apply bD) | exact HB.out)⟩⟩
       case round =>
        clear H'
        try clear c1
        try clear p1
        try clear q1
        try clear hx1
        try clear qi1
        try clear hf1
        try clear p2
        try clear c4
        try clear c4b0
        try clear c5
        try clear p6
        try clear c7
        try clear c7b0
        try clear c8
        try clear c8b0
        try clear c9
        try clear c9b0
        try clear c10
        try clear c10b0
        try clear p11
        try clear q11
        try clear hx11
        try clear hf11
        try clear hx11_0
        try clear hx172_0
        try clear hx172_1
        try clear hx172_2
        try clear hx172_3
        try clear hx176_0
        try clear hx176_1
        try clear hx176_2
        try clear hx176_3
        try clear hx177_0
        try clear p1
        try clear p11
        try clear p172
        try clear p176
        try clear p177
        try clear p2
        try clear p6
        try clear q1
        try clear q11
        try clear q172
        try clear q176
        try clear q177
        obtain ⟨x3_3, x6_3, rfl, HA, HK3, HO_3, HB⟩ := hrel
        cases gk with
        | zero => exact absurd HA.out (by simp [spec_l07Far.l2])
        | succ k3 =>
         have H := HA.out
         clear HA
         simp only [spec_l07Far.l2] at H
         by_cases c14 : x6_3 < a0_0
         ·rw [if_pos c14] at H
          have c14b0 : decide (x6_3 < a0_0) = true := decide_eq_true c14
          clear c14
          have H' := Aside0.mk H
          clear H
          have p179 : 0 ≤ (0 : Int) := (by omega)
          have q179 : 0 < ([(⟨a0_0, a0_1, l0_2, l0_3⟩ : S30)].length : Int) := (by simp)
          obtain ⟨ad179, A179_2, c179_2, A179_3, c179_3, e179, hx179_0, hx179_1, hx179_2, hx179_3, hl179_2, hi179_2, hl179_3, hi179_3⟩ := at_T30 HRp0.out 0 p179 q179
          replace hx179_0 : _ = (some (.int .i64 a0_0) : Option Value) := hx179_0
          replace hx179_1 : _ = (some (.int .i64 a0_1) : Option Value) := hx179_1
          replace hx179_2 : _ = (some (.slice A179_2 l0_2.length c179_2) : Option Value) := hx179_2
          replace hi179_2 : Kd.C (Kd.int .i64) _ _ l0_2.length l0_2 := hi179_2
          replace hl179_2 : l0_2.length ≤ _ := hl179_2
          replace hx179_3 : _ = (some (.slice A179_3 l0_3.length c179_3) : Option Value) := hx179_3
          replace hi179_3 : Kd.C k67 _ _ l0_3.length l0_3 := hi179_3
          replace hl179_3 : l0_3.length ≤ _ := hl179_3
          obtain rfl : adp0 = ad179 := (by injection e179)
          have qi179 : (0 < [(⟨a0_0, a0_1, l0_2, l0_3⟩ : S30)].length) = True := eq_true (by simp)
          (try rw [show ((0 : Int)).toNat = 0 from rfl] at hx179_0)
          (try rw [show 0 * 4 = 0 from rfl] at hx179_0)
          (try rw [Addr.add_zero'] at hx179_0)
          (try rw [show ((0 : Int)).toNat = 0 from rfl] at hx179_1)
          (try rw [show 0 * 4 = 0 from rfl] at hx179_1)
          (try rw [Addr.add_zero'] at hx179_1)
          (try rw [show ((0 : Int)).toNat = 0 from rfl] at hx179_2)
          (try rw [show 0 * 4 = 0 from rfl] at hx179_2)
          (try rw [Addr.add_zero'] at hx179_2)
          (try rw [show ((0 : Int)).toNat = 0 from rfl] at hx179_3)
          (try rw [show 0 * 4 = 0 from rfl] at hx179_3)
          (try rw [Addr.add_zero'] at hx179_3)
          replace hx179_0 := (HB.out.cell (World.block_lt_of_cell? w _ hx179_0)).trans hx179_0
          replace hx179_1 := (HB.out.cell (World.block_lt_of_cell? w _ hx179_1)).trans hx179_1
          replace hx179_2 := (HB.out.cell (World.block_lt_of_cell? w _ hx179_2)).trans hx179_2
          replace hx179_3 := (HB.out.cell (World.block_lt_of_cell? w _ hx179_3)).trans hx179_3
          have HR179_2 := Aside0.mk hi179_2
          have HC179_2 := Aside0.mk hl179_2
          clear hi179_2 hl179_2
          have HR179_3 := Aside0.mk hi179_3
          have HC179_3 := Aside0.mk hl179_3
          clear hi179_3 hl179_3
          replace p179 := eq_true p179
          replace q179 := eq_true q179
          go_wp2
          go_loopg [7] k3 (fun kq v7 w' => ∃ (x3_4 : List Int) (x7_4 : Int), v7 = .int .i64 x7_4 ∧ Aside0 (spec_l07Far.l3 kq x3_4 x6_3 x7_4 a0_0 a0_1 l0_2 l0_3 = some r) ∧ Aside0 (kq ≤ k3) ∧ Aside0 (Kd.R (Kd.int .i64) 2 w' w.heap.size (fun _ => True) u3 x3_4) ∧ Aside0 (Below w.heap.size w w'))
          case atStart => exact ⟨(x3_3), (0), (by first | rfl | (simp; done) | (simp [*]; done)), H', ⟨Nat.le_refl _⟩, ⟨by (with_reducible repeat (first | apply rA | apply rN | apply rD)); exact HO_3.out⟩, ⟨by repeat (first | (with_reducible first | exact HB.out | apply bA | apply bN | apply bD) | exact HB.out)⟩⟩
          case round =>
           clear H'
           try clear c1
           try clear p1
           try clear q1
           try clear hx1
           try clear qi1
           try clear hf1
           try clear p2
           try clear c4
           try clear c4b0
           try clear c5
           try clear p6
           try clear c7
           try clear c7b0
           try clear c8
           try clear c8b0
           try clear c9
           try clear c9b0
           try clear c10
           try clear c10b0
           try clear p11
           try clear q11
           try clear hx11
           try clear hf11
           try clear c14
           try clear c14b0
           try clear hx11_0
           try clear hx172_0
           try clear hx172_1
           try clear hx172_2
           try clear hx172_3
           try clear hx176_0
           try clear hx176_1
           try clear hx176_2
           try clear hx176_3
           try clear hx177_0
           try clear hx179_0
           try clear hx179_1
           try clear hx179_2
           try clear hx179_3
           try clear p1
           try clear p11
           try clear p172
           try clear p176
           try clear p177
           try clear p179
           try clear p2
           try clear p6
           try clear q1
           try clear q11
           try clear q172
           try clear q176
           try clear q177
           try clear q179
           obtain ⟨x3_4, x7_4, rfl, HA, HK4, HO_3, HB⟩ := hrel
           cases gk with
           | zero => exact absurd HA.out (by simp [spec_l07Far.l3])
           | succ k4 =>
            have H := HA.out
            clear HA
            simp only [spec_l07Far.l3] at H
            by_cases c15 : x7_4 < (l0_3.length : Int)
            ·rw [if_pos c15] at H
             have c15b0 : decide (x7_4 < (l0_3.length : Int)) = true := decide_eq_true c15
             clear c15
             by_cases c16 : 0 ≤ x7_4
             ·rw [if_pos c16] at H
              have c16b0 : decide (0 ≤ x7_4) = true := decide_eq_true c16
              clear c16
              by_cases c17 : 0 ≤ ((rd_T67 l0_3 x7_4).f2)
              ·rw [if_pos c17] at H
               have c17b0 : decide (0 ≤ ((rd_T67 l0_3 x7_4).f2)) = true := decide_eq_true c17
               clear c17
               by_cases c18 : ((rd_T67 l0_3 x7_4).f2) < (x3_4.length : Int)
               ·rw [if_pos c18] at H
                have c18b0 : decide (((rd_T67 l0_3 x7_4).f2) < (x3_4.length : Int)) = true := decide_eq_true c18
                clear c18
                by_cases c19 : (rd x3_4 ((rd_T67 l0_3 x7_4).f2)) ≥ 0
                ·rw [if_pos c19] at H
                 have c19b0 : decide (0 ≤ (rd x3_4 ((rd_T67 l0_3 x7_4).f2))) = true := decide_eq_true c19
                 clear c19
                 by_cases c20 : 0 ≤ ((rd_T67 l0_3 x7_4).f0)
                 ·rw [if_pos c20] at H
                  have c20b0 : decide (0 ≤ ((rd_T67 l0_3 x7_4).f0)) = true := decide_eq_true c20
                  clear c20
                  by_cases c21 : ((rd_T67 l0_3 x7_4).f0) < (x3_4.length : Int)
                  ·rw [if_pos c21] at H
                   have c21b0 : decide (((rd_T67 l0_3 x7_4).f0) < (x3_4.length : Int)) = true := decide_eq_true c21
                   clear c21
                   by_cases c22 : (rd x3_4 ((rd_T67 l0_3 x7_4).f0)) < 0
                   ·rw [if_pos c22] at H
                    have c22b0 : decide ((rd x3_4 ((rd_T67 l0_3 x7_4).f0)) < 0) = true := decide_eq_true c22
                    clear c22
                    obtain ⟨y186, hy186⟩ : ∃ y_ : List Int, y_ = (x3_4.set (((rd_T67 l0_3 x7_4).f0) : Int).toNat (wrap64 ((rd x3_4 ((rd_T67 l0_3 x7_4).f2)) + 1))) := ⟨_, rfl⟩
                    replace H : (spec_l07Far.l3 k4 y186 x6_3 (wrap64 (x7_4 + 1)) a0_0 a0_1 l0_2 l0_3) = some r := by first | (rw [hy186]; with_reducible exact H) | (have H2_ := (Option.bind_some _ _).symm.trans H; rw [hy186]; with_reducible exact H2_) | (have H2_ := (Option.bind_some _ _).symm.trans H; with_reducible exact H2_) | with_reducible exact H | (rw [hy186]; exact H) | exact H
                    have Ny186 := Aside0.mk hy186
                    clear hy186
                    have H' := Aside0.mk H
                    clear H
                    have p180 : 0 ≤ (0 : Int) := (by omega)
                    have q180 : 0 < ([(⟨a0_0, a0_1, l0_2, l0_3⟩ : S30)].length : Int) := (by simp)
                    obtain ⟨ad180, A180_2, c180_2, A180_3, c180_3, e180, hx180_0, hx180_1, hx180_2, hx180_3, hl180_2, hi180_2, hl180_3, hi180_3⟩ := at_T30 HRp0.out 0 p180 q180
                    replace hx180_0 : _ = (some (.int .i64 a0_0) : Option Value) := hx180_0
                    replace hx180_1 : _ = (some (.int .i64 a0_1) : Option Value) := hx180_1
                    replace hx180_2 : _ = (some (.slice A180_2 l0_2.length c180_2) : Option Value) := hx180_2
                    replace hi180_2 : Kd.C (Kd.int .i64) _ _ l0_2.length l0_2 := hi180_2
                    replace hl180_2 : l0_2.length ≤ _ := hl180_2
                    replace hx180_3 : _ = (some (.slice A180_3 l0_3.length c180_3) : Option Value) := hx180_3
                    replace hi180_3 : Kd.C k67 _ _ l0_3.length l0_3 := hi180_3
                    replace hl180_3 : l0_3.length ≤ _ := hl180_3
                    obtain rfl : adp0 = ad180 := (by injection e180)
                    have qi180 : (0 < [(⟨a0_0, a0_1, l0_2, l0_3⟩ : S30)].length) = True := eq_true (by simp)
                    (try rw [show ((0 : Int)).toNat = 0 from rfl] at hx180_0)
                    (try rw [show 0 * 4 = 0 from rfl] at hx180_0)
                    (try rw [Addr.add_zero'] at hx180_0)
                    (try rw [show ((0 : Int)).toNat = 0 from rfl] at hx180_1)
                    (try rw [show 0 * 4 = 0 from rfl] at hx180_1)
                    (try rw [Addr.add_zero'] at hx180_1)
                    (try rw [show ((0 : Int)).toNat = 0 from rfl] at hx180_2)
                    (try rw [show 0 * 4 = 0 from rfl] at hx180_2)
                    (try rw [Addr.add_zero'] at hx180_2)
                    (try rw [show ((0 : Int)).toNat = 0 from rfl] at hx180_3)
                    (try rw [show 0 * 4 = 0 from rfl] at hx180_3)
                    (try rw [Addr.add_zero'] at hx180_3)
                    replace hx180_0 := (HB.out.cell (World.block_lt_of_cell? w _ hx180_0)).trans hx180_0
                    replace hx180_1 := (HB.out.cell (World.block_lt_of_cell? w _ hx180_1)).trans hx180_1
                    replace hx180_2 := (HB.out.cell (World.block_lt_of_cell? w _ hx180_2)).trans hx180_2
                    replace hx180_3 := (HB.out.cell (World.block_lt_of_cell? w _ hx180_3)).trans hx180_3
                    have HR180_2 := Aside0.mk hi180_2
                    have HC180_2 := Aside0.mk hl180_2
                    clear hi180_2 hl180_2
                    have HR180_3 := Aside0.mk hi180_3
                    have HC180_3 := Aside0.mk hl180_3
                    clear hi180_3 hl180_3
                    replace p180 := eq_true p180
                    replace q180 := eq_true q180
                    have p181 : 0 ≤ (x7_4 : Int) := of_decide_eq_true (by first | (with_reducible assumption) | assumption)
                    have q181 : x7_4 < (l0_3.length : Int) := of_decide_eq_true (by first | (with_reducible assumption) | assumption)
                    obtain ⟨ad181, e181, hx181_0, hx181_1, hx181_2⟩ := at_T67 HR180_3.out x7_4 p181 q181
                    cases e181
                    replace hx181_0 := (HB.out.cell (World.block_lt_of_cell? w _ hx181_0)).trans hx181_0
                    replace hx181_1 := (HB.out.cell (World.block_lt_of_cell? w _ hx181_1)).trans hx181_1
                    replace hx181_2 := (HB.out.cell (World.block_lt_of_cell? w _ hx181_2)).trans hx181_2
                    replace p181 := eq_true p181
                    replace q181 := eq_true q181
                    obtain ⟨Ao24, co24, eo24⟩ := Kd.R_slice HO_3.out
                    subst eo24
                    have p182 : 0 ≤ (((rd_T67 l0_3 x7_4).f2) : Int) := of_decide_eq_true (by first | (with_reducible assumption) | assumption)
                    have q182 : ((rd_T67 l0_3 x7_4).f2) < (x3_4.length : Int) := of_decide_eq_true (by first | (with_reducible assumption) | assumption)
                    obtain ⟨ad182, e182, hx182_0⟩ := Kd.at_int (Kd.R_reads' HO_3.out).2.2 ((rd_T67 l0_3 x7_4).f2) p182 q182
                    cases e182
                    replace p182 := eq_true p182
                    replace q182 := eq_true q182
                    have p183 : 0 ≤ (x7_4 : Int) := of_decide_eq_true (by first | (with_reducible assumption) | assumption)
                    have q183 : x7_4 < (l0_3.length : Int) := of_decide_eq_true (by first | (with_reducible assumption) | assumption)
                    obtain ⟨ad183, e183, hx183_0, hx183_1, hx183_2⟩ := at_T67 HR180_3.out x7_4 p183 q183
                    obtain rfl : ad181 = ad183 := (by injection e183)
                    replace hx183_0 := (HB.out.cell (World.block_lt_of_cell? w _ hx183_0)).trans hx183_0
                    replace hx183_1 := (HB.out.cell (World.block_lt_of_cell? w _ hx183_1)).trans hx183_1
                    replace hx183_2 := (HB.out.cell (World.block_lt_of_cell? w _ hx183_2)).trans hx183_2
                    replace p183 := eq_true p183
                    replace q183 := eq_true q183
                    have p184 : 0 ≤ (((rd_T67 l0_3 x7_4).f0) : Int) := of_decide_eq_true (by first | (with_reducible assumption) | assumption)
                    have q184 : ((rd_T67 l0_3 x7_4).f0) < (x3_4.length : Int) := of_decide_eq_true (by first | (with_reducible assumption) | assumption)
                    obtain ⟨ad184, e184, hx184_0⟩ := Kd.at_int (Kd.R_reads' HO_3.out).2.2 ((rd_T67 l0_3 x7_4).f0) p184 q184
                    obtain rfl : ad182 = ad184 := (by injection e184)
                    replace p184 := eq_true p184
                    replace q184 := eq_true q184
                    have p185 : 0 ≤ (x7_4 : Int) := of_decide_eq_true (by first | (with_reducible assumption) | assumption)
                    have q185 : x7_4 < (l0_3.length : Int) := of_decide_eq_true (by first | (with_reducible assumption) | assumption)
                    obtain ⟨ad185, e185, hx185_0, hx185_1, hx185_2⟩ := at_T67 HR180_3.out x7_4 p185 q185
                    obtain rfl : ad181 = ad185 := (by injection e185)
                    replace hx185_0 := (HB.out.cell (World.block_lt_of_cell? w _ hx185_0)).trans hx185_0
                    replace hx185_1 := (HB.out.cell (World.block_lt_of_cell? w _ hx185_1)).trans hx185_1
                    replace hx185_2 := (HB.out.cell (World.block_lt_of_cell? w _ hx185_2)).trans hx185_2
                    replace p185 := eq_true p185
                    replace q185 := eq_true q185
                    have p23 : 0 ≤ (((rd_T67 l0_3 x7_4).f0) : Int) := of_decide_eq_true (by first | (with_reducible assumption) | assumption)
                    have q23 : (((rd_T67 l0_3 x7_4).f0) : Int) < ((x3_4.length : Int) : Int) := of_decide_eq_true (by first | (with_reducible assumption) | assumption)
                    obtain ⟨go23, co23, eo23, gb23, gl23, cl23, HG23⟩ := Kd.R_form HO_3.out (by omega)
                    (first | cases eo23 | (injection eo23 with ea_ en_ ec_; (first | subst ea_ | (injection ea_ with ea_; subst ea_)); subst ec_; clear en_))
                    have GB23 := Aside0.mk gb23
                    have GG23 := Aside0.mk HG23
                    clear gb23 gl23 HG23
                    (first | simp only [add_plain] at hx182_0 | skip)
                    (first | simp only [add_plain] at hx184_0 | skip)
                    obtain ⟨hx23_0, hf23_0⟩ := Kd.R_celln 0 HO_3.out (((rd_T67 l0_3 x7_4).f0) : Int) p23 q23
                    replace p23 := eq_true p23
                    replace q23 := eq_true q23
                    have HP25 := Kd.R_putg HO_3.out (((rd_T67 l0_3 x7_4).f0) : Int) (wrap64 ((rd x3_4 ((rd_T67 l0_3 x7_4).f2)) + 1))
                    go_wp2_with (first | ((with_reducible refine gate_store (t := 2) (p := 110) rfl ?_); refine store_event (t := 2) (p := 110) (v := ?vo_w26) (w1 := (wr.setCell ⟨go23, (((rd_T67 l0_3 x7_4).f0) : Int).toNat, none⟩ (.int .i64 (wrap64 ((rd x3_4 ((rd_T67 l0_3 x7_4).f2)) + 1))))) ?hg ?ho ?hn ?hr ?_; (case ho => rfl); (case hg => rfl); (case hn => rfl); (case hr => first | (go_simp; done) | (go_simp; rfl)); intro w26 hw; have hg : wr.grownBy w26 (some go23) := (by rw [hw]; exact HP25.2); have hp_ : Kd.R (Kd.int .i64) 2 w26 w.heap.size (fun _ => True) (.slice (some ⟨go23, 0, none⟩) x3_4.length co24) y186 := (by rw [hw, Ny186.out]; exact HP25.1); clear HP25; have n0_ := Aside0.mk (hp_); have n1_ := Aside0.mk ((by rw [hw]; exact bS (HB.out) GB23.out : Below w.heap.size w w26)); clear HO_3; clear HB; have HO_3 := n0_; have HB := n1_; clear n0_ n1_; clear hg hw hp_))
                    go_roundg k4
                    case measure => have := HK1.out; have := HK2.out; have := HK3.out; have := HK4.out; omega
                    case rel => exact ⟨(y186), (wrap64 (x7_4 + 1)), (by first | rfl | (simp; done) | (simp [*]; done)), H', ⟨by have := HK1.out; have := HK2.out; have := HK3.out; have := HK4.out; omega⟩, ⟨by (with_reducible repeat (first | apply rA | apply rN | apply rD)); exact HO_3.out⟩, ⟨by repeat (first | (with_reducible first | exact HB.out | apply bA | apply bN | apply bD) | exact HB.out)⟩⟩
                   ·rw [if_neg c22] at H
                    have c22b0 : decide ((rd x3_4 ((rd_T67 l0_3 x7_4).f0)) < 0) = false := decide_eq_false c22
                    clear c22
                    by_cases c27 : (rd x3_4 ((rd_T67 l0_3 x7_4).f0)) > (wrap64 ((rd x3_4 ((rd_T67 l0_3 x7_4).f2)) + 1))
                    ·rw [if_pos c27] at H
                     have c27b0 : decide ((wrap64 ((rd x3_4 ((rd_T67 l0_3 x7_4).f2)) + 1)) < (rd x3_4 ((rd_T67 l0_3 x7_4).f0))) = true := decide_eq_true c27
                     clear c27
                     obtain ⟨y190, hy190⟩ : ∃ y_ : List Int, y_ = (x3_4.set (((rd_T67 l0_3 x7_4).f0) : Int).toNat (wrap64 ((rd x3_4 ((rd_T67 l0_3 x7_4).f2)) + 1))) := ⟨_, rfl⟩
                     replace H : (spec_l07Far.l3 k4 y190 x6_3 (wrap64 (x7_4 + 1)) a0_0 a0_1 l0_2 l0_3) = some r := by first | (rw [hy190]; with_reducible exact H) | (have H2_ := (Option.bind_some _ _).symm.trans H; rw [hy190]; with_reducible exact H2_) | (have H2_ := (Option.bind_some _ _).symm.trans H; with_reducible exact H2_) | with_reducible exact H | (rw [hy190]; exact H) | exact H
                     have Ny190 := Aside0.mk hy190
                     clear hy190
                     have H' := Aside0.mk H
                     clear H
                     have p180 : 0 ≤ (0 : Int) := (by omega)
                     have q180 : 0 < ([(⟨a0_0, a0_1, l0_2, l0_3⟩ : S30)].length : Int) := (by simp)
                     obtain ⟨ad180, A180_2, c180_2, A180_3, c180_3, e180, hx180_0, hx180_1, hx180_2, hx180_3, hl180_2, hi180_2, hl180_3, hi180_3⟩ := at_T30 HRp0.out 0 p180 q180
                     replace hx180_0 : _ = (some (.int .i64 a0_0) : Option Value) := hx180_0
                     replace hx180_1 : _ = (some (.int .i64 a0_1) : Option Value) := hx180_1
                     replace hx180_2 : _ = (some (.slice A180_2 l0_2.length c180_2) : Option Value) := hx180_2
                     replace hi180_2 : Kd.C (Kd.int .i64) _ _ l0_2.length l0_2 := hi180_2
                     replace hl180_2 : l0_2.length ≤ _ := hl180_2
                     replace hx180_3 : _ = (some (.slice A180_3 l0_3.length c180_3) : Option Value) := hx180_3
                     replace hi180_3 : Kd.C k67 _ _ l0_3.length l0_3 := hi180_3
                     replace hl180_3 : l0_3.length ≤ _ := hl180_3
                     obtain rfl : adp0 = ad180 := (by injection e180)
                     have qi180 : (0 < [(⟨a0_0, a0_1, l0_2, l0_3⟩ : S30)].length) = True := eq_true (by simp)
                     (try rw [show ((0 : Int)).toNat = 0 from rfl] at hx180_0)
                     (try rw [show 0 * 4 = 0 from rfl] at hx180_0)
                     (try rw [Addr.add_zero'] at hx180_0)
                     (try rw [show ((0 : Int)).toNat = 0 from rfl] at hx180_1)
                     (try rw [show 0 * 4 = 0 from rfl] at hx180_1)
                     (try rw [Addr.add_zero'] at hx180_1)
                     (try rw [show ((0 : Int)).toNat = 0 from rfl] at hx180_2)
                     (try rw [show 0 * 4 = 0 from rfl] at hx180_2)
                     (try rw [Addr.add_zero'] at hx180_2)
                     (try rw [show ((0 : Int)).toNat = 0 from rfl] at hx180_3)
                     (try rw [show 0 * 4 = 0 from rfl] at hx180_3)
                     (try rw [Addr.add_zero'] at hx180_3)
                     replace hx180_0 := (HB.out.cell (World.block_lt_of_cell? w _ hx180_0)).trans hx180_0
                     replace hx180_1 := (HB.out.cell (World.block_lt_of_cell? w _ hx180_1)).trans hx180_1
                     replace hx180_2 := (HB.out.cell (World.block_lt_of_cell? w _ hx180_2)).trans hx180_2
                     replace hx180_3 := (HB.out.cell (World.block_lt_of_cell? w _ hx180_3)).trans hx180_3
                     have HR180_2 := Aside0.mk hi180_2
                     have HC180_2 := Aside0.mk hl180_2
                     clear hi180_2 hl180_2
                     have HR180_3 := Aside0.mk hi180_3
                     have HC180_3 := Aside0.mk hl180_3
                     clear hi180_3 hl180_3
                     replace p180 := eq_true p180
                     replace q180 := eq_true q180
                     have p181 : 0 ≤ (x7_4 : Int) := of_decide_eq_true (by first | (with_reducible assumption) | assumption)
                     have q181 : x7_4 < (l0_3.length : Int) := of_decide_eq_true (by first | (with_reducible assumption) | assumption)
                     obtain ⟨ad181, e181, hx181_0, hx181_1, hx181_2⟩ := at_T67 HR180_3.out x7_4 p181 q181
                     cases e181
                     replace hx181_0 := (HB.out.cell (World.block_lt_of_cell? w _ hx181_0)).trans hx181_0
                     replace hx181_1 := (HB.out.cell (World.block_lt_of_cell? w _ hx181_1)).trans hx181_1
                     replace hx181_2 := (HB.out.cell (World.block_lt_of_cell? w _ hx181_2)).trans hx181_2
                     replace p181 := eq_true p181
                     replace q181 := eq_true q181
                     obtain ⟨Ao29, co29, eo29⟩ := Kd.R_slice HO_3.out
                     subst eo29
                     have p182 : 0 ≤ (((rd_T67 l0_3 x7_4).f2) : Int) := of_decide_eq_true (by first | (with_reducible assumption) | assumption)
                     have q182 : ((rd_T67 l0_3 x7_4).f2) < (x3_4.length : Int) := of_decide_eq_true (by first | (with_reducible assumption) | assumption)
                     obtain ⟨ad182, e182, hx182_0⟩ := Kd.at_int (Kd.R_reads' HO_3.out).2.2 ((rd_T67 l0_3 x7_4).f2) p182 q182
                     cases e182
                     replace p182 := eq_true p182
                     replace q182 := eq_true q182
                     have p183 : 0 ≤ (x7_4 : Int) := of_decide_eq_true (by first | (with_reducible assumption) | assumption)
                     have q183 : x7_4 < (l0_3.length : Int) := of_decide_eq_true (by first | (with_reducible assumption) | assumption)
                     obtain ⟨ad183, e183, hx183_0, hx183_1, hx183_2⟩ := at_T67 HR180_3.out x7_4 p183 q183
                     obtain rfl : ad181 = ad183 := (by injection e183)
                     replace hx183_0 := (HB.out.cell (World.block_lt_of_cell? w _ hx183_0)).trans hx183_0
                     replace hx183_1 := (HB.out.cell (World.block_lt_of_cell? w _ hx183_1)).trans hx183_1
                     replace hx183_2 := (HB.out.cell (World.block_lt_of_cell? w _ hx183_2)).trans hx183_2
                     replace p183 := eq_true p183
                     replace q183 := eq_true q183
                     have p184 : 0 ≤ (((rd_T67 l0_3 x7_4).f0) : Int) := of_decide_eq_true (by first | (with_reducible assumption) | assumption)
                     have q184 : ((rd_T67 l0_3 x7_4).f0) < (x3_4.length : Int) := of_decide_eq_true (by first | (with_reducible assumption) | assumption)
                     obtain ⟨ad184, e184, hx184_0⟩ := Kd.at_int (Kd.R_reads' HO_3.out).2.2 ((rd_T67 l0_3 x7_4).f0) p184 q184
                     obtain rfl : ad182 = ad184 := (by injection e184)
                     replace p184 := eq_true p184
                     replace q184 := eq_true q184
                     have p187 : 0 ≤ (x7_4 : Int) := of_decide_eq_true (by first | (with_reducible assumption) | assumption)
                     have q187 : x7_4 < (l0_3.length : Int) := of_decide_eq_true (by first | (with_reducible assumption) | assumption)
                     obtain ⟨ad187, e187, hx187_0, hx187_1, hx187_2⟩ := at_T67 HR180_3.out x7_4 p187 q187
                     obtain rfl : ad181 = ad187 := (by injection e187)
                     replace hx187_0 := (HB.out.cell (World.block_lt_of_cell? w _ hx187_0)).trans hx187_0
                     replace hx187_1 := (HB.out.cell (World.block_lt_of_cell? w _ hx187_1)).trans hx187_1
                     replace hx187_2 := (HB.out.cell (World.block_lt_of_cell? w _ hx187_2)).trans hx187_2
                     replace p187 := eq_true p187
                     replace q187 := eq_true q187
                     have p188 : 0 ≤ (((rd_T67 l0_3 x7_4).f0) : Int) := of_decide_eq_true (by first | (with_reducible assumption) | assumption)
                     have q188 : ((rd_T67 l0_3 x7_4).f0) < (x3_4.length : Int) := of_decide_eq_true (by first | (with_reducible assumption) | assumption)
                     obtain ⟨ad188, e188, hx188_0⟩ := Kd.at_int (Kd.R_reads' HO_3.out).2.2 ((rd_T67 l0_3 x7_4).f0) p188 q188
                     obtain rfl : ad182 = ad188 := (by injection e188)
                     replace p188 := eq_true p188
                     replace q188 := eq_true q188
                     have p189 : 0 ≤ (x7_4 : Int) := of_decide_eq_true (by first | (with_reducible assumption) | assumption)
                     have q189 : x7_4 < (l0_3.length : Int) := of_decide_eq_true (by first | (with_reducible assumption) | assumption)
                     obtain ⟨ad189, e189, hx189_0, hx189_1, hx189_2⟩ := at_T67 HR180_3.out x7_4 p189 q189
                     obtain rfl : ad181 = ad189 := (by injection e189)
                     replace hx189_0 := (HB.out.cell (World.block_lt_of_cell? w _ hx189_0)).trans hx189_0
                     replace hx189_1 := (HB.out.cell (World.block_lt_of_cell? w _ hx189_1)).trans hx189_1
                     replace hx189_2 := (HB.out.cell (World.block_lt_of_cell? w _ hx189_2)).trans hx189_2
                     replace p189 := eq_true p189
                     replace q189 := eq_true q189
                     have p28 : 0 ≤ (((rd_T67 l0_3 x7_4).f0) : Int) := of_decide_eq_true (by first | (with_reducible assumption) | assumption)
                     have q28 : (((rd_T67 l0_3 x7_4).f0) : Int) < ((x3_4.length : Int) : Int) := of_decide_eq_true (by first | (with_reducible assumption) | assumption)
                     obtain ⟨go28, co28, eo28, gb28, gl28, cl28, HG28⟩ := Kd.R_form HO_3.out (by omega)
                     (first | cases eo28 | (injection eo28 with ea_ en_ ec_; (first | subst ea_ | (injection ea_ with ea_; subst ea_)); subst ec_; clear en_))
                     have GB28 := Aside0.mk gb28
                     have GG28 := Aside0.mk HG28
                     clear gb28 gl28 HG28
                     (first | simp only [add_plain] at hx182_0 | skip)
                     (first | simp only [add_plain] at hx184_0 | skip)
                     (first | simp only [add_plain] at hx188_0 | skip)
                     obtain ⟨hx28_0, hf28_0⟩ := Kd.R_celln 0 HO_3.out (((rd_T67 l0_3 x7_4).f0) : Int) p28 q28
                     replace p28 := eq_true p28
                     replace q28 := eq_true q28
                     have HP30 := Kd.R_putg HO_3.out (((rd_T67 l0_3 x7_4).f0) : Int) (wrap64 ((rd x3_4 ((rd_T67 l0_3 x7_4).f2)) + 1))
                     go_wp2_with (first | ((with_reducible refine gate_store (t := 2) (p := 110) rfl ?_); refine store_event (t := 2) (p := 110) (v := ?vo_w31) (w1 := (wr.setCell ⟨go28, (((rd_T67 l0_3 x7_4).f0) : Int).toNat, none⟩ (.int .i64 (wrap64 ((rd x3_4 ((rd_T67 l0_3 x7_4).f2)) + 1))))) ?hg ?ho ?hn ?hr ?_; (case ho => rfl); (case hg => rfl); (case hn => rfl); (case hr => first | (go_simp; done) | (go_simp; rfl)); intro w31 hw; have hg : wr.grownBy w31 (some go28) := (by rw [hw]; exact HP30.2); have hp_ : Kd.R (Kd.int .i64) 2 w31 w.heap.size (fun _ => True) (.slice (some ⟨go28, 0, none⟩) x3_4.length co29) y190 := (by rw [hw, Ny190.out]; exact HP30.1); clear HP30; have n0_ := Aside0.mk (hp_); have n1_ := Aside0.mk ((by rw [hw]; exact bS (HB.out) GB28.out : Below w.heap.size w w31)); clear HO_3; clear HB; have HO_3 := n0_; have HB := n1_; clear n0_ n1_; clear hg hw hp_))
                     go_roundg k4
                     case measure => have := HK1.out; have := HK2.out; have := HK3.out; have := HK4.out; omega
                     case rel => exact ⟨(y190), (wrap64 (x7_4 + 1)), (by first | rfl | (simp; done) | (simp [*]; done)), H', ⟨by have := HK1.out; have := HK2.out; have := HK3.out; have := HK4.out; omega⟩, ⟨by (with_reducible repeat (first | apply rA | apply rN | apply rD)); exact HO_3.out⟩, ⟨by repeat (first | (with_reducible first | exact HB.out | apply bA | apply bN | apply bD) | exact HB.out)⟩⟩
                    ·rw [if_neg c27] at H
                     have c27b0 : decide ((wrap64 ((rd x3_4 ((rd_T67 l0_3 x7_4).f2)) + 1)) < (rd x3_4 ((rd_T67 l0_3 x7_4).f0))) = false := decide_eq_false c27
                     clear c27
                     have H' := Aside0.mk H
                     clear H
                     have p180 : 0 ≤ (0 : Int) := (by omega)
                     have q180 : 0 < ([(⟨a0_0, a0_1, l0_2, l0_3⟩ : S30)].length : Int) := (by simp)
                     obtain ⟨ad180, A180_2, c180_2, A180_3, c180_3, e180, hx180_0, hx180_1, hx180_2, hx180_3, hl180_2, hi180_2, hl180_3, hi180_3⟩ := at_T30 HRp0.out 0 p180 q180
                     replace hx180_0 : _ = (some (.int .i64 a0_0) : Option Value) := hx180_0
                     replace hx180_1 : _ = (some (.int .i64 a0_1) : Option Value) := hx180_1
                     replace hx180_2 : _ = (some (.slice A180_2 l0_2.length c180_2) : Option Value) := hx180_2
                     replace hi180_2 : Kd.C (Kd.int .i64) _ _ l0_2.length l0_2 := hi180_2
                     replace hl180_2 : l0_2.length ≤ _ := hl180_2
                     replace hx180_3 : _ = (some (.slice A180_3 l0_3.length c180_3) : Option Value) := hx180_3
                     replace hi180_3 : Kd.C k67 _ _ l0_3.length l0_3 := hi180_3
                     replace hl180_3 : l0_3.length ≤ _ := hl180_3
                     obtain rfl : adp0 = ad180 := (by injection e180)
                     have qi180 : (0 < [(⟨a0_0, a0_1, l0_2, l0_3⟩ : S30)].length) = True := eq_true (by simp)
                     (try rw [show ((0 : Int)).toNat = 0 from rfl] at hx180_0)
                     (try rw [show 0 * 4 = 0 from rfl] at hx180_0)
                     (try rw [Addr.add_zero'] at hx180_0)
                     (try rw [show ((0 : Int)).toNat = 0 from rfl] at hx180_1)
                     (try rw [show 0 * 4 = 0 from rfl] at hx180_1)
                     (try rw [Addr.add_zero'] at hx180_1)
                     (try rw [show ((0 : Int)).toNat = 0 from rfl] at hx180_2)
                     (try rw [show 0 * 4 = 0 from rfl] at hx180_2)
                     (try rw [Addr.add_zero'] at hx180_2)
                     (try rw [show ((0 : Int)).toNat = 0 from rfl] at hx180_3)
                     (try rw [show 0 * 4 = 0 from rfl] at hx180_3)
                     (try rw [Addr.add_zero'] at hx180_3)
                     replace hx180_0 := (HB.out.cell (World.block_lt_of_cell? w _ hx180_0)).trans hx180_0
                     replace hx180_1 := (HB.out.cell (World.block_lt_of_cell? w _ hx180_1)).trans hx180_1
                     replace hx180_2 := (HB.out.cell (World.block_lt_of_cell? w _ hx180_2)).trans hx180_2
                     replace hx180_3 := (HB.out.cell (World.block_lt_of_cell? w _ hx180_3)).trans hx180_3
                     have HR180_2 := Aside0.mk hi180_2
                     have HC180_2 := Aside0.mk hl180_2
                     clear hi180_2 hl180_2
                     have HR180_3 := Aside0.mk hi180_3
                     have HC180_3 := Aside0.mk hl180_3
                     clear hi180_3 hl180_3
                     replace p180 := eq_true p180
                     replace q180 := eq_true q180
                     have p181 : 0 ≤ (x7_4 : Int) := of_decide_eq_true (by first | (with_reducible assumption) | assumption)
                     have q181 : x7_4 < (l0_3.length : Int) := of_decide_eq_true (by first | (with_reducible assumption) | assumption)
                     obtain ⟨ad181, e181, hx181_0, hx181_1, hx181_2⟩ := at_T67 HR180_3.out x7_4 p181 q181
                     cases e181
                     replace hx181_0 := (HB.out.cell (World.block_lt_of_cell? w _ hx181_0)).trans hx181_0
                     replace hx181_1 := (HB.out.cell (World.block_lt_of_cell? w _ hx181_1)).trans hx181_1
                     replace hx181_2 := (HB.out.cell (World.block_lt_of_cell? w _ hx181_2)).trans hx181_2
                     replace p181 := eq_true p181
                     replace q181 := eq_true q181
                     obtain ⟨Ao32, co32, eo32⟩ := Kd.R_slice HO_3.out
                     subst eo32
                     have p182 : 0 ≤ (((rd_T67 l0_3 x7_4).f2) : Int) := of_decide_eq_true (by first | (with_reducible assumption) | assumption)
                     have q182 : ((rd_T67 l0_3 x7_4).f2) < (x3_4.length : Int) := of_decide_eq_true (by first | (with_reducible assumption) | assumption)
                     obtain ⟨ad182, e182, hx182_0⟩ := Kd.at_int (Kd.R_reads' HO_3.out).2.2 ((rd_T67 l0_3 x7_4).f2) p182 q182
                     cases e182
                     replace p182 := eq_true p182
                     replace q182 := eq_true q182
                     have p183 : 0 ≤ (x7_4 : Int) := of_decide_eq_true (by first | (with_reducible assumption) | assumption)
                     have q183 : x7_4 < (l0_3.length : Int) := of_decide_eq_true (by first | (with_reducible assumption) | assumption)
                     obtain ⟨ad183, e183, hx183_0, hx183_1, hx183_2⟩ := at_T67 HR180_3.out x7_4 p183 q183
                     obtain rfl : ad181 = ad183 := (by injection e183)
                     replace hx183_0 := (HB.out.cell (World.block_lt_of_cell? w _ hx183_0)).trans hx183_0
                     replace hx183_1 := (HB.out.cell (World.block_lt_of_cell? w _ hx183_1)).trans hx183_1
                     replace hx183_2 := (HB.out.cell (World.block_lt_of_cell? w _ hx183_2)).trans hx183_2
                     replace p183 := eq_true p183
                     replace q183 := eq_true q183
                     have p184 : 0 ≤ (((rd_T67 l0_3 x7_4).f0) : Int) := of_decide_eq_true (by first | (with_reducible assumption) | assumption)
                     have q184 : ((rd_T67 l0_3 x7_4).f0) < (x3_4.length : Int) := of_decide_eq_true (by first | (with_reducible assumption) | assumption)
                     obtain ⟨ad184, e184, hx184_0⟩ := Kd.at_int (Kd.R_reads' HO_3.out).2.2 ((rd_T67 l0_3 x7_4).f0) p184 q184
                     obtain rfl : ad182 = ad184 := (by injection e184)
                     replace p184 := eq_true p184
                     replace q184 := eq_true q184
                     have p187 : 0 ≤ (x7_4 : Int) := of_decide_eq_true (by first | (with_reducible assumption) | assumption)
                     have q187 : x7_4 < (l0_3.length : Int) := of_decide_eq_true (by first | (with_reducible assumption) | assumption)
                     obtain ⟨ad187, e187, hx187_0, hx187_1, hx187_2⟩ := at_T67 HR180_3.out x7_4 p187 q187
                     obtain rfl : ad181 = ad187 := (by injection e187)
                     replace hx187_0 := (HB.out.cell (World.block_lt_of_cell? w _ hx187_0)).trans hx187_0
                     replace hx187_1 := (HB.out.cell (World.block_lt_of_cell? w _ hx187_1)).trans hx187_1
                     replace hx187_2 := (HB.out.cell (World.block_lt_of_cell? w _ hx187_2)).trans hx187_2
                     replace p187 := eq_true p187
                     replace q187 := eq_true q187
                     have p188 : 0 ≤ (((rd_T67 l0_3 x7_4).f0) : Int) := of_decide_eq_true (by first | (with_reducible assumption) | assumption)
                     have q188 : ((rd_T67 l0_3 x7_4).f0) < (x3_4.length : Int) := of_decide_eq_true (by first | (with_reducible assumption) | assumption)
                     obtain ⟨ad188, e188, hx188_0⟩ := Kd.at_int (Kd.R_reads' HO_3.out).2.2 ((rd_T67 l0_3 x7_4).f0) p188 q188
                     obtain rfl : ad182 = ad188 := (by injection e188)
                     replace p188 := eq_true p188
                     replace q188 := eq_true q188
                     go_wp2
                     go_roundg k4
                     case measure => have := HK1.out; have := HK2.out; have := HK3.out; have := HK4.out; omega
                     case rel => exact ⟨(x3_4), (wrap64 (x7_4 + 1)), (by first | rfl | (simp; done) | (simp [*]; done)), H', ⟨by have := HK1.out; have := HK2.out; have := HK3.out; have := HK4.out; omega⟩, ⟨by (with_reducible repeat (first | apply rA | apply rN | apply rD)); exact HO_3.out⟩, ⟨by repeat (first | (with_reducible first | exact HB.out | apply bA | apply bN | apply bD) | exact HB.out)⟩⟩
                  ·rw [if_neg c21] at H
                   exact absurd H (by simp)
                 ·rw [if_neg c20] at H
                  exact absurd H (by simp)
                ·rw [if_neg c19] at H
                 have c19b0 : decide (0 ≤ (rd x3_4 ((rd_T67 l0_3 x7_4).f2))) = false := decide_eq_false c19
                 clear c19
                 have H' := Aside0.mk H
                 clear H
                 have p180 : 0 ≤ (0 : Int) := (by omega)
                 have q180 : 0 < ([(⟨a0_0, a0_1, l0_2, l0_3⟩ : S30)].length : Int) := (by simp)
                 obtain ⟨ad180, A180_2, c180_2, A180_3, c180_3, e180, hx180_0, hx180_1, hx180_2, hx180_3, hl180_2, hi180_2, hl180_3, hi180_3⟩ := at_T30 HRp0.out 0 p180 q180
                 replace hx180_0 : _ = (some (.int .i64 a0_0) : Option Value) := hx180_0
                 replace hx180_1 : _ = (some (.int .i64 a0_1) : Option Value) := hx180_1
                 replace hx180_2 : _ = (some (.slice A180_2 l0_2.length c180_2) : Option Value) := hx180_2
                 replace hi180_2 : Kd.C (Kd.int .i64) _ _ l0_2.length l0_2 := hi180_2
                 replace hl180_2 : l0_2.length ≤ _ := hl180_2
                 replace hx180_3 : _ = (some (.slice A180_3 l0_3.length c180_3) : Option Value) := hx180_3
                 replace hi180_3 : Kd.C k67 _ _ l0_3.length l0_3 := hi180_3
                 replace hl180_3 : l0_3.length ≤ _ := hl180_3
                 obtain rfl : adp0 = ad180 := (by injection e180)
                 have qi180 : (0 < [(⟨a0_0, a0_1, l0_2, l0_3⟩ : S30)].length) = True := eq_true (by simp)
                 (try rw [show ((0 : Int)).toNat = 0 from rfl] at hx180_0)
                 (try rw [show 0 * 4 = 0 from rfl] at hx180_0)
                 (try rw [Addr.add_zero'] at hx180_0)
                 (try rw [show ((0 : Int)).toNat = 0 from rfl] at hx180_1)
                 (try rw [show 0 * 4 = 0 from rfl] at hx180_1)
                 (try rw [Addr.add_zero'] at hx180_1)
                 (try rw [show ((0 : Int)).toNat = 0 from rfl] at hx180_2)
                 (try rw [show 0 * 4 = 0 from rfl] at hx180_2)
                 (try rw [Addr.add_zero'] at hx180_2)
                 (try rw [show ((0 : Int)).toNat = 0 from rfl] at hx180_3)
                 (try rw [show 0 * 4 = 0 from rfl] at hx180_3)
                 (try rw [Addr.add_zero'] at hx180_3)
                 replace hx180_0 := (HB.out.cell (World.block_lt_of_cell? w _ hx180_0)).trans hx180_0
                 replace hx180_1 := (HB.out.cell (World.block_lt_of_cell? w _ hx180_1)).trans hx180_1
                 replace hx180_2 := (HB.out.cell (World.block_lt_of_cell? w _ hx180_2)).trans hx180_2
                 replace hx180_3 := (HB.out.cell (World.block_lt_of_cell? w _ hx180_3)).trans hx180_3
                 have HR180_2 := Aside0.mk hi180_2
                 have HC180_2 := Aside0.mk hl180_2
                 clear hi180_2 hl180_2
                 have HR180_3 := Aside0.mk hi180_3
                 have HC180_3 := Aside0.mk hl180_3
                 clear hi180_3 hl180_3
                 replace p180 := eq_true p180
                 replace q180 := eq_true q180
                 have p181 : 0 ≤ (x7_4 : Int) := of_decide_eq_true (by first | (with_reducible assumption) | assumption)
                 have q181 : x7_4 < (l0_3.length : Int) := of_decide_eq_true (by first | (with_reducible assumption) | assumption)
                 obtain ⟨ad181, e181, hx181_0, hx181_1, hx181_2⟩ := at_T67 HR180_3.out x7_4 p181 q181
                 cases e181
                 replace hx181_0 := (HB.out.cell (World.block_lt_of_cell? w _ hx181_0)).trans hx181_0
                 replace hx181_1 := (HB.out.cell (World.block_lt_of_cell? w _ hx181_1)).trans hx181_1
                 replace hx181_2 := (HB.out.cell (World.block_lt_of_cell? w _ hx181_2)).trans hx181_2
                 replace p181 := eq_true p181
                 replace q181 := eq_true q181
                 obtain ⟨Ao33, co33, eo33⟩ := Kd.R_slice HO_3.out
                 subst eo33
                 have p182 : 0 ≤ (((rd_T67 l0_3 x7_4).f2) : Int) := of_decide_eq_true (by first | (with_reducible assumption) | assumption)
                 have q182 : ((rd_T67 l0_3 x7_4).f2) < (x3_4.length : Int) := of_decide_eq_true (by first | (with_reducible assumption) | assumption)
                 obtain ⟨ad182, e182, hx182_0⟩ := Kd.at_int (Kd.R_reads' HO_3.out).2.2 ((rd_T67 l0_3 x7_4).f2) p182 q182
                 cases e182
                 replace p182 := eq_true p182
                 replace q182 := eq_true q182
                 go_wp2
                 go_roundg k4
                 case measure => have := HK1.out; have := HK2.out; have := HK3.out; have := HK4.out; omega
                 case rel => exact ⟨(x3_4), (wrap64 (x7_4 + 1)), (by first | rfl | (simp; done) | (simp [*]; done)), H', ⟨by have := HK1.out; have := HK2.out; have := HK3.out; have := HK4.out; omega⟩, ⟨by (with_reducible repeat (first | apply rA | apply rN | apply rD)); exact HO_3.out⟩, ⟨by repeat (first | (with_reducible first | exact HB.out | apply bA | apply bN | apply bD) | exact HB.out)⟩⟩
               ·rw [if_neg c18] at H
                exact absurd H (by simp)
              ·rw [if_neg c17] at H
               exact absurd H (by simp)
             ·rw [if_neg c16] at H
              exact absurd H (by simp)
            ·rw [if_neg c15] at H
             have c15b0 : decide (x7_4 < (l0_3.length : Int)) = false := decide_eq_false c15
             clear c15
             have H' := Aside0.mk H
             clear H
             have p180 : 0 ≤ (0 : Int) := (by omega)
             have q180 : 0 < ([(⟨a0_0, a0_1, l0_2, l0_3⟩ : S30)].length : Int) := (by simp)
             obtain ⟨ad180, A180_2, c180_2, A180_3, c180_3, e180, hx180_0, hx180_1, hx180_2, hx180_3, hl180_2, hi180_2, hl180_3, hi180_3⟩ := at_T30 HRp0.out 0 p180 q180
             replace hx180_0 : _ = (some (.int .i64 a0_0) : Option Value) := hx180_0
             replace hx180_1 : _ = (some (.int .i64 a0_1) : Option Value) := hx180_1
             replace hx180_2 : _ = (some (.slice A180_2 l0_2.length c180_2) : Option Value) := hx180_2
             replace hi180_2 : Kd.C (Kd.int .i64) _ _ l0_2.length l0_2 := hi180_2
             replace hl180_2 : l0_2.length ≤ _ := hl180_2
             replace hx180_3 : _ = (some (.slice A180_3 l0_3.length c180_3) : Option Value) := hx180_3
             replace hi180_3 : Kd.C k67 _ _ l0_3.length l0_3 := hi180_3
             replace hl180_3 : l0_3.length ≤ _ := hl180_3
             obtain rfl : adp0 = ad180 := (by injection e180)
             have qi180 : (0 < [(⟨a0_0, a0_1, l0_2, l0_3⟩ : S30)].length) = True := eq_true (by simp)
             (try rw [show ((0 : Int)).toNat = 0 from rfl] at hx180_0)
             (try rw [show 0 * 4 = 0 from rfl] at hx180_0)
             (try rw [Addr.add_zero'] at hx180_0)
             (try rw [show ((0 : Int)).toNat = 0 from rfl] at hx180_1)
             (try rw [show 0 * 4 = 0 from rfl] at hx180_1)
             (try rw [Addr.add_zero'] at hx180_1)
             (try rw [show ((0 : Int)).toNat = 0 from rfl] at hx180_2)
             (try rw [show 0 * 4 = 0 from rfl] at hx180_2)
             (try rw [Addr.add_zero'] at hx180_2)
             (try rw [show ((0 : Int)).toNat = 0 from rfl] at hx180_3)
             (try rw [show 0 * 4 = 0 from rfl] at hx180_3)
             (try rw [Addr.add_zero'] at hx180_3)
             replace hx180_0 := (HB.out.cell (World.block_lt_of_cell? w _ hx180_0)).trans hx180_0
             replace hx180_1 := (HB.out.cell (World.block_lt_of_cell? w _ hx180_1)).trans hx180_1
             replace hx180_2 := (HB.out.cell (World.block_lt_of_cell? w _ hx180_2)).trans hx180_2
             replace hx180_3 := (HB.out.cell (World.block_lt_of_cell? w _ hx180_3)).trans hx180_3
             have HR180_2 := Aside0.mk hi180_2
             have HC180_2 := Aside0.mk hl180_2
             clear hi180_2 hl180_2
             have HR180_3 := Aside0.mk hi180_3
             have HC180_3 := Aside0.mk hl180_3
             clear hi180_3 hl180_3
             replace p180 := eq_true p180
             replace q180 := eq_true q180
             go_wp2
             go_roundg k4
             case measure => have := HK1.out; have := HK2.out; have := HK3.out; have := HK4.out; omega
             case rel => exact ⟨(x3_4), (wrap64 (x6_3 + 1)), (by first | rfl | (simp; done) | (simp [*]; done)), H', ⟨by have := HK1.out; have := HK2.out; have := HK3.out; have := HK4.out; omega⟩, ⟨by (with_reducible repeat (first | apply rA | apply rN | apply rD)); exact HO_3.out⟩, ⟨by repeat (first | (with_reducible first | exact HB.out | apply bA | apply bN | apply bD) | exact HB.out)⟩⟩
         ·rw [if_neg c14] at H
          have c14b0 : decide (x6_3 < a0_0) = false := decide_eq_false c14
          clear c14
          obtain rfl := Option.some.inj H
          have p179 : 0 ≤ (0 : Int) := (by omega)
          have q179 : 0 < ([(⟨a0_0, a0_1, l0_2, l0_3⟩ : S30)].length : Int) := (by simp)
          obtain ⟨ad179, A179_2, c179_2, A179_3, c179_3, e179, hx179_0, hx179_1, hx179_2, hx179_3, hl179_2, hi179_2, hl179_3, hi179_3⟩ := at_T30 HRp0.out 0 p179 q179
          replace hx179_0 : _ = (some (.int .i64 a0_0) : Option Value) := hx179_0
          replace hx179_1 : _ = (some (.int .i64 a0_1) : Option Value) := hx179_1
          replace hx179_2 : _ = (some (.slice A179_2 l0_2.length c179_2) : Option Value) := hx179_2
          replace hi179_2 : Kd.C (Kd.int .i64) _ _ l0_2.length l0_2 := hi179_2
          replace hl179_2 : l0_2.length ≤ _ := hl179_2
          replace hx179_3 : _ = (some (.slice A179_3 l0_3.length c179_3) : Option Value) := hx179_3
          replace hi179_3 : Kd.C k67 _ _ l0_3.length l0_3 := hi179_3
          replace hl179_3 : l0_3.length ≤ _ := hl179_3
          obtain rfl : adp0 = ad179 := (by injection e179)
          have qi179 : (0 < [(⟨a0_0, a0_1, l0_2, l0_3⟩ : S30)].length) = True := eq_true (by simp)
          (try rw [show ((0 : Int)).toNat = 0 from rfl] at hx179_0)
          (try rw [show 0 * 4 = 0 from rfl] at hx179_0)
          (try rw [Addr.add_zero'] at hx179_0)
          (try rw [show ((0 : Int)).toNat = 0 from rfl] at hx179_1)
          (try rw [show 0 * 4 = 0 from rfl] at hx179_1)
          (try rw [Addr.add_zero'] at hx179_1)
          (try rw [show ((0 : Int)).toNat = 0 from rfl] at hx179_2)
          (try rw [show 0 * 4 = 0 from rfl] at hx179_2)
          (try rw [Addr.add_zero'] at hx179_2)
          (try rw [show ((0 : Int)).toNat = 0 from rfl] at hx179_3)
          (try rw [show 0 * 4 = 0 from rfl] at hx179_3)
          (try rw [Addr.add_zero'] at hx179_3)
          replace hx179_0 := (HB.out.cell (World.block_lt_of_cell? w _ hx179_0)).trans hx179_0
          replace hx179_1 := (HB.out.cell (World.block_lt_of_cell? w _ hx179_1)).trans hx179_1
          replace hx179_2 := (HB.out.cell (World.block_lt_of_cell? w _ hx179_2)).trans hx179_2
          replace hx179_3 := (HB.out.cell (World.block_lt_of_cell? w _ hx179_3)).trans hx179_3
          have HR179_2 := Aside0.mk hi179_2
          have HC179_2 := Aside0.mk hl179_2
          clear hi179_2 hl179_2
          have HR179_3 := Aside0.mk hi179_3
          have HC179_3 := Aside0.mk hl179_3
          clear hi179_3 hl179_3
          replace p179 := eq_true p179
          replace q179 := eq_true q179
          go_wp2
          go_ret
          exact ⟨_, by first | rfl | (simp [errW_none, errW_some] <;> rfl) | (simp [*, errW_none, errW_some] <;> rfl), by (with_reducible repeat (first | apply rA | apply rN | apply rD)); exact HO_3.out, by repeat (first | (with_reducible first | exact HB.out | apply bA | apply bN | apply bD) | exact HB.out)⟩

end Go.Proofs.Ytijbhcalknfijaa.M3
-- shrunk
-- tight
