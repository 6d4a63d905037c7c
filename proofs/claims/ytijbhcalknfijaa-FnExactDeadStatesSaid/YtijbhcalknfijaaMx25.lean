/- What functions of the given program compute, as plain Lean functions, and that the code comes to just that; by a program of this session over the kit's print. No condition. -/
import Derived.Test.YtijbhcalknfijaaMx0
namespace Go.Proofs.Ytijbhcalknfijaa.M
open Go.RowKit Go.Proofs.YtijbhcalknfijaaW.PrintWords Go.Proofs.YtijbhcalknfijaaW.PrintLast
open Go.Proofs.YtijbhcalknfijaaW.PrintWords renaming below_alloc → bA, pw_below_drewN → bN, below_drew1 → bD, below_set → bS, below_size → bZ, below_step → bP
open Go.Proofs.YtijbhcalknfijaaW.PrintWords.Kd renaming R_alloc → rA, R_drewN → rN, R_drew → rD, R_lower → rL
set_option linter.unusedVariables false
set_option linter.unusedSimpArgs false

/-! ### spec_l07Alive: function 72 -/
mutual
def spec_l07Alive.l0 : Nat → List Bool → Int → Int → Int → List Int → List (S67) → Option (List Bool)
 | 0, _, _, _, _, _, _ => none
 | k + 1, x3, x4, x1000, x1001, x1002, x1003 => if x4 < (x1002.length : Int) then (if 0 ≤ x4 then (if 0 ≤ (rd x1002 x4) then (if (rd x1002 x4) < (x3.length : Int) then (spec_l07Alive.l0 k (x3.set ((rd x1002 x4) : Int).toNat true) (wrap64 (x4 + 1)) x1000 x1001 x1002 x1003) else (none)) else (none)) else (none)) else (spec_l07Alive.l1 k x3 0 x1000 x1001 x1002 x1003)
def spec_l07Alive.l1 : Nat → List Bool → Int → Int → Int → List Int → List (S67) → Option (List Bool)
 | 0, _, _, _, _, _, _ => none
 | k + 1, x3, x5, x1000, x1001, x1002, x1003 => if x5 < x1000 then (spec_l07Alive.l2 k x3 x5 0 x1000 x1001 x1002 x1003) else (some x3)
def spec_l07Alive.l2 : Nat → List Bool → Int → Int → Int → Int → List Int → List (S67) → Option (List Bool)
 | 0, _, _, _, _, _, _, _ => none
 | k + 1, x3, x5, x6, x1000, x1001, x1002, x1003 => if x6 < (x1003.length : Int) then (if 0 ≤ x6 then (if 0 ≤ ((rd_T67 x1003 x6).f2) then (if ((rd_T67 x1003 x6).f2) < (x3.length : Int) then (if rdOf false x3 ((rd_T67 x1003 x6).f2) = true then (if 0 ≤ ((rd_T67 x1003 x6).f0) then (if ((rd_T67 x1003 x6).f0) < (x3.length : Int) then (spec_l07Alive.l2 k (x3.set (((rd_T67 x1003 x6).f0) : Int).toNat true) x5 (wrap64 (x6 + 1)) x1000 x1001 x1002 x1003) else (none)) else (none)) else (spec_l07Alive.l2 k x3 x5 (wrap64 (x6 + 1)) x1000 x1001 x1002 x1003)) else (none)) else (none)) else (none)) else (spec_l07Alive.l1 k x3 (wrap64 (x5 + 1)) x1000 x1001 x1002 x1003)
end
def spec_l07Alive.f (k : Nat) (a0_0 : Int) (a0_1 : Int) (l0_2 : List Int) (l0_3 : List (S67)) : Option (List Bool) := if 0 ≤ a0_0 then (if (a0_0 : Int).toNat ≤ 281474976710656 then (spec_l07Alive.l0 k (List.replicate (a0_0 : Int).toNat false) 0 a0_0 a0_1 l0_2 l0_3) else (none)) else (none)
theorem spec_l07Alive.mono_l : ∀ k, (∀ y0 y1 y2 y3 y4 y5, LeO (spec_l07Alive.l0 k y0 y1 y2 y3 y4 y5) (spec_l07Alive.l0 (k + 1) y0 y1 y2 y3 y4 y5)) ∧ (∀ y0 y1 y2 y3 y4 y5, LeO (spec_l07Alive.l1 k y0 y1 y2 y3 y4 y5) (spec_l07Alive.l1 (k + 1) y0 y1 y2 y3 y4 y5)) ∧ (∀ y0 y1 y2 y3 y4 y5 y6, LeO (spec_l07Alive.l2 k y0 y1 y2 y3 y4 y5 y6) (spec_l07Alive.l2 (k + 1) y0 y1 y2 y3 y4 y5 y6))
 | 0 => ⟨fun _ _ _ _ _ _ r h => by simp [spec_l07Alive.l0] at h, fun _ _ _ _ _ _ r h => by simp [spec_l07Alive.l1] at h, fun _ _ _ _ _ _ _ r h => by simp [spec_l07Alive.l2] at h⟩
 | k + 1 => by
  obtain ⟨ih0, ih1, ih2⟩ := spec_l07Alive.mono_l k
  refine ⟨?_, ?_, ?_⟩
  ·intro y0 y1 y2 y3 y4 y5
   unfold spec_l07Alive.l0
   repeat' first
   | (with_reducible exact ih0 _ _ _ _ _ _)
   | (with_reducible exact ih1 _ _ _ _ _ _)
   | (with_reducible exact ih2 _ _ _ _ _ _ _)
   | (with_reducible exact LeO.refl _)
   | (with_reducible exact LeO.none _)
   | (with_reducible refine LeO.ite ?_ ?_)
   | (with_reducible refine LeO.bind ?_ (fun _ => ?_))
   | exact ih0 _ _ _ _ _ _
   | exact ih1 _ _ _ _ _ _
   | exact ih2 _ _ _ _ _ _ _
   | exact LeO.none _
   | refine LeO.ite ?_ ?_
   | refine LeO.bind ?_ (fun _ => ?_)
  ·intro y0 y1 y2 y3 y4 y5
   unfold spec_l07Alive.l1
   repeat' first
   | (with_reducible exact ih0 _ _ _ _ _ _)
   | (with_reducible exact ih1 _ _ _ _ _ _)
   | (with_reducible exact ih2 _ _ _ _ _ _ _)
   | (with_reducible exact LeO.refl _)
   | (with_reducible exact LeO.none _)
   | (with_reducible refine LeO.ite ?_ ?_)
   | (with_reducible refine LeO.bind ?_ (fun _ => ?_))
   | exact ih0 _ _ _ _ _ _
   | exact ih1 _ _ _ _ _ _
   | exact ih2 _ _ _ _ _ _ _
   | exact LeO.none _
   | refine LeO.ite ?_ ?_
   | refine LeO.bind ?_ (fun _ => ?_)
  ·intro y0 y1 y2 y3 y4 y5 y6
   unfold spec_l07Alive.l2
   repeat' first
   | (with_reducible exact ih0 _ _ _ _ _ _)
   | (with_reducible exact ih1 _ _ _ _ _ _)
   | (with_reducible exact ih2 _ _ _ _ _ _ _)
   | (with_reducible exact LeO.refl _)
   | (with_reducible exact LeO.none _)
   | (with_reducible refine LeO.ite ?_ ?_)
   | (with_reducible refine LeO.bind ?_ (fun _ => ?_))
   | exact ih0 _ _ _ _ _ _
   | exact ih1 _ _ _ _ _ _
   | exact ih2 _ _ _ _ _ _ _
   | exact LeO.none _
   | refine LeO.ite ?_ ?_
   | refine LeO.bind ?_ (fun _ => ?_)
theorem spec_l07Alive.mono : ∀ a0 a1 a2 a3 k, LeO (spec_l07Alive.f k a0 a1 a2 a3) (spec_l07Alive.f (k + 1) a0 a1 a2 a3) := by
 intro a0 a1 a2 a3 k
 obtain ⟨ih0, ih1, ih2⟩ := spec_l07Alive.mono_l k
 unfold spec_l07Alive.f
 repeat' first
   | (with_reducible exact ih0 _ _ _ _ _ _)
   | (with_reducible exact ih1 _ _ _ _ _ _)
   | (with_reducible exact ih2 _ _ _ _ _ _ _)
   | (with_reducible exact LeO.refl _)
   | (with_reducible exact LeO.none _)
   | (with_reducible refine LeO.ite ?_ ?_)
   | (with_reducible refine LeO.bind ?_ (fun _ => ?_))
   | exact ih0 _ _ _ _ _ _
   | exact ih1 _ _ _ _ _ _
   | exact ih2 _ _ _ _ _ _ _
   | exact LeO.none _
   | refine LeO.ite ?_ ?_
   | refine LeO.bind ?_ (fun _ => ?_)
set_option maxHeartbeats 8000000 in
set_option maxRecDepth 100000 in
theorem spec_l07Alive.calls (k : Nat) (adp0 : Addr) (a0_0 : Int) (a0_1 : Int) (l0_2 : List Int) (l0_3 : List (S67)) (r : List Bool) (w : World) (hp0 : Kd.C k30 w (some adp0) 1 [(⟨a0_0, a0_1, l0_2, l0_3⟩ : S30)]) (h : spec_l07Alive.f k a0_0 a0_1 l0_2 l0_3 = some r) :
  Calls Try.prog 72 #[.pointer (some adp0)] w fun e w' => ∃ v0_ : Value, e = .returned (v0_) ∧ Kd.R Kd.bool 4 w' w.heap.size (fun _ => True) v0_ r ∧ Below w.heap.size w w' := by
 have HRp0 := Aside0.mk hp0
 clear hp0
 have HB := Aside0.mk (Below.refl w.heap.size w)
 have H : (if 0 ≤ a0_0 then (if (a0_0 : Int).toNat ≤ 281474976710656 then (spec_l07Alive.l0 k (List.replicate (a0_0 : Int).toNat false) 0 a0_0 a0_1 l0_2 l0_3) else (none)) else (none)) = some r := h
 clear h
 by_cases c2 : 0 ≤ a0_0
 ·rw [if_pos c2] at H
  have c2b0 := eq_true c2
  have c2b1 : decide (0 ≤ a0_0) = true := decide_eq_true c2
  clear c2
  by_cases c3 : (a0_0 : Int).toNat ≤ 281474976710656
  ·rw [if_pos c3] at H
   have c3b0 := eq_true c3
   have c3b1 : decide ((a0_0 : Int).toNat ≤ 281474976710656) = true := decide_eq_true c3
   clear c3
   obtain ⟨y402, hy402⟩ : ∃ y_ : List Bool, y_ = (List.replicate (a0_0 : Int).toNat false) := ⟨_, rfl⟩
   replace H : (spec_l07Alive.l0 k y402 0 a0_0 a0_1 l0_2 l0_3) = some r := by first | (rw [hy402]; with_reducible exact H) | (have H2_ := (Option.bind_some _ _).symm.trans H; rw [hy402]; with_reducible exact H2_) | (have H2_ := (Option.bind_some _ _).symm.trans H; with_reducible exact H2_) | with_reducible exact H | (rw [hy402]; exact H) | exact H
   have Ny402 := Aside0.mk hy402
   clear hy402
   have H' := Aside0.mk H
   clear H
   have p401 : 0 ≤ (0 : Int) := (by omega)
   have q401 : 0 < ([(⟨a0_0, a0_1, l0_2, l0_3⟩ : S30)].length : Int) := (by simp)
   obtain ⟨ad401, A401_2, c401_2, A401_3, c401_3, e401, hx401_0, hx401_1, hx401_2, hx401_3, hl401_2, hi401_2, hl401_3, hi401_3⟩ := at_T30 HRp0.out 0 p401 q401
   replace hx401_0 : _ = (some (.int .i64 a0_0) : Option Value) := hx401_0
   replace hx401_1 : _ = (some (.int .i64 a0_1) : Option Value) := hx401_1
   replace hx401_2 : _ = (some (.slice A401_2 l0_2.length c401_2) : Option Value) := hx401_2
   replace hi401_2 : Kd.C (Kd.int .i64) _ _ l0_2.length l0_2 := hi401_2
   replace hl401_2 : l0_2.length ≤ _ := hl401_2
   replace hx401_3 : _ = (some (.slice A401_3 l0_3.length c401_3) : Option Value) := hx401_3
   replace hi401_3 : Kd.C k67 _ _ l0_3.length l0_3 := hi401_3
   replace hl401_3 : l0_3.length ≤ _ := hl401_3
   obtain rfl : adp0 = ad401 := (by injection e401)
   have qi401 : (0 < [(⟨a0_0, a0_1, l0_2, l0_3⟩ : S30)].length) = True := eq_true (by simp)
   (try rw [show ((0 : Int)).toNat = 0 from rfl] at hx401_0)
   (try rw [show 0 * 4 = 0 from rfl] at hx401_0)
   (try rw [Addr.add_zero'] at hx401_0)
   (try rw [show ((0 : Int)).toNat = 0 from rfl] at hx401_1)
   (try rw [show 0 * 4 = 0 from rfl] at hx401_1)
   (try rw [Addr.add_zero'] at hx401_1)
   (try rw [show ((0 : Int)).toNat = 0 from rfl] at hx401_2)
   (try rw [show 0 * 4 = 0 from rfl] at hx401_2)
   (try rw [Addr.add_zero'] at hx401_2)
   (try rw [show ((0 : Int)).toNat = 0 from rfl] at hx401_3)
   (try rw [show 0 * 4 = 0 from rfl] at hx401_3)
   (try rw [Addr.add_zero'] at hx401_3)
   have HR401_2 := Aside0.mk hi401_2
   have HC401_2 := Aside0.mk hl401_2
   clear hi401_2 hl401_2
   have HR401_3 := Aside0.mk hi401_3
   have HC401_3 := Aside0.mk hl401_3
   clear hi401_3 hl401_3
   replace p401 := eq_true p401
   replace q401 := eq_true q401
   go_enter Try.func72, Try.ntmps72
   go_wp2_with (first | ((with_reducible refine gate_dst (N := 11) rfl ?_); refine Kd.R_make Kd.bool _ 4 rfl (N := 11) rfl 82 _ _ rfl a0_0 rfl rfl Try.underlying82 (.bool false) 1 info4 rfl (by decide) (by omega) false (ok := fun _ => True) (okp := fun _ => True) rfl (fun _ hk => hk) trivial (of_decide_eq_true (by first | (with_reducible assumption) | assumption)) (Nat.le_trans (Nat.mul_le_mul_right _ (of_decide_eq_true (by first | (with_reducible assumption) | assumption) : a0_0.toNat ≤ 281474976710656)) (by omega)) (Below.refl _ _) (Nat.le_refl _) ?_; intro v403 w4 ho5 hb hg_ hnew_; clear hg_ hnew_; (first | rw [← Ny402.out] at ho5 | (simp only [Int.reduceToNat] at ho5; rw [← Ny402.out] at ho5)); have n0_ := Aside0.mk (rL ho5 (bZ (by repeat (first | (with_reducible first | exact HB.out | apply bA | apply bN | apply bD) | exact HB.out)))); have n1_ := Aside0.mk (bP (by repeat (first | (with_reducible first | exact HB.out | apply bA | apply bN | apply bD) | exact HB.out)) hb); clear HB; have HO404 := n0_; have HB := n1_; clear n0_ n1_; clear hb ho5))
   go_loopg [4] k (fun kq v4 w' => ∃ (x3_1 : List Bool) (x4_1 : Int), v4 = .int .i64 x4_1 ∧ Aside0 (spec_l07Alive.l0 kq x3_1 x4_1 a0_0 a0_1 l0_2 l0_3 = some r) ∧ Aside0 (kq ≤ k) ∧ Aside0 (Kd.R Kd.bool 4 w' w.heap.size (fun _ => True) v403 x3_1) ∧ Aside0 (Below w.heap.size w w'))
   case atStart => exact ⟨(y402), (0), (by first | rfl | (simp; done) | (simp [*]; done)), H', ⟨Nat.le_refl _⟩, ⟨by (with_reducible repeat (first | apply rA | apply rN | apply rD)); exact HO404.out⟩, ⟨by repeat (first | (with_reducible first | exact HB.out | apply bA | apply bN | apply bD) | exact HB.out)⟩⟩
   case round =>
    clear H'
    try clear c2
    try clear c2b0
    try clear c2b1
    try clear p2
    try clear c3
    try clear c3b0
    try clear c3b1
    try clear c4
    try clear p4
    try clear q4
    try clear hx4
    try clear qi4
    try clear hx401_0
    try clear hx401_1
    try clear hx401_2
    try clear hx401_3
    try clear p401
    try clear q401
    obtain ⟨x3_1, x4_1, rfl, HA, HK1, HO_3, HB⟩ := hrel
    cases gk with
    | zero => exact absurd HA.out (by simp [spec_l07Alive.l0])
    | succ k1 =>
     have H := HA.out
     clear HA
     simp only [spec_l07Alive.l0] at H
     by_cases c6 : x4_1 < (l0_2.length : Int)
     ·rw [if_pos c6] at H
      have c6b0 : decide (x4_1 < (l0_2.length : Int)) = true := decide_eq_true c6
      clear c6
      by_cases c7 : 0 ≤ x4_1
      ·rw [if_pos c7] at H
       have c7b0 : decide (0 ≤ x4_1) = true := decide_eq_true c7
       clear c7
       by_cases c8 : 0 ≤ (rd l0_2 x4_1)
       ·rw [if_pos c8] at H
        have c8b0 : decide (0 ≤ (rd l0_2 x4_1)) = true := decide_eq_true c8
        clear c8
        by_cases c9 : (rd l0_2 x4_1) < (x3_1.length : Int)
        ·rw [if_pos c9] at H
         have c9b0 : decide ((rd l0_2 x4_1) < (x3_1.length : Int)) = true := decide_eq_true c9
         clear c9
         obtain ⟨y407, hy407⟩ : ∃ y_ : List Bool, y_ = (x3_1.set ((rd l0_2 x4_1) : Int).toNat true) := ⟨_, rfl⟩
         replace H : (spec_l07Alive.l0 k1 y407 (wrap64 (x4_1 + 1)) a0_0 a0_1 l0_2 l0_3) = some r := by first | (rw [hy407]; with_reducible exact H) | (have H2_ := (Option.bind_some _ _).symm.trans H; rw [hy407]; with_reducible exact H2_) | (have H2_ := (Option.bind_some _ _).symm.trans H; with_reducible exact H2_) | with_reducible exact H | (rw [hy407]; exact H) | exact H
         have Ny407 := Aside0.mk hy407
         clear hy407
         have H' := Aside0.mk H
         clear H
         have p405 : 0 ≤ (0 : Int) := (by omega)
         have q405 : 0 < ([(⟨a0_0, a0_1, l0_2, l0_3⟩ : S30)].length : Int) := (by simp)
         obtain ⟨ad405, A405_2, c405_2, A405_3, c405_3, e405, hx405_0, hx405_1, hx405_2, hx405_3, hl405_2, hi405_2, hl405_3, hi405_3⟩ := at_T30 HRp0.out 0 p405 q405
         replace hx405_0 : _ = (some (.int .i64 a0_0) : Option Value) := hx405_0
         replace hx405_1 : _ = (some (.int .i64 a0_1) : Option Value) := hx405_1
         replace hx405_2 : _ = (some (.slice A405_2 l0_2.length c405_2) : Option Value) := hx405_2
         replace hi405_2 : Kd.C (Kd.int .i64) _ _ l0_2.length l0_2 := hi405_2
         replace hl405_2 : l0_2.length ≤ _ := hl405_2
         replace hx405_3 : _ = (some (.slice A405_3 l0_3.length c405_3) : Option Value) := hx405_3
         replace hi405_3 : Kd.C k67 _ _ l0_3.length l0_3 := hi405_3
         replace hl405_3 : l0_3.length ≤ _ := hl405_3
         obtain rfl : adp0 = ad405 := (by injection e405)
         have qi405 : (0 < [(⟨a0_0, a0_1, l0_2, l0_3⟩ : S30)].length) = True := eq_true (by simp)
         (try rw [show ((0 : Int)).toNat = 0 from rfl] at hx405_0)
         (try rw [show 0 * 4 = 0 from rfl] at hx405_0)
         (try rw [Addr.add_zero'] at hx405_0)
         (try rw [show ((0 : Int)).toNat = 0 from rfl] at hx405_1)
         (try rw [show 0 * 4 = 0 from rfl] at hx405_1)
         (try rw [Addr.add_zero'] at hx405_1)
         (try rw [show ((0 : Int)).toNat = 0 from rfl] at hx405_2)
         (try rw [show 0 * 4 = 0 from rfl] at hx405_2)
         (try rw [Addr.add_zero'] at hx405_2)
         (try rw [show ((0 : Int)).toNat = 0 from rfl] at hx405_3)
         (try rw [show 0 * 4 = 0 from rfl] at hx405_3)
         (try rw [Addr.add_zero'] at hx405_3)
         replace hx405_0 := (HB.out.cell (World.block_lt_of_cell? w _ hx405_0)).trans hx405_0
         replace hx405_1 := (HB.out.cell (World.block_lt_of_cell? w _ hx405_1)).trans hx405_1
         replace hx405_2 := (HB.out.cell (World.block_lt_of_cell? w _ hx405_2)).trans hx405_2
         replace hx405_3 := (HB.out.cell (World.block_lt_of_cell? w _ hx405_3)).trans hx405_3
         have HR405_2 := Aside0.mk hi405_2
         have HC405_2 := Aside0.mk hl405_2
         clear hi405_2 hl405_2
         have HR405_3 := Aside0.mk hi405_3
         have HC405_3 := Aside0.mk hl405_3
         clear hi405_3 hl405_3
         replace p405 := eq_true p405
         replace q405 := eq_true q405
         have p406 : 0 ≤ (x4_1 : Int) := of_decide_eq_true (by first | (with_reducible assumption) | assumption)
         have q406 : x4_1 < (l0_2.length : Int) := of_decide_eq_true (by first | (with_reducible assumption) | assumption)
         obtain ⟨ad406, e406, hx406_0⟩ := Kd.at_int HR405_2.out x4_1 p406 q406
         cases e406
         replace hx406_0 := (HB.out.cell (World.block_lt_of_cell? w _ hx406_0)).trans hx406_0
         replace p406 := eq_true p406
         replace q406 := eq_true q406
         have p10 : 0 ≤ ((rd l0_2 x4_1) : Int) := of_decide_eq_true (by first | (with_reducible assumption) | assumption)
         have q10 : ((rd l0_2 x4_1) : Int) < ((x3_1.length : Int) : Int) := of_decide_eq_true (by first | (with_reducible assumption) | assumption)
         obtain ⟨go10, co10, eo10, gb10, gl10, cl10, HG10⟩ := Kd.R_form HO_3.out (by omega)
         (first | cases eo10 | (injection eo10 with ea_ en_ ec_; (first | subst ea_ | (injection ea_ with ea_; subst ea_)); subst ec_; clear en_))
         have GB10 := Aside0.mk gb10
         have GG10 := Aside0.mk HG10
         clear gb10 gl10 HG10
         obtain ⟨hx10_0, hf10_0⟩ := Kd.R_celln false HO_3.out ((rd l0_2 x4_1) : Int) p10 q10
         replace p10 := eq_true p10
         replace q10 := eq_true q10
         have HP11 := Kd.R_putg HO_3.out ((rd l0_2 x4_1) : Int) true
         go_wp2_with (first | ((with_reducible refine gate_store (t := 4) (p := 29) rfl ?_); refine store_event (t := 4) (p := 29) (v := ?vo_w12) (w1 := (wr.setCell ⟨go10, ((rd l0_2 x4_1) : Int).toNat, none⟩ (.bool true))) ?hg ?ho ?hn ?hr ?_; (case ho => rfl); (case hg => rfl); (case hn => rfl); (case hr => first | (go_simp; done) | (go_simp; rfl)); intro w12 hw; have hg : wr.grownBy w12 (some go10) := (by rw [hw]; exact HP11.2); have hp_ : Kd.R Kd.bool 4 w12 w.heap.size (fun _ => True) (.slice (some ⟨go10, 0, none⟩) x3_1.length co10) y407 := (by rw [hw, Ny407.out]; exact HP11.1); clear HP11; have n0_ := Aside0.mk (hp_); have n1_ := Aside0.mk ((by rw [hw]; exact bS (HB.out) GB10.out : Below w.heap.size w w12)); clear HO_3; clear HB; have HO_3 := n0_; have HB := n1_; clear n0_ n1_; clear hg hw hp_))
         go_roundg k1
         case measure => have := HK1.out; omega
         case rel => exact ⟨(y407), (wrap64 (x4_1 + 1)), (by first | rfl | (simp; done) | (simp [*]; done)), H', ⟨by have := HK1.out; omega⟩, ⟨by (with_reducible repeat (first | apply rA | apply rN | apply rD)); exact HO_3.out⟩, ⟨by repeat (first | (with_reducible first | exact HB.out | apply bA | apply bN | apply bD) | exact HB.out)⟩⟩
        ·rw [if_neg c9] at H
         exact absurd H (by simp)
       ·rw [if_neg c8] at H
        exact absurd H (by simp)
      ·rw [if_neg c7] at H
       exact absurd H (by simp)
     ·rw [if_neg c6] at H
      have c6b0 : decide (x4_1 < (l0_2.length : Int)) = false := decide_eq_false c6
      clear c6
      have H' := Aside0.mk H
      clear H
      have p405 : 0 ≤ (0 : Int) := (by omega)
      have q405 : 0 < ([(⟨a0_0, a0_1, l0_2, l0_3⟩ : S30)].length : Int) := (by simp)
      obtain ⟨ad405, A405_2, c405_2, A405_3, c405_3, e405, hx405_0, hx405_1, hx405_2, hx405_3, hl405_2, hi405_2, hl405_3, hi405_3⟩ := at_T30 HRp0.out 0 p405 q405
      replace hx405_0 : _ = (some (.int .i64 a0_0) : Option Value) := hx405_0
      replace hx405_1 : _ = (some (.int .i64 a0_1) : Option Value) := hx405_1
      replace hx405_2 : _ = (some (.slice A405_2 l0_2.length c405_2) : Option Value) := hx405_2
      replace hi405_2 : Kd.C (Kd.int .i64) _ _ l0_2.length l0_2 := hi405_2
      replace hl405_2 : l0_2.length ≤ _ := hl405_2
      replace hx405_3 : _ = (some (.slice A405_3 l0_3.length c405_3) : Option Value) := hx405_3
      replace hi405_3 : Kd.C k67 _ _ l0_3.length l0_3 := hi405_3
      replace hl405_3 : l0_3.length ≤ _ := hl405_3
      obtain rfl : adp0 = ad405 := (by injection e405)
      have qi405 : (0 < [(⟨a0_0, a0_1, l0_2, l0_3⟩ : S30)].length) = True := eq_true (by simp)
      (try rw [show ((0 : Int)).toNat = 0 from rfl] at hx405_0)
      (try rw [show 0 * 4 = 0 from rfl] at hx405_0)
      (try rw [Addr.add_zero'] at hx405_0)
      (try rw [show ((0 : Int)).toNat = 0 from rfl] at hx405_1)
      (try rw [show 0 * 4 = 0 from rfl] at hx405_1)
      (try rw [Addr.add_zero'] at hx405_1)
      (try rw [show ((0 : Int)).toNat = 0 from rfl] at hx405_2)
      (try rw [show 0 * 4 = 0 from rfl] at hx405_2)
      (try rw [Addr.add_zero'] at hx405_2)
      (try rw [show ((0 : Int)).toNat = 0 from rfl] at hx405_3)
      (try rw [show 0 * 4 = 0 from rfl] at hx405_3)
      (try rw [Addr.add_zero'] at hx405_3)
      replace hx405_0 := (HB.out.cell (World.block_lt_of_cell? w _ hx405_0)).trans hx405_0
      replace hx405_1 := (HB.out.cell (World.block_lt_of_cell? w _ hx405_1)).trans hx405_1
      replace hx405_2 := (HB.out.cell (World.block_lt_of_cell? w _ hx405_2)).trans hx405_2
      replace hx405_3 := (HB.out.cell (World.block_lt_of_cell? w _ hx405_3)).trans hx405_3
      have HR405_2 := Aside0.mk hi405_2
      have HC405_2 := Aside0.mk hl405_2
      clear hi405_2 hl405_2
      have HR405_3 := Aside0.mk hi405_3
      have HC405_3 := Aside0.mk hl405_3
      clear hi405_3 hl405_3
      replace p405 := eq_true p405
      replace q405 := eq_true q405
      go_wp2
      go_loopg [5] k1 (fun kq v5 w' => ∃ (x3_2 : List Bool) (x5_2 : Int), v5 = .int .i64 x5_2 ∧ Aside0 (spec_l07Alive.l1 kq x3_2 x5_2 a0_0 a0_1 l0_2 l0_3 = some r) ∧ Aside0 (kq ≤ k1) ∧ Aside0 (Kd.R Kd.bool 4 w' w.heap.size (fun _ => True) v403 x3_2) ∧ Aside0 (Below w.heap.size w w'))
      case atStart => exact ⟨(x3_1), (0), (by first | rfl | (simp; done) | (simp [*]; done)), H', ⟨Nat.le_refl _⟩, ⟨by (with_reducible repeat (first | apply rA | apply rN | apply rD)); exact HO_3.out⟩, ⟨by repeat (first | (with_reducible first | exact HB.out | apply bA | apply bN | apply bD) | exact HB.out)⟩⟩
      case round =>
       clear H'
       try clear p1
       try clear q1
       try clear hx1
       try clear hf1
       try clear c2
       try clear c2b0
       try clear c2b1
       try clear p2
       try clear c3
       try clear c3b0
       try clear c3b1
       try clear c4
       try clear p4
       try clear q4
       try clear hx4
       try clear qi4
       try clear c6
       try clear c6b0
       try clear p6
       try clear c7
       try clear c7b0
       try clear c8
       try clear c8b0
       try clear c9
       try clear c9b0
       try clear p10
       try clear q10
       try clear hx10
       try clear hf10
       try clear hx10_0
       try clear hx401_0
       try clear hx401_1
       try clear hx401_2
       try clear hx401_3
       try clear hx405_0
       try clear hx405_1
       try clear hx405_2
       try clear hx405_3
       try clear hx406_0
       try clear p10
       try clear p2
       try clear p4
       try clear p401
       try clear p405
       try clear p406
       try clear q10
       try clear q4
       try clear q401
       try clear q405
       try clear q406
       obtain ⟨x3_2, x5_2, rfl, HA, HK2, HO_3, HB⟩ := hrel
       cases gk with
       | zero => exact absurd HA.out (by simp [spec_l07Alive.l1])
       | succ k2 =>
        have H := HA.out
        clear HA
        simp only [spec_l07Alive.l1] at H
        by_cases c13 : x5_2 < a0_0
        ·rw [if_pos c13] at H
         have c13b0 : decide (x5_2 < a0_0) = true := decide_eq_true c13
         clear c13
         have H' := Aside0.mk H
         clear H
         have p408 : 0 ≤ (0 : Int) := (by omega)
         have q408 : 0 < ([(⟨a0_0, a0_1, l0_2, l0_3⟩ : S30)].length : Int) := (by simp)
         obtain ⟨ad408, A408_2, c408_2, A408_3, c408_3, e408, hx408_0, hx408_1, hx408_2, hx408_3, hl408_2, hi408_2, hl408_3, hi408_3⟩ := at_T30 HRp0.out 0 p408 q408
         replace hx408_0 : _ = (some (.int .i64 a0_0) : Option Value) := hx408_0
         replace hx408_1 : _ = (some (.int .i64 a0_1) : Option Value) := hx408_1
         replace hx408_2 : _ = (some (.slice A408_2 l0_2.length c408_2) : Option Value) := hx408_2
         replace hi408_2 : Kd.C (Kd.int .i64) _ _ l0_2.length l0_2 := hi408_2
         replace hl408_2 : l0_2.length ≤ _ := hl408_2
         replace hx408_3 : _ = (some (.slice A408_3 l0_3.length c408_3) : Option Value) := hx408_3
         replace hi408_3 : Kd.C k67 _ _ l0_3.length l0_3 := hi408_3
         replace hl408_3 : l0_3.length ≤ _ := hl408_3
         obtain rfl : adp0 = ad408 := (by injection e408)
         have qi408 : (0 < [(⟨a0_0, a0_1, l0_2, l0_3⟩ : S30)].length) = True := eq_true (by simp)
         (try rw [show ((0 : Int)).toNat = 0 from rfl] at hx408_0)
         (try rw [show 0 * 4 = 0 from rfl] at hx408_0)
         (try rw [Addr.add_zero'] at hx408_0)
         (try rw [show ((0 : Int)).toNat = 0 from rfl] at hx408_1)
         (try rw [show 0 * 4 = 0 from rfl] at hx408_1)
         (try rw [Addr.add_zero'] at hx408_1)
         (try rw [show ((0 : Int)).toNat = 0 from rfl] at hx408_2)
         (try rw [show 0 * 4 = 0 from rfl] at hx408_2)
         (try rw [Addr.add_zero'] at hx408_2)
         (try rw [show ((0 : Int)).toNat = 0 from rfl] at hx408_3)
         (try rw [show 0 * 4 = 0 from rfl] at hx408_3)
         (try rw [Addr.add_zero'] at hx408_3)
         replace hx408_0 := (HB.out.cell (World.block_lt_of_cell? w _ hx408_0)).trans hx408_0
         replace hx408_1 := (HB.out.cell (World.block_lt_of_cell? w _ hx408_1)).trans hx408_1
         replace hx408_2 := (HB.out.cell (World.block_lt_of_cell? w _ hx408_2)).trans hx408_2
         replace hx408_3 := (HB.out.cell (World.block_lt_of_cell? w _ hx408_3)).trans hx408_3
         have HR408_2 := Aside0.mk hi408_2
         have HC408_2 := Aside0.mk hl408_2
         clear hi408_2 hl408_2
         have HR408_3 := Aside0.mk hi408_3
         have HC408_3 := Aside0.mk hl408_3
         clear hi408_3 hl408_3
         replace p408 := eq_true p408
         replace q408 := eq_true q408
         go_wp2
         go_loopg [6] k2 (fun kq v6 w' => ∃ (x3_3 : List Bool) (x6_3 : Int), v6 = .int .i64 x6_3 ∧ Aside0 (spec_l07Alive.l2 kq x3_3 x5_2 x6_3 a0_0 a0_1 l0_2 l0_3 = some r) ∧ Aside0 (kq ≤ k2) ∧ Aside0 (Kd.R Kd.bool 4 w' w.heap.size (fun _ => True) v403 x3_3) ∧ Aside0 (Below w.heap.size w w'))
         case atStart => exact ⟨(x3_2), (0), (by first | rfl | (simp; done) | (simp [*]; done)), H', ⟨Nat.le_refl _⟩, ⟨by (with_reducible repeat (first | apply rA | apply rN | apply rD)); exact HO_3.out⟩, ⟨by repeat (first | (with_reducible first | exact HB.out | apply bA | apply bN | apply bD) | exact HB.out)⟩⟩
         case round =>
          clear H'
          try clear c1
          try clear p1
          try clear q1
          try clear hx1
          try clear hf1
          try clear c2
          try clear c2b0
          try clear c2b1
          try clear p2
          try clear c3
          try clear c3b0
          try clear c3b1
          try clear c4
          try clear p4
          try clear q4
          try clear hx4
          try clear qi4
          try clear c6
          try clear c6b0
          try clear p6
          try clear c7
          try clear c7b0
          try clear c8
          try clear c8b0
          try clear c9
          try clear c9b0
          try clear p10
          try clear q10
          try clear hx10
          try clear hf10
          try clear c13
          try clear c13b0
          try clear hx10_0
          try clear hx401_0
          try clear hx401_1
          try clear hx401_2
          try clear hx401_3
          try clear hx405_0
          try clear hx405_1
          try clear hx405_2
          try clear hx405_3
          try clear hx406_0
          try clear hx408_0
          try clear hx408_1
          try clear hx408_2
          try clear hx408_3
          try clear p1
          try clear p10
          try clear p2
          try clear p4
          try clear p401
          try clear p405
          try clear p406
          try clear p408
          try clear p6
          try clear q1
          try clear q10
          try clear q4
          try clear q401
          try clear q405
          try clear q406
          try clear q408
          obtain ⟨x3_3, x6_3, rfl, HA, HK3, HO_3, HB⟩ := hrel
          cases gk with
          | zero => exact absurd HA.out (by simp [spec_l07Alive.l2])
          | succ k3 =>
           have H := HA.out
           clear HA
           simp only [spec_l07Alive.l2] at H
           by_cases c14 : x6_3 < (l0_3.length : Int)
           ·rw [if_pos c14] at H
            have c14b0 : decide (x6_3 < (l0_3.length : Int)) = true := decide_eq_true c14
            clear c14
            by_cases c15 : 0 ≤ x6_3
            ·rw [if_pos c15] at H
             have c15b0 : decide (0 ≤ x6_3) = true := decide_eq_true c15
             clear c15
             by_cases c16 : 0 ≤ ((rd_T67 l0_3 x6_3).f2)
             ·rw [if_pos c16] at H
              have c16b0 : decide (0 ≤ ((rd_T67 l0_3 x6_3).f2)) = true := decide_eq_true c16
              clear c16
              by_cases c17 : ((rd_T67 l0_3 x6_3).f2) < (x3_3.length : Int)
              ·rw [if_pos c17] at H
               have c17b0 : decide (((rd_T67 l0_3 x6_3).f2) < (x3_3.length : Int)) = true := decide_eq_true c17
               clear c17
               obtain ⟨bq18, hbq18⟩ : ∃ b_ : Bool, b_ = (rdOf false x3_3 ((rd_T67 l0_3 x6_3).f2)) := ⟨_, rfl⟩
               replace H : (if bq18 = true then (if 0 ≤ ((rd_T67 l0_3 x6_3).f0) then (if ((rd_T67 l0_3 x6_3).f0) < (x3_3.length : Int) then (spec_l07Alive.l2 k3 (x3_3.set (((rd_T67 l0_3 x6_3).f0) : Int).toNat true) x5_2 (wrap64 (x6_3 + 1)) a0_0 a0_1 l0_2 l0_3) else (none)) else (none)) else (spec_l07Alive.l2 k3 x3_3 x5_2 (wrap64 (x6_3 + 1)) a0_0 a0_1 l0_2 l0_3)) = some r := by rw [← hbq18] at H; exact H
               have Nbq18 := Aside0.mk hbq18
               clear hbq18
               by_cases c19 : bq18 = true
               ·subst c19
                have H1 : (if 0 ≤ ((rd_T67 l0_3 x6_3).f0) then (if ((rd_T67 l0_3 x6_3).f0) < (x3_3.length : Int) then (spec_l07Alive.l2 k3 (x3_3.set (((rd_T67 l0_3 x6_3).f0) : Int).toNat true) x5_2 (wrap64 (x6_3 + 1)) a0_0 a0_1 l0_2 l0_3) else (none)) else (none)) = some r := by rw [if_pos rfl] at H; exact H
                clear H
                have H := H1
                clear H1
                by_cases c20 : 0 ≤ ((rd_T67 l0_3 x6_3).f0)
                ·rw [if_pos c20] at H
                 have c20b0 : decide (0 ≤ ((rd_T67 l0_3 x6_3).f0)) = true := decide_eq_true c20
                 clear c20
                 by_cases c21 : ((rd_T67 l0_3 x6_3).f0) < (x3_3.length : Int)
                 ·rw [if_pos c21] at H
                  have c21b0 : decide (((rd_T67 l0_3 x6_3).f0) < (x3_3.length : Int)) = true := decide_eq_true c21
                  clear c21
                  obtain ⟨y413, hy413⟩ : ∃ y_ : List Bool, y_ = (x3_3.set (((rd_T67 l0_3 x6_3).f0) : Int).toNat true) := ⟨_, rfl⟩
                  replace H : (spec_l07Alive.l2 k3 y413 x5_2 (wrap64 (x6_3 + 1)) a0_0 a0_1 l0_2 l0_3) = some r := by first | (rw [hy413]; with_reducible exact H) | (have H2_ := (Option.bind_some _ _).symm.trans H; rw [hy413]; with_reducible exact H2_) | (have H2_ := (Option.bind_some _ _).symm.trans H; with_reducible exact H2_) | with_reducible exact H | (rw [hy413]; exact H) | exact H
                  have Ny413 := Aside0.mk hy413
                  clear hy413
                  have H' := Aside0.mk H
                  clear H
                  have p409 : 0 ≤ (0 : Int) := (by omega)
                  have q409 : 0 < ([(⟨a0_0, a0_1, l0_2, l0_3⟩ : S30)].length : Int) := (by simp)
                  obtain ⟨ad409, A409_2, c409_2, A409_3, c409_3, e409, hx409_0, hx409_1, hx409_2, hx409_3, hl409_2, hi409_2, hl409_3, hi409_3⟩ := at_T30 HRp0.out 0 p409 q409
                  replace hx409_0 : _ = (some (.int .i64 a0_0) : Option Value) := hx409_0
                  replace hx409_1 : _ = (some (.int .i64 a0_1) : Option Value) := hx409_1
                  replace hx409_2 : _ = (some (.slice A409_2 l0_2.length c409_2) : Option Value) := hx409_2
                  replace hi409_2 : Kd.C (Kd.int .i64) _ _ l0_2.length l0_2 := hi409_2
                  replace hl409_2 : l0_2.length ≤ _ := hl409_2
                  replace hx409_3 : _ = (some (.slice A409_3 l0_3.length c409_3) : Option Value) := hx409_3
                  replace hi409_3 : Kd.C k67 _ _ l0_3.length l0_3 := hi409_3
                  replace hl409_3 : l0_3.length ≤ _ := hl409_3
                  obtain rfl : adp0 = ad409 := (by injection e409)
                  have qi409 : (0 < [(⟨a0_0, a0_1, l0_2, l0_3⟩ : S30)].length) = True := eq_true (by simp)
                  (try rw [show ((0 : Int)).toNat = 0 from rfl] at hx409_0)
                  (try rw [show 0 * 4 = 0 from rfl] at hx409_0)
                  (try rw [Addr.add_zero'] at hx409_0)
                  (try rw [show ((0 : Int)).toNat = 0 from rfl] at hx409_1)
                  (try rw [show 0 * 4 = 0 from rfl] at hx409_1)
                  (try rw [Addr.add_zero'] at hx409_1)
                  (try rw [show ((0 : Int)).toNat = 0 from rfl] at hx409_2)
                  (try rw [show 0 * 4 = 0 from rfl] at hx409_2)
                  (try rw [Addr.add_zero'] at hx409_2)
                  (try rw [show ((0 : Int)).toNat = 0 from rfl] at hx409_3)
                  (try rw [show 0 * 4 = 0 from rfl] at hx409_3)
                  (try rw [Addr.add_zero'] at hx409_3)
                  replace hx409_0 := (HB.out.cell (World.block_lt_of_cell? w _ hx409_0)).trans hx409_0
                  replace hx409_1 := (HB.out.cell (World.block_lt_of_cell? w _ hx409_1)).trans hx409_1
                  replace hx409_2 := (HB.out.cell (World.block_lt_of_cell? w _ hx409_2)).trans hx409_2
                  replace hx409_3 := (HB.out.cell (World.block_lt_of_cell? w _ hx409_3)).trans hx409_3
                  have HR409_2 := Aside0.mk hi409_2
                  have HC409_2 := Aside0.mk hl409_2
                  clear hi409_2 hl409_2
                  have HR409_3 := Aside0.mk hi409_3
                  have HC409_3 := Aside0.mk hl409_3
                  clear hi409_3 hl409_3
                  replace p409 := eq_true p409
                  replace q409 := eq_true q409
                  have p410 : 0 ≤ (x6_3 : Int) := of_decide_eq_true (by first | (with_reducible assumption) | assumption)
                  have q410 : x6_3 < (l0_3.length : Int) := of_decide_eq_true (by first | (with_reducible assumption) | assumption)
                  obtain ⟨ad410, e410, hx410_0, hx410_1, hx410_2⟩ := at_T67 HR409_3.out x6_3 p410 q410
                  cases e410
                  replace hx410_0 := (HB.out.cell (World.block_lt_of_cell? w _ hx410_0)).trans hx410_0
                  replace hx410_1 := (HB.out.cell (World.block_lt_of_cell? w _ hx410_1)).trans hx410_1
                  replace hx410_2 := (HB.out.cell (World.block_lt_of_cell? w _ hx410_2)).trans hx410_2
                  replace p410 := eq_true p410
                  replace q410 := eq_true q410
                  obtain ⟨Ao23, co23, eo23⟩ := Kd.R_slice HO_3.out
                  subst eo23
                  have p411 : 0 ≤ (((rd_T67 l0_3 x6_3).f2) : Int) := of_decide_eq_true (by first | (with_reducible assumption) | assumption)
                  have q411 : ((rd_T67 l0_3 x6_3).f2) < (x3_3.length : Int) := of_decide_eq_true (by first | (with_reducible assumption) | assumption)
                  obtain ⟨ad411, e411, hx411_0⟩ := Kd.at_bool (Kd.R_reads' HO_3.out).2.2 ((rd_T67 l0_3 x6_3).f2) p411 q411
                  (try rw [← Nbq18.out] at hx411_0)
                  cases e411
                  replace p411 := eq_true p411
                  replace q411 := eq_true q411
                  have p412 : 0 ≤ (x6_3 : Int) := of_decide_eq_true (by first | (with_reducible assumption) | assumption)
                  have q412 : x6_3 < (l0_3.length : Int) := of_decide_eq_true (by first | (with_reducible assumption) | assumption)
                  obtain ⟨ad412, e412, hx412_0, hx412_1, hx412_2⟩ := at_T67 HR409_3.out x6_3 p412 q412
                  obtain rfl : ad410 = ad412 := (by injection e412)
                  replace hx412_0 := (HB.out.cell (World.block_lt_of_cell? w _ hx412_0)).trans hx412_0
                  replace hx412_1 := (HB.out.cell (World.block_lt_of_cell? w _ hx412_1)).trans hx412_1
                  replace hx412_2 := (HB.out.cell (World.block_lt_of_cell? w _ hx412_2)).trans hx412_2
                  replace p412 := eq_true p412
                  replace q412 := eq_true q412
                  have p22 : 0 ≤ (((rd_T67 l0_3 x6_3).f0) : Int) := of_decide_eq_true (by first | (with_reducible assumption) | assumption)
                  have q22 : (((rd_T67 l0_3 x6_3).f0) : Int) < ((x3_3.length : Int) : Int) := of_decide_eq_true (by first | (with_reducible assumption) | assumption)
                  obtain ⟨go22, co22, eo22, gb22, gl22, cl22, HG22⟩ := Kd.R_form HO_3.out (by omega)
                  (first | cases eo22 | (injection eo22 with ea_ en_ ec_; (first | subst ea_ | (injection ea_ with ea_; subst ea_)); subst ec_; clear en_))
                  have GB22 := Aside0.mk gb22
                  have GG22 := Aside0.mk HG22
                  clear gb22 gl22 HG22
                  (first | simp only [add_plain] at hx411_0 | skip)
                  obtain ⟨hx22_0, hf22_0⟩ := Kd.R_celln false HO_3.out (((rd_T67 l0_3 x6_3).f0) : Int) p22 q22
                  replace p22 := eq_true p22
                  replace q22 := eq_true q22
                  have HP24 := Kd.R_putg HO_3.out (((rd_T67 l0_3 x6_3).f0) : Int) true
                  go_wp2_with (first | ((with_reducible refine gate_store (t := 4) (p := 67) rfl ?_); refine store_event (t := 4) (p := 67) (v := ?vo_w25) (w1 := (wr.setCell ⟨go22, (((rd_T67 l0_3 x6_3).f0) : Int).toNat, none⟩ (.bool true))) ?hg ?ho ?hn ?hr ?_; (case ho => rfl); (case hg => rfl); (case hn => rfl); (case hr => first | (go_simp; done) | (go_simp; rfl)); intro w25 hw; have hg : wr.grownBy w25 (some go22) := (by rw [hw]; exact HP24.2); have hp_ : Kd.R Kd.bool 4 w25 w.heap.size (fun _ => True) (.slice (some ⟨go22, 0, none⟩) x3_3.length co23) y413 := (by rw [hw, Ny413.out]; exact HP24.1); clear HP24; have n0_ := Aside0.mk (hp_); have n1_ := Aside0.mk ((by rw [hw]; exact bS (HB.out) GB22.out : Below w.heap.size w w25)); clear HO_3; clear HB; have HO_3 := n0_; have HB := n1_; clear n0_ n1_; clear hg hw hp_))
                  go_roundg k3
                  case measure => have := HK1.out; have := HK2.out; have := HK3.out; omega
                  case rel => exact ⟨(y413), (wrap64 (x6_3 + 1)), (by first | rfl | (simp; done) | (simp [*]; done)), H', ⟨by have := HK1.out; have := HK2.out; have := HK3.out; omega⟩, ⟨by (with_reducible repeat (first | apply rA | apply rN | apply rD)); exact HO_3.out⟩, ⟨by repeat (first | (with_reducible first | exact HB.out | apply bA | apply bN | apply bD) | exact HB.out)⟩⟩
                 ·rw [if_neg c21] at H
                  exact absurd H (by simp)
                ·rw [if_neg c20] at H
                 exact absurd H (by simp)
               ·replace c19 := Bool.eq_false_iff.mpr c19
                subst c19
                have H1 : (spec_l07Alive.l2 k3 x3_3 x5_2 (wrap64 (x6_3 + 1)) a0_0 a0_1 l0_2 l0_3) = some r := by rw [if_neg (show ¬ (false = true) by decide)] at H; exact H
                clear H
                have H := H1
                clear H1
                have H' := Aside0.mk H
                clear H
                have p409 : 0 ≤ (0 : Int) := (by omega)
                have q409 : 0 < ([(⟨a0_0, a0_1, l0_2, l0_3⟩ : S30)].length : Int) := (by simp)
                obtain ⟨ad409, A409_2, c409_2, A409_3, c409_3, e409, hx409_0, hx409_1, hx409_2, hx409_3, hl409_2, hi409_2, hl409_3, hi409_3⟩ := at_T30 HRp0.out 0 p409 q409
                replace hx409_0 : _ = (some (.int .i64 a0_0) : Option Value) := hx409_0
                replace hx409_1 : _ = (some (.int .i64 a0_1) : Option Value) := hx409_1
                replace hx409_2 : _ = (some (.slice A409_2 l0_2.length c409_2) : Option Value) := hx409_2
                replace hi409_2 : Kd.C (Kd.int .i64) _ _ l0_2.length l0_2 := hi409_2
                replace hl409_2 : l0_2.length ≤ _ := hl409_2
                replace hx409_3 : _ = (some (.slice A409_3 l0_3.length c409_3) : Option Value) := hx409_3
                replace hi409_3 : Kd.C k67 _ _ l0_3.length l0_3 := hi409_3
                replace hl409_3 : l0_3.length ≤ _ := hl409_3
                obtain rfl : adp0 = ad409 := (by injection e409)
                have qi409 : (0 < [(⟨a0_0, a0_1, l0_2, l0_3⟩ : S30)].length) = True := eq_true (by simp)
                (try rw [show ((0 : Int)).toNat = 0 from rfl] at hx409_0)
                (try rw [show 0 * 4 = 0 from rfl] at hx409_0)
                (try rw [Addr.add_zero'] at hx409_0)
                (try rw [show ((0 : Int)).toNat = 0 from rfl] at hx409_1)
                (try rw [show 0 * 4 = 0 from rfl] at hx409_1)
                (try rw [Addr.add_zero'] at hx409_1)
                (try rw [show ((0 : Int)).toNat = 0 from rfl] at hx409_2)
                (try rw [show 0 * 4 = 0 from rfl] at hx409_2)
                (try rw [Addr.add_zero'] at hx409_2)
                (try rw [show ((0 : Int)).toNat = 0 from rfl] at hx409_3)
                (try rw [show 0 * 4 = 0 from rfl] at hx409_3)
                (try rw [Addr.add_zero'] at hx409_3)
                replace hx409_0 := (HB.out.cell (World.block_lt_of_cell? w _ hx409_0)).trans hx409_0
                replace hx409_1 := (HB.out.cell (World.block_lt_of_cell? w _ hx409_1)).trans hx409_1
                replace hx409_2 := (HB.out.cell (World.block_lt_of_cell? w _ hx409_2)).trans hx409_2
                replace hx409_3 := (HB.out.cell (World.block_lt_of_cell? w _ hx409_3)).trans hx409_3
                have HR409_2 := Aside0.mk hi409_2
                have HC409_2 := Aside0.mk hl409_2
                clear hi409_2 hl409_2
                have HR409_3 := Aside0.mk hi409_3
                have HC409_3 := Aside0.mk hl409_3
                clear hi409_3 hl409_3
                replace p409 := eq_true p409
                replace q409 := eq_true q409
                have p410 : 0 ≤ (x6_3 : Int) := of_decide_eq_true (by first | (with_reducible assumption) | assumption)
                have q410 : x6_3 < (l0_3.length : Int) := of_decide_eq_true (by first | (with_reducible assumption) | assumption)
                obtain ⟨ad410, e410, hx410_0, hx410_1, hx410_2⟩ := at_T67 HR409_3.out x6_3 p410 q410
                cases e410
                replace hx410_0 := (HB.out.cell (World.block_lt_of_cell? w _ hx410_0)).trans hx410_0
                replace hx410_1 := (HB.out.cell (World.block_lt_of_cell? w _ hx410_1)).trans hx410_1
                replace hx410_2 := (HB.out.cell (World.block_lt_of_cell? w _ hx410_2)).trans hx410_2
                replace p410 := eq_true p410
                replace q410 := eq_true q410
                obtain ⟨Ao26, co26, eo26⟩ := Kd.R_slice HO_3.out
                subst eo26
                have p411 : 0 ≤ (((rd_T67 l0_3 x6_3).f2) : Int) := of_decide_eq_true (by first | (with_reducible assumption) | assumption)
                have q411 : ((rd_T67 l0_3 x6_3).f2) < (x3_3.length : Int) := of_decide_eq_true (by first | (with_reducible assumption) | assumption)
                obtain ⟨ad411, e411, hx411_0⟩ := Kd.at_bool (Kd.R_reads' HO_3.out).2.2 ((rd_T67 l0_3 x6_3).f2) p411 q411
                (try rw [← Nbq18.out] at hx411_0)
                cases e411
                replace p411 := eq_true p411
                replace q411 := eq_true q411
                go_wp2
                go_roundg k3
                case measure => have := HK1.out; have := HK2.out; have := HK3.out; omega
                case rel => exact ⟨(x3_3), (wrap64 (x6_3 + 1)), (by first | rfl | (simp; done) | (simp [*]; done)), H', ⟨by have := HK1.out; have := HK2.out; have := HK3.out; omega⟩, ⟨by (with_reducible repeat (first | apply rA | apply rN | apply rD)); exact HO_3.out⟩, ⟨by repeat (first | (with_reducible first | exact HB.out | apply bA | apply bN | apply bD) | exact HB.out)⟩⟩
              ·rw [if_neg c17] at H
               exact absurd H (by simp)
             ·rw [if_neg c16] at H
              exact absurd H (by simp)
            ·rw [if_neg c15] at H
             exact absurd H (by simp)
           ·rw [if_neg c14] at H
            have c14b0 : decide (x6_3 < (l0_3.length : Int)) = false := decide_eq_false c14
            clear c14
            have H' := Aside0.mk H
            clear H
            have p409 : 0 ≤ (0 : Int) := (by omega)
            have q409 : 0 < ([(⟨a0_0, a0_1, l0_2, l0_3⟩ : S30)].length : Int) := (by simp)
            obtain ⟨ad409, A409_2, c409_2, A409_3, c409_3, e409, hx409_0, hx409_1, hx409_2, hx409_3, hl409_2, hi409_2, hl409_3, hi409_3⟩ := at_T30 HRp0.out 0 p409 q409
            replace hx409_0 : _ = (some (.int .i64 a0_0) : Option Value) := hx409_0
            replace hx409_1 : _ = (some (.int .i64 a0_1) : Option Value) := hx409_1
            replace hx409_2 : _ = (some (.slice A409_2 l0_2.length c409_2) : Option Value) := hx409_2
            replace hi409_2 : Kd.C (Kd.int .i64) _ _ l0_2.length l0_2 := hi409_2
            replace hl409_2 : l0_2.length ≤ _ := hl409_2
            replace hx409_3 : _ = (some (.slice A409_3 l0_3.length c409_3) : Option Value) := hx409_3
            replace hi409_3 : Kd.C k67 _ _ l0_3.length l0_3 := hi409_3
            replace hl409_3 : l0_3.length ≤ _ := hl409_3
            obtain rfl : adp0 = ad409 := (by injection e409)
            have qi409 : (0 < [(⟨a0_0, a0_1, l0_2, l0_3⟩ : S30)].length) = True := eq_true (by simp)
            (try rw [show ((0 : Int)).toNat = 0 from rfl] at hx409_0)
            (try rw [show 0 * 4 = 0 from rfl] at hx409_0)
            (try rw [Addr.add_zero'] at hx409_0)
            (try rw [show ((0 : Int)).toNat = 0 from rfl] at hx409_1)
            (try rw [show 0 * 4 = 0 from rfl] at hx409_1)
            (try rw [Addr.add_zero'] at hx409_1)
            (try rw [show ((0 : Int)).toNat = 0 from rfl] at hx409_2)
            (try rw [show 0 * 4 = 0 from rfl] at hx409_2)
            (try rw [Addr.add_zero'] at hx409_2)
            (try rw [show ((0 : Int)).toNat = 0 from rfl] at hx409_3)
            (try rw [show 0 * 4 = 0 from rfl] at hx409_3)
            (try rw [Addr.add_zero'] at hx409_3)
            replace hx409_0 := (HB.out.cell (World.block_lt_of_cell? w _ hx409_0)).trans hx409_0
            replace hx409_1 := (HB.out.cell (World.block_lt_of_cell? w _ hx409_1)).trans hx409_1
            replace hx409_2 := (HB.out.cell (World.block_lt_of_cell? w _ hx409_2)).trans hx409_2
            replace hx409_3 := (HB.out.cell (World.block_lt_of_cell? w _ hx409_3)).trans hx409_3
            have HR409_2 := Aside0.mk hi409_2
            have HC409_2 := Aside0.mk hl409_2
            clear hi409_2 hl409_2
            have HR409_3 := Aside0.mk hi409_3
            have HC409_3 := Aside0.mk hl409_3
            clear hi409_3 hl409_3
            replace p409 := eq_true p409
            replace q409 := eq_true q409
            go_wp2
            go_roundg k3
            case measure => have := HK1.out; have := HK2.out; have := HK3.out; omega
            case rel => exact ⟨(x3_3), (wrap64 (x5_2 + 1)), (by first | rfl | (simp; done) | (simp [*]; done)), H', ⟨by have := HK1.out; have := HK2.out; have := HK3.out; omega⟩, ⟨by (with_reducible repeat (first | apply rA | apply rN | apply rD)); exact HO_3.out⟩, ⟨by repeat (first | (with_reducible first | exact HB.out | apply bA | apply bN | apply bD) | exact HB.out)⟩⟩
        ·rw [if_neg c13] at H
         have c13b0 : decide (x5_2 < a0_0) = false := decide_eq_false c13
         clear c13
         obtain rfl := Option.some.inj H
         have p408 : 0 ≤ (0 : Int) := (by omega)
         have q408 : 0 < ([(⟨a0_0, a0_1, l0_2, l0_3⟩ : S30)].length : Int) := (by simp)
         obtain ⟨ad408, A408_2, c408_2, A408_3, c408_3, e408, hx408_0, hx408_1, hx408_2, hx408_3, hl408_2, hi408_2, hl408_3, hi408_3⟩ := at_T30 HRp0.out 0 p408 q408
         replace hx408_0 : _ = (some (.int .i64 a0_0) : Option Value) := hx408_0
         replace hx408_1 : _ = (some (.int .i64 a0_1) : Option Value) := hx408_1
         replace hx408_2 : _ = (some (.slice A408_2 l0_2.length c408_2) : Option Value) := hx408_2
         replace hi408_2 : Kd.C (Kd.int .i64) _ _ l0_2.length l0_2 := hi408_2
         replace hl408_2 : l0_2.length ≤ _ := hl408_2
         replace hx408_3 : _ = (some (.slice A408_3 l0_3.length c408_3) : Option Value) := hx408_3
         replace hi408_3 : Kd.C k67 _ _ l0_3.length l0_3 := hi408_3
         replace hl408_3 : l0_3.length ≤ _ := hl408_3
         obtain rfl : adp0 = ad408 := (by injection e408)
         have qi408 : (0 < [(⟨a0_0, a0_1, l0_2, l0_3⟩ : S30)].length) = True := eq_true (by simp)
         (try rw [show ((0 : Int)).toNat = 0 from rfl] at hx408_0)
         (try rw [show 0 * 4 = 0 from rfl] at hx408_0)
         (try rw [Addr.add_zero'] at hx408_0)
         (try rw [show ((0 : Int)).toNat = 0 from rfl] at hx408_1)
         (try rw [show 0 * 4 = 0 from rfl] at hx408_1)
         (try rw [Addr.add_zero'] at hx408_1)
         (try rw [show ((0 : Int)).toNat = 0 from rfl] at hx408_2)
         (try rw [show 0 * 4 = 0 from rfl] at hx408_2)
         (try rw [Addr.add_zero'] at hx408_2)
         (try rw [show ((0 : Int)).toNat = 0 from rfl] at hx408_3)
         (try rw [show 0 * 4 = 0 from rfl] at hx408_3)
         (try rw [Addr.add_zero'] at hx408_3)
         replace hx408_0 := (HB.out.cell (World.block_lt_of_cell? w _ hx408_0)).trans hx408_0
         replace hx408_1 := (HB.out.cell (World.block_lt_of_cell? w _ hx408_1)).trans hx408_1
         replace hx408_2 := (HB.out.cell (World.block_lt_of_cell? w _ hx408_2)).trans hx408_2
         replace hx408_3 := (HB.out.cell (World.block_lt_of_cell? w _ hx408_3)).trans hx408_3
         have HR408_2 := Aside0.mk hi408_2
         have HC408_2 := Aside0.mk hl408_2
         clear hi408_2 hl408_2
         have HR408_3 := Aside0.mk hi408_3
         have HC408_3 := Aside0.mk hl408_3
         clear hi408_3 hl408_3
         replace p408 := eq_true p408
         replace q408 := eq_true q408
         go_wp2
         go_ret
         exact ⟨_, by first | rfl | (simp [errW_none, errW_some] <;> rfl) | (simp [*, errW_none, errW_some] <;> rfl), by (with_reducible repeat (first | apply rA | apply rN | apply rD)); exact HO_3.out, by repeat (first | (with_reducible first | exact HB.out | apply bA | apply bN | apply bD) | exact HB.out)⟩
  ·rw [if_neg c3] at H
   exact absurd H (by simp)
 ·rw [if_neg c2] at H
  exact absurd H (by simp)

end Go.Proofs.Ytijbhcalknfijaa.M
-- shrunk
-- tight
