/- What functions of the given program compute, as plain Lean functions, and that the code comes to just that; by a program of this session over the kit's print. No condition. -/
import Derived.Test.YtijbhcalknfijaaM5x0
import Derived.Test.YtijbhcalknfijaaM5x7
import Derived.Test.YtijbhcalknfijaaM5x8
import Derived.Test.YtijbhcalknfijaaM5x9
import Derived.Test.YtijbhcalknfijaaM5x10
namespace Go.Proofs.Ytijbhcalknfijaa.M5
open Go.RowKit Go.Proofs.YtijbhcalknfijaaW.PrintWords Go.Proofs.YtijbhcalknfijaaW.PrintLast Go.Proofs.YtijbhcalknfijaaW.PrintMore
open Go.Proofs.YtijbhcalknfijaaW.PrintWords renaming below_alloc → bA, pw_below_drewN → bN, below_drew1 → bD, below_set → bS, blk_drewN → kN, blk_drew → kD, blk_alloc → kA, blk_below → kB, below_size → bZ, below_step → bP, gate_callee → gC, box_event → bE, blk_cell → kC
open Go.Proofs.YtijbhcalknfijaaW.PrintLast renaming take_ofW → tW, one_of → oO, i64_w → iW, i32_w → jW
open Go.Proofs.YtijbhcalknfijaaW.PrintWords.Kd renaming R_alloc → rA, R_drewN → rN, R_drew → rD, C_alloc → cA, C_drewN → cN, C_drew → cD, C_below → cB, R_lower → rL, R_elder' → rE, R_new' → rW, R_lt → rT, R_mono → rM
open List renaming setIfInBounds_toArray → sI, set_cons_zero → sZ, set_cons_succ → sS
open Bool renaming true → T, false → F
attribute [local go_sem] max2_int min2_int max_two min_two max_three min_three max_four min_four   -- for this text's walks alone
set_option linter.unusedVariables false
set_option linter.unusedSimpArgs false

/-! ### spec_NumberedMelody: function 33 -/
mutual
def spec_NumberedMelody.j0 : Nat → Int → Int → Bool → Int → Int → List Int → List (S67) → Option (List Int × Int)
 | 0, _, _, _, _, _, _, _ => none
 | k + 1, x1, x2, x30, x191000, x191001, x191002, x191003 => if x30 = true then (some (([] : List Int), 2)) else (spec_NumberedMelody.l0 k x2 (([] : List Int)) x191001 (wrap64 (x1 - 1)) x191000 x191001 x191002 x191003)
def spec_NumberedMelody.l0 : Nat → Int → List Int → Int → Int → Int → Int → List Int → List (S67) → Option (List Int × Int)
 | 0, _, _, _, _, _, _, _, _ => none
 | k + 1, x2, x8, x9, x10, x191000, x191001, x191002, x191003 => if x10 ≥ 0 then ((spec_l07Counts.f k x191000 x191001 x191002 x191003 x10).bind fun t201 => (spec_NumberedMelody.l1 k x2 x8 x9 x10 t201 0 x191000 x191001 x191002 x191003)) else (some (x8, 0))
def spec_NumberedMelody.l1 : Nat → Int → List Int → Int → Int → List Int → Int → Int → Int → List Int → List (S67) → Option (List Int × Int)
 | 0, _, _, _, _, _, _, _, _, _, _ => none
 | k + 1, x2, x8, x9, x10, x11, x12, x191000, x191001, x191002, x191003 => if x12 < (x191003.length : Int) then (if 0 ≤ x12 then (if ((rd_T67 x191003 x12).f0) = x9 then (if 0 ≤ ((rd_T67 x191003 x12).f2) then (if ((rd_T67 x191003 x12).f2) < (x11.length : Int) then (if x2 < (rd x11 ((rd_T67 x191003 x12).f2)) then (if x8.length < 17592186044416 then (spec_NumberedMelody.l0 k x2 (x8 ++ [(rd_T67 x191003 x12).f1]) ((rd_T67 x191003 x12).f2) (wrap64 (x10 - 1)) x191000 x191001 x191002 x191003) else (none)) else (spec_NumberedMelody.l1 k (wrap64 (x2 - (rd x11 ((rd_T67 x191003 x12).f2)))) x8 x9 x10 x11 (wrap64 (x12 + 1)) x191000 x191001 x191002 x191003)) else (none)) else (none)) else (spec_NumberedMelody.l1 k x2 x8 x9 x10 x11 (wrap64 (x12 + 1)) x191000 x191001 x191002 x191003)) else (none)) else (spec_NumberedMelody.l0 k x2 x8 x9 (wrap64 (x10 - 1)) x191000 x191001 x191002 x191003)
end
def spec_NumberedMelody.f (k : Nat) (a0_0 : Int) (a0_1 : Int) (l0_2 : List Int) (l0_3 : List (S67)) (a1 : Int) (a2 : Int) : Option (List Int × Int) := (spec_l07Ok.f k a0_0 a0_1 l0_2 l0_3).bind fun t191 => (if t191 = true then ((spec_l07Long.f a1).bind fun t192 => (if t192 = true then ((spec_l07Counts.f k a0_0 a0_1 l0_2 l0_3 a1).bind fun t193 => (if 0 ≤ a0_1 then (if a0_1 < (t193.length : Int) then ((spec_l00In.f a2 0 (wrap64 ((rd t193 a0_1) - 1))).bind fun t197 => (spec_NumberedMelody.j0 k a1 a2 (!t197) a0_0 a0_1 l0_2 l0_3)) else (none)) else (none))) else (spec_NumberedMelody.j0 k a1 a2 true a0_0 a0_1 l0_2 l0_3))) else (some (([] : List Int), 1)))
theorem spec_NumberedMelody.mono_l : ∀ k, (∀ y0 y1 y2 y3 y4 y5 y6, LeO (spec_NumberedMelody.j0 k y0 y1 y2 y3 y4 y5 y6) (spec_NumberedMelody.j0 (k + 1) y0 y1 y2 y3 y4 y5 y6)) ∧ (∀ y0 y1 y2 y3 y4 y5 y6 y7, LeO (spec_NumberedMelody.l0 k y0 y1 y2 y3 y4 y5 y6 y7) (spec_NumberedMelody.l0 (k + 1) y0 y1 y2 y3 y4 y5 y6 y7)) ∧ (∀ y0 y1 y2 y3 y4 y5 y6 y7 y8 y9, LeO (spec_NumberedMelody.l1 k y0 y1 y2 y3 y4 y5 y6 y7 y8 y9) (spec_NumberedMelody.l1 (k + 1) y0 y1 y2 y3 y4 y5 y6 y7 y8 y9))
 | 0 => ⟨fun _ _ _ _ _ _ _ r h => by simp [spec_NumberedMelody.j0] at h, fun _ _ _ _ _ _ _ _ r h => by simp [spec_NumberedMelody.l0] at h, fun _ _ _ _ _ _ _ _ _ _ r h => by simp [spec_NumberedMelody.l1] at h⟩
 | k + 1 => by
  obtain ⟨ih0, ih1, ih2⟩ := spec_NumberedMelody.mono_l k
  refine ⟨?_, ?_, ?_⟩
  ·intro y0 y1 y2 y3 y4 y5 y6
   unfold spec_NumberedMelody.j0
   repeat' first
   | (with_reducible exact ih0 _ _ _ _ _ _ _)
   | (with_reducible exact ih1 _ _ _ _ _ _ _ _)
   | (with_reducible exact ih2 _ _ _ _ _ _ _ _ _ _)
   | (with_reducible exact spec_l07Counts.mono _ _ _ _ _ _)
   | (with_reducible exact spec_l07Ok.mono _ _ _ _ _)
   | (with_reducible exact LeO.refl _)
   | (with_reducible exact LeO.none _)
   | (with_reducible refine LeO.ite ?_ ?_)
   | (with_reducible refine LeO.bind ?_ (fun _ => ?_))
   | exact ih0 _ _ _ _ _ _ _
   | exact ih1 _ _ _ _ _ _ _ _
   | exact ih2 _ _ _ _ _ _ _ _ _ _
   | exact spec_l07Counts.mono _ _ _ _ _ _
   | exact spec_l07Ok.mono _ _ _ _ _
   | exact LeO.none _
   | refine LeO.ite ?_ ?_
   | refine LeO.bind ?_ (fun _ => ?_)
  ·intro y0 y1 y2 y3 y4 y5 y6 y7
   unfold spec_NumberedMelody.l0
   repeat' first
   | (with_reducible exact ih0 _ _ _ _ _ _ _)
   | (with_reducible exact ih1 _ _ _ _ _ _ _ _)
   | (with_reducible exact ih2 _ _ _ _ _ _ _ _ _ _)
   | (with_reducible exact spec_l07Counts.mono _ _ _ _ _ _)
   | (with_reducible exact spec_l07Ok.mono _ _ _ _ _)
   | (with_reducible exact LeO.refl _)
   | (with_reducible exact LeO.none _)
   | (with_reducible refine LeO.ite ?_ ?_)
   | (with_reducible refine LeO.bind ?_ (fun _ => ?_))
   | exact ih0 _ _ _ _ _ _ _
   | exact ih1 _ _ _ _ _ _ _ _
   | exact ih2 _ _ _ _ _ _ _ _ _ _
   | exact spec_l07Counts.mono _ _ _ _ _ _
   | exact spec_l07Ok.mono _ _ _ _ _
   | exact LeO.none _
   | refine LeO.ite ?_ ?_
   | refine LeO.bind ?_ (fun _ => ?_)
  ·intro y0 y1 y2 y3 y4 y5 y6 y7 y8 y9
   unfold spec_NumberedMelody.l1
   repeat' first
   | (with_reducible exact ih0 _ _ _ _ _ _ _)
   | (with_reducible exact ih1 _ _ _ _ _ _ _ _)
   | (with_reducible exact ih2 _ _ _ _ _ _ _ _ _ _)
   | (with_reducible exact spec_l07Counts.mono _ _ _ _ _ _)
   | (with_reducible exact spec_l07Ok.mono _ _ _ _ _)
   | (with_reducible exact LeO.refl _)
   | (with_reducible exact LeO.none _)
   | (with_reducible refine LeO.ite ?_ ?_)
   | (with_reducible refine LeO.bind ?_ (fun _ => ?_))
   | exact ih0 _ _ _ _ _ _ _
   | exact ih1 _ _ _ _ _ _ _ _
   | exact ih2 _ _ _ _ _ _ _ _ _ _
   | exact spec_l07Counts.mono _ _ _ _ _ _
   | exact spec_l07Ok.mono _ _ _ _ _
   | exact LeO.none _
   | refine LeO.ite ?_ ?_
   | refine LeO.bind ?_ (fun _ => ?_)
theorem spec_NumberedMelody.mono : ∀ a0 a1 a2 a3 a4 a5 k, LeO (spec_NumberedMelody.f k a0 a1 a2 a3 a4 a5) (spec_NumberedMelody.f (k + 1) a0 a1 a2 a3 a4 a5) := by
 intro a0 a1 a2 a3 a4 a5 k
 obtain ⟨ih0, ih1, ih2⟩ := spec_NumberedMelody.mono_l k
 unfold spec_NumberedMelody.f
 repeat' first
   | (with_reducible exact ih0 _ _ _ _ _ _ _)
   | (with_reducible exact ih1 _ _ _ _ _ _ _ _)
   | (with_reducible exact ih2 _ _ _ _ _ _ _ _ _ _)
   | (with_reducible exact spec_l07Counts.mono _ _ _ _ _ _)
   | (with_reducible exact spec_l07Ok.mono _ _ _ _ _)
   | (with_reducible exact LeO.refl _)
   | (with_reducible exact LeO.none _)
   | (with_reducible refine LeO.ite ?_ ?_)
   | (with_reducible refine LeO.bind ?_ (fun _ => ?_))
   | exact ih0 _ _ _ _ _ _ _
   | exact ih1 _ _ _ _ _ _ _ _
   | exact ih2 _ _ _ _ _ _ _ _ _ _
   | exact spec_l07Counts.mono _ _ _ _ _ _
   | exact spec_l07Ok.mono _ _ _ _ _
   | exact LeO.none _
   | refine LeO.ite ?_ ?_
   | refine LeO.bind ?_ (fun _ => ?_)
def spec_NumberedMelody.T3 : Bool × List (List Nat × List Nat) := (true, [([], []), ([0], [0]), ([1], [1]), ([2, 1], [2]), ([3], [3]), ([3], [3]), ([5, 3, 3], [3, 5]), ([3], [3]), ([7, 3], [3, 7]), ([6, 8, 3], [3, 6, 8]), ([9, 3], [3, 9]), ([10, 3], [3, 10]), ([4, 11, 6, 3], [3, 4, 11]), ([12, 3], [3, 12]), ([3, 13], [3, 13])])
def spec_NumberedMelody.B3 : List Nat := [0, 1, 3, 7, 15, 15, 47, 15, 143, 495, 1007, 2031, 4095, 8191, 16383]
theorem spec_NumberedMelody.tab3 : rtab .any (opsOf Try.f33 3) = spec_NumberedMelody.T3 := by kernel_rfl
theorem spec_NumberedMelody.bits3 : waitsOk spec_NumberedMelody.T3.2 spec_NumberedMelody.B3 = true := by kernel_rfl
set_option maxHeartbeats 8000000 in
set_option maxRecDepth 100000 in
theorem spec_NumberedMelody.calls (k : Nat) (a0_0 : Int) (a0_1 : Int) (A0_2 : Option Addr) (c0_2 : Nat) (l0_2 : List Int) (A0_3 : Option Addr) (c0_3 : Nat) (l0_3 : List (S67)) (a1 : Int) (a2 : Int) (r1 : List Int) (r2 : Int) (w : World) (hr0_2 : Kd.C (Kd.int .i64) w A0_2 l0_2.length l0_2) (hc0_2 : l0_2.length ≤ c0_2) (hr0_3 : Kd.C k67 w A0_3 l0_3.length l0_3) (hc0_3 : l0_3.length ≤ c0_3) (h : spec_NumberedMelody.f k a0_0 a0_1 l0_2 l0_3 a1 a2 = some (r1, r2)) :
  Calls Try.prog 33 #[.agg #[.int .i64 a0_0, .int .i64 a0_1, .slice A0_2 l0_2.length c0_2, .slice A0_3 l0_3.length c0_3], .int .i64 a1, .int .i64 a2] w fun e w' => ∃ v0_ : Value, e = .returned (.tuple #[v0_, .int .i64 r2]) ∧ Kd.R (Kd.int .i64) 2 w' w.heap.size (fun _ => True) v0_ r1 ∧ Below w.heap.size w w' := by
 have hu30 := Try.underlying30
 have HR0_2 := Aside0.mk hr0_2
 have HC0_2 := Aside0.mk hc0_2
 clear hr0_2 hc0_2
 have HR0_3 := Aside0.mk hr0_3
 have HC0_3 := Aside0.mk hc0_3
 clear hr0_3 hc0_3
 have HB := Aside0.mk (Below.refl w.heap.size w)
 have H : ((spec_l07Ok.f k a0_0 a0_1 l0_2 l0_3).bind fun t191 => (if t191 = true then ((spec_l07Long.f a1).bind fun t192 => (if t192 = true then ((spec_l07Counts.f k a0_0 a0_1 l0_2 l0_3 a1).bind fun t193 => (if 0 ≤ a0_1 then (if a0_1 < (t193.length : Int) then ((spec_l00In.f a2 0 (wrap64 ((rd t193 a0_1) - 1))).bind fun t197 => (spec_NumberedMelody.j0 k a1 a2 (!t197) a0_0 a0_1 l0_2 l0_3)) else (none)) else (none))) else (spec_NumberedMelody.j0 k a1 a2 true a0_0 a0_1 l0_2 l0_3))) else (some (([] : List Int), 1)))) = some (r1, r2) := h
 clear h
 replace H := Option.bind_eq_some_iff.mp H
 obtain ⟨t191, A40, H⟩ := H
 replace H : (if t191 = true then ((spec_l07Long.f a1).bind fun t192 => (if t192 = true then ((spec_l07Counts.f k a0_0 a0_1 l0_2 l0_3 a1).bind fun t193 => (if 0 ≤ a0_1 then (if a0_1 < (t193.length : Int) then ((spec_l00In.f a2 0 (wrap64 ((rd t193 a0_1) - 1))).bind fun t197 => (spec_NumberedMelody.j0 k a1 a2 (!t197) a0_0 a0_1 l0_2 l0_3)) else (none)) else (none))) else (spec_NumberedMelody.j0 k a1 a2 true a0_0 a0_1 l0_2 l0_3))) else (some (([] : List Int), 1))) = some (r1, r2) := H
 have A4 := Aside0.mk A40
 clear A40
 by_cases c5 : t191 = true
 ·subst c5
  have H1 : ((spec_l07Long.f a1).bind fun t192 => (if t192 = true then ((spec_l07Counts.f k a0_0 a0_1 l0_2 l0_3 a1).bind fun t193 => (if 0 ≤ a0_1 then (if a0_1 < (t193.length : Int) then ((spec_l00In.f a2 0 (wrap64 ((rd t193 a0_1) - 1))).bind fun t197 => (spec_NumberedMelody.j0 k a1 a2 (!t197) a0_0 a0_1 l0_2 l0_3)) else (none)) else (none))) else (spec_NumberedMelody.j0 k a1 a2 true a0_0 a0_1 l0_2 l0_3))) = some (r1, r2) := by rw [if_pos rfl] at H; exact H
  clear H
  have H := H1
  clear H1
  have HC6 := Aside0.mk H
  clear H
  go_enter Try.func33, Try.ntmps33
  go_upto_region 3 with (first | ((with_reducible refine gate_dst (N := 3) rfl ?_); refine bE ?hg (N := 3) ?hd (cs := #[.int .i64 a0_0, .int .i64 a0_1, .slice A0_2 l0_2.length c0_2, .slice A0_3 l0_3.length c0_3]) (t := 30) ?hr ?_; (case hd => rfl); (case hg => rfl); (case hr => first | (go_simp; done) | (go_simp; rfl)); intro gb190 hg w7 hbox hb; have n0_ := Aside0.mk (bP (by repeat (first | (with_reducible first | exact HB.out | apply bA | apply bN | apply bD) | exact HB.out)) hb); have n1_ := Aside0.mk (hbox); have n2_ := Aside0.mk ((by rw [hg]; exact (bZ (by repeat (first | (with_reducible first | exact HB.out | apply bA | apply bN | apply bD) | exact HB.out))) : w.heap.size ≤ gb190)); have n3_ := Aside0.mk ((by rw [hg]; exact (bZ (by repeat (first | (with_reducible first | exact HB.out | apply bA | apply bN | apply bD) | exact HB.out))) : w.heap.size ≤ gb190)); clear HB; have HB := n0_; have BK190 := n1_; have GW190 := n2_; have GE190 := n3_; clear n0_ n1_ n2_ n3_; clear hb hbox hg) | ((with_reducible refine gC (f := 59) rfl ?_); refine goesL_ (some 14) rfl rfl Try.func59 (by kernel_rfl) rfl #[.pointer (some ⟨gb190, 0, none⟩)] rfl (by (try simp only [List.map_toArray, List.map_cons, List.map_nil]); first | done | rfl | (simp only [List.length_drop, List.length_take]; rfl)) ?_; (with_reducible refine (spec_l07Ok.calls k ⟨gb190, 0, none⟩ a0_0 a0_1 l0_2 l0_3 true _ ?side1 A4.out).mono ?_); (case side1 => exact C_box (show _ from by (with_reducible repeat (first | refine kN ?_ _ | refine kD ?_ | refine kA ?_ _)); exact BK190.out) (k30_mk _ (⟨a0_0, a0_1, l0_2, l0_3⟩ : S30) (by exact HC0_2.out) (by repeat (first | exact (cB HR0_2.out HB.out) | (with_reducible refine cA ?_ _) | (with_reducible refine cN ?_ _) | (with_reducible refine cD ?_))) (by exact HC0_3.out) (by repeat (first | exact (cB HR0_3.out HB.out) | (with_reducible refine cA ?_ _) | (with_reducible refine cN ?_ _) | (with_reducible refine cD ?_))))); rintro e w8 ⟨rfl, hb⟩; refine ⟨_, rfl, ?_⟩; have n0_ := Aside0.mk (kB (g := gb190) (o := .cells #[.int .i64 a0_0, .int .i64 a0_1, .slice A0_2 l0_2.length c0_2, .slice A0_3 l0_3.length c0_3] 30 (0, 0)) (by (with_reducible repeat (first | refine kN ?_ _ | refine kD ?_ | refine kA ?_ _)); exact BK190.out) hb); have n1_ := Aside0.mk (bP (by repeat (first | (with_reducible first | exact HB.out | apply bA | apply bN | apply bD | refine bS ?_ GE190.out) | exact HB.out)) hb); clear BK190; clear HB; have BK190 := n0_; have HB := n1_; clear n0_ n1_; (try clear hb); (try clear hb2); (try clear hk); (try clear hi)))
  (try simp only [Act.put, sI, sZ, sS])
  go_cut [30] (fun v30 wc => ∃ (kq : Nat) (x30_5 : Bool) (x191000_5 : Int) (x191001_5 : Int), v30 = .bool x30_5 ∧ Aside0 (spec_NumberedMelody.j0 kq a1 a2 x30_5 x191000_5 x191001_5 l0_2 l0_3 = some (r1, r2)) ∧ Aside0 (kq ≤ k) ∧ Aside0 (wc.heap[gb190]? = some (.cells #[.int .i64 x191000_5, .int .i64 x191001_5, (.slice A0_2 l0_2.length c0_2), (.slice A0_3 l0_3.length c0_3)] 30 (0, 0))) ∧ Aside0 (Below w.heap.size w wc))
  case first =>
   have H := HC6.out
   clear HC6
   replace H := Option.bind_eq_some_iff.mp H
   obtain ⟨t192, A90, H⟩ := H
   replace H : (if t192 = true then ((spec_l07Counts.f k a0_0 a0_1 l0_2 l0_3 a1).bind fun t193 => (if 0 ≤ a0_1 then (if a0_1 < (t193.length : Int) then ((spec_l00In.f a2 0 (wrap64 ((rd t193 a0_1) - 1))).bind fun t197 => (spec_NumberedMelody.j0 k a1 a2 (!t197) a0_0 a0_1 l0_2 l0_3)) else (none)) else (none))) else (spec_NumberedMelody.j0 k a1 a2 true a0_0 a0_1 l0_2 l0_3)) = some (r1, r2) := H
   have A9 := Aside0.mk A90
   clear A90
   by_cases c10 : t192 = true
   ·subst c10
    have H1 : ((spec_l07Counts.f k a0_0 a0_1 l0_2 l0_3 a1).bind fun t193 => (if 0 ≤ a0_1 then (if a0_1 < (t193.length : Int) then ((spec_l00In.f a2 0 (wrap64 ((rd t193 a0_1) - 1))).bind fun t197 => (spec_NumberedMelody.j0 k a1 a2 (!t197) a0_0 a0_1 l0_2 l0_3)) else (none)) else (none))) = some (r1, r2) := by rw [if_pos rfl] at H; exact H
    clear H
    have H := H1
    clear H1
    replace H := Option.bind_eq_some_iff.mp H
    obtain ⟨t193, A110, H⟩ := H
    replace H : (if 0 ≤ a0_1 then (if a0_1 < (t193.length : Int) then ((spec_l00In.f a2 0 (wrap64 ((rd t193 a0_1) - 1))).bind fun t197 => (spec_NumberedMelody.j0 k a1 a2 (!t197) a0_0 a0_1 l0_2 l0_3)) else (none)) else (none)) = some (r1, r2) := H
    have A11 := Aside0.mk A110
    clear A110
    by_cases c12 : 0 ≤ a0_1
    ·rw [if_pos c12] at H
     have c12b0 : decide (0 ≤ a0_1) = true := decide_eq_true c12
     clear c12
     (first | rw [c12b0] | (simp only [iW, jW]; rw [c12b0]) | skip)
     by_cases c13 : a0_1 < (t193.length : Int)
     ·rw [if_pos c13] at H
      have c13b0 : decide (a0_1 < (t193.length : Int)) = true := decide_eq_true c13
      clear c13
      replace H := Option.bind_eq_some_iff.mp H
      obtain ⟨t197, A140, H⟩ := H
      replace H : (spec_NumberedMelody.j0 k a1 a2 (!t197) a0_0 a0_1 l0_2 l0_3) = some (r1, r2) := H
      have A14 := Aside0.mk A140
      clear A140
      have H' := Aside0.mk H
      clear H
      try go_wp2
      have n0_ := Aside0.mk (kD BK190.out)
      have n1_ := Aside0.mk (bD HB.out)
      clear BK190
      clear HB
      have BK190 := n0_
      have HB := n1_
      clear n0_ n1_
      refine start_ (n := 15) (S := fun w' => w'.cell? ⟨gb190, 0, none⟩ = some (.int .i64 a0_0) ∧ w'.cell? ⟨gb190, 1, none⟩ = some (.int .i64 a0_1) ∧ w'.cell? ⟨gb190, 2, none⟩ = some (.slice A0_2 l0_2.length c0_2) ∧ w'.cell? ⟨gb190, 3, none⟩ = some (.slice A0_3 l0_3.length c0_3)) (ds := []) #[F,F,F,F,F,F,F,F,F,F,F,F,F,F,F] (by kernel_rfl) rfl rfl ⟨(kC BK190.out 0).trans rfl, (kC BK190.out 1).trans rfl, (kC BK190.out 2).trans rfl, (kC BK190.out 3).trans rfl⟩ (fun hHeld => ?_); refine with_tabW spec_NumberedMelody.tab3 spec_NumberedMelody.bits3 (fun HT_ HW_ => ?_)
      generalize w8.drew = w15 at BK190 HB hHeld ⊢
      refine pure_ (i := 0) (N := some 16) (v := ?_) (a' := ?_) #[T,F,F,F,F,F,F,F,F,F,F,F,F,F,F] rfl rfl (any_of HT_.out (by kernel_rfl)) (fun _ _ _ h => h) (Or.inl ⟨by rfl, ?_⟩) ?_ ?_; rotate_left; (·intro w'; go_simp; with_reducible rfl); rotate_left; (·simp only [Act.put, sI, sZ, sS, iW, jW]; rfl)
      refine one_ (i := 1) (N := some 17) #[T,T,F,F,F,F,F,F,F,F,F,F,F,F,F] rfl rfl (oO HT_.out (by kernel_rfl)) (by decide) (fun K hK => ?_)
      refine goes_ Try.func66 (by kernel_rfl) rfl #[.int .i64 a1] (by rfl) rfl rfl (by (try simp only [List.map_toArray, List.map_cons, List.map_nil]); first | done | rfl | (simp only [List.length_drop, List.length_take]; rfl)) ?_
      with_reducible refine (spec_l07Long.calls a1 true _ A9.out).mono ?_
      rintro e w' ⟨rfl, ⟨nd, rfl⟩⟩
      refine ⟨_, rfl, ?_⟩
      refine hK.out _ _ ⟨(kC BK190.out 0).trans rfl, (kC BK190.out 1).trans rfl, (kC BK190.out 2).trans rfl, (kC BK190.out 3).trans rfl⟩ (fun hHeld => ?_)
      clear hK K
      refine norm_ (a' := ?_) ?_ ?_
      rotate_left
      ·show Act.put _ (some 17) _ = _
       simp only [Act.put, sI, sZ, sS, iW, jW]
       rfl
      refine pure_ (i := 2) (N := some 18) (v := ?_) (a' := ?_) #[T,T,T,F,F,F,F,F,F,F,F,F,F,F,F] rfl rfl (any_of HT_.out (by kernel_rfl)) (fun _ _ _ h => h) (Or.inl ⟨by rfl, ?_⟩) ?_ ?_; rotate_left; (·intro w'; go_simp; with_reducible rfl); rotate_left; (·simp only [Act.put, sI, sZ, sS, iW, jW]; rfl)
      refine pure_ (i := 3) (N := some 19) (v := ?_) (a' := ?_) #[T,T,T,T,F,F,F,F,F,F,F,F,F,F,F] rfl rfl (any_of HT_.out (by kernel_rfl)) (fun _ _ _ h => h) (Or.inl ⟨by rfl, ?_⟩) ?_ ?_; rotate_left; (·intro w'; go_simp; with_reducible rfl); rotate_left; (·simp only [Act.put, sI, sZ, sS, iW, jW]; rfl)
      refine pure_ (i := 4) (N := some 20) (v := ?_) (a' := ?_) #[T,T,T,T,T,F,F,F,F,F,F,F,F,F,F] rfl rfl (any_of HT_.out (by kernel_rfl)) (fun _ _ _ h => h) (Or.inl ⟨by rfl, ?_⟩) ?_ ?_; rotate_left; (·intro w'; go_simp; with_reducible rfl); rotate_left; (·simp only [Act.put, sI, sZ, sS, iW, jW]; rfl)
      refine pure_ (i := 5) (N := some 21) (v := ?_) (a' := ?_) #[T,T,T,T,T,T,F,F,F,F,F,F,F,F,F] rfl rfl (any_of HT_.out (by kernel_rfl)) (fun _ _ _ h => h) (Or.inl ⟨by rfl, ?_⟩) ?_ ?_; rotate_left; (·intro w'; go_simp; with_reducible rfl); rotate_left; (·simp only [Act.put, sI, sZ, sS, iW, jW]; rfl)
      refine pure_ (i := 7) (N := some 23) (v := ?_) (a' := ?_) #[T,T,T,T,T,T,F,T,F,F,F,F,F,F,F] rfl rfl (any_of HT_.out (by kernel_rfl)) (fun _ _ _ h => h) (Or.inl ⟨by rfl, ?_⟩) ?_ ?_; rotate_left; (·intro w'; go_simp; with_reducible rfl); rotate_left; (·simp only [Act.put, sI, sZ, sS, iW, jW]; rfl)
      refine take_ (i := 8) (N := some 24) (v := ?_) (a' := ?_) #[T,T,T,T,T,T,F,T,T,F,F,F,F,F,F] rfl rfl (tW HT_.out HW_.out (by kernel_rfl)) (fun _ _ _ h => h) (Or.inl ⟨by rfl, ?_⟩) hHeld ?_ ?_; rotate_left; (·rintro w' ⟨s0, s1, s2, s3⟩; go_simp; with_reducible rfl); rotate_left; (·simp only [Act.put, sI, sZ, sS, iW, jW]; rfl)
      refine one_ (i := 6) (N := some 22) #[T,T,T,T,T,T,T,T,T,F,F,F,F,F,F] rfl rfl (oO HT_.out (by kernel_rfl)) (by decide) (fun K hK => ?_)
      refine goes_ Try.func67 (by kernel_rfl) rfl #[.pointer (some ⟨gb190, 0, none⟩), .int .i64 a1] (by rfl) rfl rfl (by (try simp only [List.map_toArray, List.map_cons, List.map_nil]); first | done | rfl | (simp only [List.length_drop, List.length_take]; rfl)) ?_
      with_reducible refine (spec_l07Counts.calls k ⟨gb190, 0, none⟩ a0_0 a0_1 l0_2 l0_3 a1 t193 _ ?side1 A11.out).mono ?_
      (case side1 => exact C_box (show _ from by (with_reducible repeat (first | refine kN ?_ _ | refine kD ?_ | refine kA ?_ _)); exact BK190.out) (k30_mk _ (⟨a0_0, a0_1, l0_2, l0_3⟩ : S30) (by exact HC0_2.out) (by repeat (first | exact (cB HR0_2.out (by repeat (first | (with_reducible first | exact HB.out | apply bA | apply bN | apply bD | refine bS ?_ GE190.out) | exact HB.out))) | (with_reducible refine cA ?_ _) | (with_reducible refine cN ?_ _) | (with_reducible refine cD ?_))) (by exact HC0_3.out) (by repeat (first | exact (cB HR0_3.out (by repeat (first | (with_reducible first | exact HB.out | apply bA | apply bN | apply bD | refine bS ?_ GE190.out) | exact HB.out))) | (with_reducible refine cA ?_ _) | (with_reducible refine cN ?_ _) | (with_reducible refine cD ?_)))))
      rintro e w16 ⟨v194, rfl, ho0, hb⟩
      refine ⟨_, rfl, ?_⟩
      have n0_ := Aside0.mk (rL ho0 (bZ (by repeat (first | (with_reducible first | exact HB.out | apply bA | apply bN | apply bD | refine bS ?_ GE190.out) | exact HB.out))))
      have n1_ := Aside0.mk (kB (g := gb190) (o := .cells #[.int .i64 a0_0, .int .i64 a0_1, .slice A0_2 l0_2.length c0_2, .slice A0_3 l0_3.length c0_3] 30 (0, 0)) (by (with_reducible repeat (first | refine kN ?_ _ | refine kD ?_ | refine kA ?_ _)); exact BK190.out) hb)
      have n2_ := Aside0.mk (bP (by repeat (first | (with_reducible first | exact HB.out | apply bA | apply bN | apply bD | refine bS ?_ GE190.out) | exact HB.out)) hb)
      clear BK190
      clear HB
      have HO195 := n0_
      have BK190 := n1_
      have HB := n2_
      clear n0_ n1_ n2_
      (try clear hb)
      (try clear hb2)
      (try clear hk)
      (try clear hi)
      (try clear ho0)
      obtain ⟨Ao17, co17, eo17⟩ := Kd.R_slice HO195.out
      (first | subst eo17 | (injection eo17 with f1_ f2_ f3_; have f4_ := f1_.symm; have f5_ := f3_.symm; clear f1_ f2_ f3_; subst f4_; subst f5_))
      have p196 : 0 ≤ (a0_1 : Int) := of_decide_eq_true (by first | (with_reducible assumption) | assumption)
      have q196 : a0_1 < (t193.length : Int) := of_decide_eq_true (by first | (with_reducible assumption) | assumption)
      obtain ⟨ad196, e196, hx196_0⟩ := Kd.at_int (Kd.R_reads' HO195.out).2.2 a0_1 p196 q196
      cases e196
      replace p196 := eq_true p196
      replace q196 := eq_true q196
      refine hK.out _ _ ⟨(kC BK190.out 0).trans rfl, (kC BK190.out 1).trans rfl, (kC BK190.out 2).trans rfl, (kC BK190.out 3).trans rfl⟩ (fun hHeld => ?_)
      clear hK K
      refine norm_ (a' := ?_) ?_ ?_
      rotate_left
      ·show Act.put _ (some 22) _ = _
       simp only [Act.put, sI, sZ, sS, iW, jW]
       rfl
      refine pure_ (i := 9) (N := some 25) (v := ?_) (a' := ?_) #[T,T,T,T,T,T,T,T,T,T,F,F,F,F,F] rfl rfl (any_of HT_.out (by kernel_rfl)) (fun _ _ _ h => h) (Or.inl ⟨by rfl, ?_⟩) ?_ ?_; rotate_left; (·intro w'; go_simp; with_reducible rfl); rotate_left; (·simp only [Act.put, sI, sZ, sS, iW, jW]; rfl)
      refine one_ (i := 10) (N := some 26) #[T,T,T,T,T,T,T,T,T,T,T,F,F,F,F] rfl rfl (oO HT_.out (by kernel_rfl)) (by decide) (fun K hK => ?_)
      go_simp
      refine hK.out _ _ ⟨(kC BK190.out 0).trans rfl, (kC BK190.out 1).trans rfl, (kC BK190.out 2).trans rfl, (kC BK190.out 3).trans rfl⟩ (fun hHeld => ?_)
      clear hK K
      refine pure_ (i := 11) (N := some 27) (v := ?_) (a' := ?_) #[T,T,T,T,T,T,T,T,T,T,T,T,F,F,F] rfl rfl (any_of HT_.out (by kernel_rfl)) (fun _ _ _ h => h) (Or.inl ⟨by rfl, ?_⟩) ?_ ?_; rotate_left; (·intro w'; go_simp; with_reducible rfl); rotate_left; (·simp only [Act.put, sI, sZ, sS, iW, jW]; rfl)
      refine one_ (i := 12) (N := some 28) #[T,T,T,T,T,T,T,T,T,T,T,T,T,F,F] rfl rfl (oO HT_.out (by kernel_rfl)) (by decide) (fun K hK => ?_)
      refine goes_ Try.func75 (by kernel_rfl) rfl #[.int .i64 a2, .int .i64 0, .int .i64 (wrap64 ((rd t193 a0_1) - 1))] (by rfl) rfl rfl (by (try simp only [List.map_toArray, List.map_cons, List.map_nil]); first | done | rfl | (simp only [List.length_drop, List.length_take]; rfl)) ?_
      with_reducible refine (spec_l00In.calls a2 0 (wrap64 ((rd t193 a0_1) - 1)) t197 _ A14.out).mono ?_
      rintro e w' ⟨rfl, ⟨nd, rfl⟩⟩
      refine ⟨_, rfl, ?_⟩
      refine hK.out _ _ ⟨(kC BK190.out 0).trans rfl, (kC BK190.out 1).trans rfl, (kC BK190.out 2).trans rfl, (kC BK190.out 3).trans rfl⟩ (fun hHeld => ?_)
      clear hK K
      refine norm_ (a' := ?_) ?_ ?_
      rotate_left
      ·show Act.put _ (some 28) _ = _
       simp only [Act.put, sI, sZ, sS, iW, jW]
       rfl
      refine pure_ (i := 13) (N := some 29) (v := ?_) (a' := ?_) #[T,T,T,T,T,T,T,T,T,T,T,T,T,T,F] rfl rfl (any_of HT_.out (by kernel_rfl)) (fun _ _ _ h => h) (Or.inl ⟨by rfl, ?_⟩) ?_ ?_; rotate_left; (·intro w'; go_simp; with_reducible rfl); rotate_left; (·simp only [Act.put, sI, sZ, sS, iW, jW]; rfl)
      refine pure_ (i := 14) (N := some 30) (v := ?_) (a' := ?_) #[T,T,T,T,T,T,T,T,T,T,T,T,T,T,T] rfl rfl (any_of HT_.out (by kernel_rfl)) (fun _ _ _ h => h) (Or.inl ⟨by rfl, ?_⟩) ?_ ?_; rotate_left; (·intro w'; go_simp; with_reducible rfl); rotate_left; (·simp only [Act.put, sI, sZ, sS, iW, jW]; rfl)
      refine done_ (done_of HT_.out (by kernel_rfl)) ?_
      try go_wp2
      go_meet
      case rel => exact ⟨_, (!t197), (a0_0), (a0_1), (by first | rfl | (simp; done) | (simp [*]; done)), H', ⟨by first | omega | exact Nat.le_refl _⟩, ⟨by (with_reducible repeat (first | refine kN ?_ _ | refine kD ?_ | refine kA ?_ _)); exact BK190.out⟩, ⟨by repeat (first | (with_reducible first | exact HB.out | apply bA | apply bN | apply bD | refine bS ?_ GE190.out) | exact HB.out)⟩⟩
     ·rw [if_neg c13] at H
      exact absurd H (by simp)
    ·rw [if_neg c12] at H
     exact absurd H (by simp)
   ·replace c10 := Bool.eq_false_iff.mpr c10
    subst c10
    have H1 : (spec_NumberedMelody.j0 k a1 a2 true a0_0 a0_1 l0_2 l0_3) = some (r1, r2) := by rw [if_neg (show ¬ (false = true) by decide)] at H; exact H
    clear H
    have H := H1
    clear H1
    have H' := Aside0.mk H
    clear H
    try go_wp2
    have n0_ := Aside0.mk (kD BK190.out)
    have n1_ := Aside0.mk (bD HB.out)
    clear BK190
    clear HB
    have BK190 := n0_
    have HB := n1_
    clear n0_ n1_
    refine start_ (n := 15) (S := fun w' => True) (ds := []) #[F,F,F,F,F,F,F,F,F,F,F,F,F,F,F] (by kernel_rfl) rfl rfl trivial (fun hHeld => ?_); refine with_tabW spec_NumberedMelody.tab3 spec_NumberedMelody.bits3 (fun HT_ HW_ => ?_)
    generalize w8.drew = w18 at BK190 HB hHeld ⊢
    refine pure_ (i := 0) (N := some 16) (v := ?_) (a' := ?_) #[T,F,F,F,F,F,F,F,F,F,F,F,F,F,F] rfl rfl (any_of HT_.out (by kernel_rfl)) (fun _ _ _ h => h) (Or.inl ⟨by rfl, ?_⟩) ?_ ?_; rotate_left; (·intro w'; go_simp; with_reducible rfl); rotate_left; (·simp only [Act.put, sI, sZ, sS, iW, jW]; rfl)
    refine one_ (i := 1) (N := some 17) #[T,T,F,F,F,F,F,F,F,F,F,F,F,F,F] rfl rfl (oO HT_.out (by kernel_rfl)) (by decide) (fun K hK => ?_)
    refine goes_ Try.func66 (by kernel_rfl) rfl #[.int .i64 a1] (by rfl) rfl rfl (by (try simp only [List.map_toArray, List.map_cons, List.map_nil]); first | done | rfl | (simp only [List.length_drop, List.length_take]; rfl)) ?_
    with_reducible refine (spec_l07Long.calls a1 false _ A9.out).mono ?_
    rintro e w' ⟨rfl, ⟨nd, rfl⟩⟩
    refine ⟨_, rfl, ?_⟩
    refine hK.out _ _ trivial (fun hHeld => ?_)
    clear hK K
    refine norm_ (a' := ?_) ?_ ?_
    rotate_left
    ·show Act.put _ (some 17) _ = _
     simp only [Act.put, sI, sZ, sS, iW, jW]
     rfl
    refine pure_ (i := 2) (N := some 18) (v := ?_) (a' := ?_) #[T,T,T,F,F,F,F,F,F,F,F,F,F,F,F] rfl rfl (any_of HT_.out (by kernel_rfl)) (fun _ _ _ h => h) (Or.inl ⟨by rfl, ?_⟩) ?_ ?_; rotate_left; (·intro w'; go_simp; with_reducible rfl); rotate_left; (·simp only [Act.put, sI, sZ, sS, iW, jW]; rfl)
    refine pure_ (i := 3) (N := some 19) (v := ?_) (a' := ?_) #[T,T,T,T,F,F,F,F,F,F,F,F,F,F,F] rfl rfl (any_of HT_.out (by kernel_rfl)) (fun _ _ _ h => h) (Or.inl ⟨by rfl, ?_⟩) ?_ ?_; rotate_left; (·intro w'; go_simp; with_reducible rfl); rotate_left; (·simp only [Act.put, sI, sZ, sS, iW, jW]; rfl)
    refine pure_ (i := 4) (N := some 20) (v := undef) (a' := ?_) #[T,T,T,T,T,F,F,F,F,F,F,F,F,F,F] rfl rfl (any_of HT_.out (by kernel_rfl)) (fun _ _ _ h => h) (Or.inr ⟨by rfl, rfl⟩) ?_ ?_
    rotate_left
    ·simp only [Act.put, sI, sZ, sS, iW, jW]
     rfl
    refine pure_ (i := 5) (N := some 21) (v := undef) (a' := ?_) #[T,T,T,T,T,T,F,F,F,F,F,F,F,F,F] rfl rfl (any_of HT_.out (by kernel_rfl)) (fun _ _ _ h => h) (Or.inr ⟨by rfl, rfl⟩) ?_ ?_
    rotate_left
    ·simp only [Act.put, sI, sZ, sS, iW, jW]
     rfl
    refine pure_ (i := 6) (N := some 22) (v := undef) (a' := ?_) #[T,T,T,T,T,T,T,F,F,F,F,F,F,F,F] rfl rfl (any_of HT_.out (by kernel_rfl)) (fun _ _ _ h => h) (Or.inr ⟨by rfl, rfl⟩) ?_ ?_
    rotate_left
    ·simp only [Act.put, sI, sZ, sS, iW, jW]
     rfl
    refine pure_ (i := 7) (N := some 23) (v := undef) (a' := ?_) #[T,T,T,T,T,T,T,T,F,F,F,F,F,F,F] rfl rfl (any_of HT_.out (by kernel_rfl)) (fun _ _ _ h => h) (Or.inr ⟨by rfl, rfl⟩) ?_ ?_
    rotate_left
    ·simp only [Act.put, sI, sZ, sS, iW, jW]
     rfl
    refine pure_ (i := 8) (N := some 24) (v := undef) (a' := ?_) #[T,T,T,T,T,T,T,T,T,F,F,F,F,F,F] rfl rfl (any_of HT_.out (by kernel_rfl)) (fun _ _ _ h => h) (Or.inr ⟨by rfl, rfl⟩) ?_ ?_
    rotate_left
    ·simp only [Act.put, sI, sZ, sS, iW, jW]
     rfl
    refine pure_ (i := 9) (N := some 25) (v := undef) (a' := ?_) #[T,T,T,T,T,T,T,T,T,T,F,F,F,F,F] rfl rfl (any_of HT_.out (by kernel_rfl)) (fun _ _ _ h => h) (Or.inr ⟨by rfl, rfl⟩) ?_ ?_
    rotate_left
    ·simp only [Act.put, sI, sZ, sS, iW, jW]
     rfl
    refine pure_ (i := 10) (N := some 26) (v := undef) (a' := ?_) #[T,T,T,T,T,T,T,T,T,T,T,F,F,F,F] rfl rfl (any_of HT_.out (by kernel_rfl)) (fun _ _ _ h => h) (Or.inr ⟨by rfl, rfl⟩) ?_ ?_
    rotate_left
    ·simp only [Act.put, sI, sZ, sS, iW, jW]
     rfl
    refine pure_ (i := 11) (N := some 27) (v := undef) (a' := ?_) #[T,T,T,T,T,T,T,T,T,T,T,T,F,F,F] rfl rfl (any_of HT_.out (by kernel_rfl)) (fun _ _ _ h => h) (Or.inr ⟨by rfl, rfl⟩) ?_ ?_
    rotate_left
    ·simp only [Act.put, sI, sZ, sS, iW, jW]
     rfl
    refine pure_ (i := 12) (N := some 28) (v := undef) (a' := ?_) #[T,T,T,T,T,T,T,T,T,T,T,T,T,F,F] rfl rfl (any_of HT_.out (by kernel_rfl)) (fun _ _ _ h => h) (Or.inr ⟨by rfl, rfl⟩) ?_ ?_
    rotate_left
    ·simp only [Act.put, sI, sZ, sS, iW, jW]
     rfl
    refine pure_ (i := 13) (N := some 29) (v := undef) (a' := ?_) #[T,T,T,T,T,T,T,T,T,T,T,T,T,T,F] rfl rfl (any_of HT_.out (by kernel_rfl)) (fun _ _ _ h => h) (Or.inr ⟨by rfl, rfl⟩) ?_ ?_
    rotate_left
    ·simp only [Act.put, sI, sZ, sS, iW, jW]
     rfl
    refine pure_ (i := 14) (N := some 30) (v := ?_) (a' := ?_) #[T,T,T,T,T,T,T,T,T,T,T,T,T,T,T] rfl rfl (any_of HT_.out (by kernel_rfl)) (fun _ _ _ h => h) (Or.inl ⟨by rfl, ?_⟩) ?_ ?_; rotate_left; (·intro w'; go_simp; with_reducible rfl); rotate_left; (·simp only [Act.put, sI, sZ, sS, iW, jW]; rfl)
    refine done_ (done_of HT_.out (by kernel_rfl)) ?_
    try go_wp2
    go_meet
    case rel => exact ⟨_, (true), (a0_0), (a0_1), (by first | rfl | (simp; done) | (simp [*]; done)), H', ⟨by first | omega | exact Nat.le_refl _⟩, ⟨by (with_reducible repeat (first | refine kN ?_ _ | refine kD ?_ | refine kA ?_ _)); exact BK190.out⟩, ⟨by repeat (first | (with_reducible first | exact HB.out | apply bA | apply bN | apply bD | refine bS ?_ GE190.out) | exact HB.out)⟩⟩
  case rest =>
   clear HC6
   try clear c1
   try clear p1
   try clear q1
   try clear hx1
   try clear p2
   try clear c3
   try clear c5
   try clear c6
   try clear p6
   try clear c7
   try clear c10
   try clear c12
   try clear c12b0
   try clear c13
   try clear c13b0
   try clear hx196_0
   try clear p196
   try clear q196
   obtain ⟨kq, x30_5, x191000_5, x191001_5, rfl, HA, HJ5, BK190, HB⟩ := hcut
   cases kq with
   | zero => exact absurd HA.out (by simp [spec_NumberedMelody.j0])
   | succ kj5 =>
    have H := HA.out
    clear HA
    simp only [spec_NumberedMelody.j0] at H
    by_cases c19 : x30_5 = true
    ·subst c19
     have H1 : (some (([] : List Int), 2)) = some (r1, r2) := by rw [if_pos rfl] at H; exact H
     clear H
     have H := H1
     clear H1
     simp only [Option.some.injEq, Prod.mk.injEq] at H
     obtain ⟨rfl, rfl⟩ := H
     go_wp2
     go_ret2
     exact ⟨_, by first | rfl | (simp [errW_none, errW_some] <;> rfl) | (simp [*, errW_none, errW_some] <;> rfl), by first | exact Kd.R_nil _ _ _ _ _ | exact Kd.N_nil _ _ _ _ _ | exact Kd.V_nil _ _ _ _ _ | exact Kd.Q_nil _ _ _ _ _ | exact Kd.S_nil _ _ _ _ _, by repeat (first | (with_reducible first | exact HB.out | apply bA | apply bN | apply bD | refine bS ?_ GE190.out) | exact HB.out)⟩
    ·replace c19 := Bool.eq_false_iff.mpr c19
     subst c19
     have H1 : (spec_NumberedMelody.l0 kj5 a2 (([] : List Int)) x191001_5 (wrap64 (a1 - 1)) x191000_5 x191001_5 l0_2 l0_3) = some (r1, r2) := by rw [if_neg (show ¬ (false = true) by decide)] at H; exact H
     clear H
     have H := H1
     clear H1
     obtain ⟨y198, hy198⟩ : ∃ y_ : List Int, y_ = (([] : List Int)) := ⟨_, rfl⟩
     replace H : (spec_NumberedMelody.l0 kj5 a2 y198 x191001_5 (wrap64 (a1 - 1)) x191000_5 x191001_5 l0_2 l0_3) = some (r1, r2) := by first | (rw [hy198]; with_reducible exact H) | (have H2_ := (Option.bind_some _ _).symm.trans H; rw [hy198]; with_reducible exact H2_) | (have H2_ := (Option.bind_some _ _).symm.trans H; with_reducible exact H2_) | with_reducible exact H | (rw [hy198]; exact H) | exact H
     have Ny198 := Aside0.mk hy198
     clear hy198
     have H' := Aside0.mk H
     clear H
     go_wp2_with (first | ((with_reducible refine gate_dst (N := 31) rfl ?_); refine Kd.R_lit (Kd.int .i64) _ 2 ?hg (N := 31) ?hd (xs := ([] : List Int)) (inner := []) (ok := fun _ => True) (okp := fun _ => True) ?hr ?hp (fun _ hk => hk) trivial (Below.refl _ _) (Nat.le_refl _) (by simp) ?_; (case hd => rfl); (case hg => rfl); (case hr => first | (go_simp; done) | (go_simp; rfl)); (case hp => exact (Reps.none _ _)); intro v199 w20 ho21 hb hg_ hnew_; clear hg_ hnew_; (first | rw [← Ny198.out] at ho21 | (simp only [Int.reduceToNat] at ho21; rw [← Ny198.out] at ho21)); have n0_ := Aside0.mk (rL ho21 (bZ (by repeat (first | (with_reducible first | exact HB.out | apply bA | apply bN | apply bD | refine bS ?_ GE190.out) | exact HB.out)))); have n1_ := Aside0.mk (kB (g := gb190) (o := .cells #[.int .i64 x191000_5, .int .i64 x191001_5, .slice A0_2 l0_2.length c0_2, .slice A0_3 l0_3.length c0_3] 30 (0, 0)) (by (with_reducible repeat (first | refine kN ?_ _ | refine kD ?_ | refine kA ?_ _)); exact BK190.out) hb); have n2_ := Aside0.mk (bP (by repeat (first | (with_reducible first | exact HB.out | apply bA | apply bN | apply bD | refine bS ?_ GE190.out) | exact HB.out)) hb); clear BK190; clear HB; have HO200 := n0_; have BK190 := n1_; have HB := n2_; clear n0_ n1_ n2_; clear hb ho21; have hcz22_0 : w20.cell? ⟨gb190, 0, none⟩ = some (.int .i64 x191000_5) := (kC BK190.out 0).trans rfl; have hcz22_1 : w20.cell? ⟨gb190, 1, none⟩ = some (.int .i64 x191001_5) := (kC BK190.out 1).trans rfl; have hcz22_2 : w20.cell? ⟨gb190, 2, none⟩ = some (.slice A0_2 l0_2.length c0_2) := (kC BK190.out 2).trans rfl; have hcz22_3 : w20.cell? ⟨gb190, 3, none⟩ = some (.slice A0_3 l0_3.length c0_3) := (kC BK190.out 3).trans rfl; have hfz22_0 := blk_frozen BK190.out 0; have hfz22_1 := blk_frozen BK190.out 1; have hfz22_2 := blk_frozen BK190.out 2; have hfz22_3 := blk_frozen BK190.out 3))
     go_loopg [2, 8, 9, 10] kj5 (fun kq v2 v8 v9 v10 w' => ∃ (x2_2 : Int) (x8_2 : List Int) (x9_2 : Int) (x10_2 : Int) (x191000_2 : Int) (x191001_2 : Int), v2 = .int .i64 x2_2 ∧ v9 = .int .i64 x9_2 ∧ v10 = .int .i64 x10_2 ∧ Aside0 (spec_NumberedMelody.l0 kq x2_2 x8_2 x9_2 x10_2 x191000_2 x191001_2 l0_2 l0_3 = some (r1, r2)) ∧ Aside0 (kq ≤ kj5) ∧ Aside0 (Kd.R (Kd.int .i64) 2 w' w.heap.size (fun _ => True) v8 x8_2) ∧ Aside0 (w'.heap[gb190]? = some (.cells #[.int .i64 x191000_2, .int .i64 x191001_2, (.slice A0_2 l0_2.length c0_2), (.slice A0_3 l0_3.length c0_3)] 30 (0, 0))) ∧ Aside0 (Below w.heap.size w w'))
     case atStart => exact ⟨(a2), (y198), (x191001_5), (wrap64 (a1 - 1)), (x191000_5), (x191001_5), (by first | rfl | (simp; done) | (simp [*]; done)), (by first | rfl | (simp; done) | (simp [*]; done)), (by first | rfl | (simp; done) | (simp [*]; done)), H', ⟨Nat.le_refl _⟩, ⟨by (with_reducible repeat (first | apply rA | apply rN | apply rD)); exact HO200.out⟩, ⟨by (with_reducible repeat (first | refine kN ?_ _ | refine kD ?_ | refine kA ?_ _)); exact BK190.out⟩, ⟨by repeat (first | (with_reducible first | exact HB.out | apply bA | apply bN | apply bD | refine bS ?_ GE190.out) | exact HB.out)⟩⟩
     case round =>
      clear H'
      try clear c1
      try clear p1
      try clear q1
      try clear hx1
      try clear p2
      try clear c3
      try clear c5
      try clear c6
      try clear p6
      try clear c7
      try clear c10
      try clear c12
      try clear c12b0
      try clear c13
      try clear c13b0
      try clear c19
      try clear p19
      try clear q19
      try clear hx19
      try clear hcz22_0
      try clear hcz22_1
      try clear hcz22_2
      try clear hcz22_3
      try clear hfz22_0
      try clear hfz22_1
      try clear hfz22_2
      try clear hfz22_3
      try clear hx196_0
      try clear p1
      try clear p196
      try clear p2
      try clear p6
      try clear q1
      try clear q196
      obtain ⟨x2_2, x8_2, x9_2, x10_2, x191000_2, x191001_2, rfl, rfl, rfl, HA, HK2, HO_8, BK190, HB⟩ := hrel
      cases gk with
      | zero => exact absurd HA.out (by simp [spec_NumberedMelody.l0])
      | succ k2 =>
       have H := HA.out
       clear HA
       simp only [spec_NumberedMelody.l0] at H
       by_cases c23 : x10_2 ≥ 0
       ·rw [if_pos c23] at H
        have c23b0 : decide (0 ≤ x10_2) = true := decide_eq_true c23
        clear c23
        replace H := Option.bind_eq_some_iff.mp H
        obtain ⟨t201, A240, H⟩ := H
        replace H : (spec_NumberedMelody.l1 k2 x2_2 x8_2 x9_2 x10_2 t201 0 x191000_2 x191001_2 l0_2 l0_3) = some (r1, r2) := H
        have A24 := Aside0.mk A240
        clear A240
        have H' := Aside0.mk H
        clear H
        go_wp2_with (first | ((with_reducible refine gC (f := 67) rfl ?_); refine goesL_ (some 41) rfl rfl Try.func67 (by kernel_rfl) rfl #[.pointer (some ⟨gb190, 0, none⟩), .int .i64 x10_2] rfl (by (try simp only [List.map_toArray, List.map_cons, List.map_nil]); first | done | rfl | (simp only [List.length_drop, List.length_take]; rfl)) ?_; (with_reducible refine (spec_l07Counts.calls k2 ⟨gb190, 0, none⟩ x191000_2 x191001_2 l0_2 l0_3 x10_2 t201 _ ?side1 A24.out).mono ?_); (case side1 => exact C_box (show _ from by (with_reducible repeat (first | refine kN ?_ _ | refine kD ?_ | refine kA ?_ _)); exact BK190.out) (k30_mk _ (⟨x191000_2, x191001_2, l0_2, l0_3⟩ : S30) (by exact HC0_2.out) (by repeat (first | exact (cB HR0_2.out HB.out) | (with_reducible refine cA ?_ _) | (with_reducible refine cN ?_ _) | (with_reducible refine cD ?_))) (by exact HC0_3.out) (by repeat (first | exact (cB HR0_3.out HB.out) | (with_reducible refine cA ?_ _) | (with_reducible refine cN ?_ _) | (with_reducible refine cD ?_))))); rintro e w25 ⟨v202, rfl, ho0, hb⟩; refine ⟨_, rfl, ?_⟩; have n0_ := Aside0.mk (rE (by (with_reducible repeat (first | apply rA | apply rN | apply rD)); exact HO_8.out) (Kd.R_base ho0) hb); have n1_ := Aside0.mk (rL (rW ho0 (rT (by (with_reducible repeat (first | apply rA | apply rN | apply rD)); exact HO_8.out))) (bZ (by repeat (first | (with_reducible first | exact HB.out | apply bA | apply bN | apply bD | refine bS ?_ GE190.out) | exact HB.out)))); have n2_ := Aside0.mk (kB (g := gb190) (o := .cells #[.int .i64 x191000_2, .int .i64 x191001_2, .slice A0_2 l0_2.length c0_2, .slice A0_3 l0_3.length c0_3] 30 (0, 0)) (by (with_reducible repeat (first | refine kN ?_ _ | refine kD ?_ | refine kA ?_ _)); exact BK190.out) hb); have n3_ := Aside0.mk (bP (by repeat (first | (with_reducible first | exact HB.out | apply bA | apply bN | apply bD | refine bS ?_ GE190.out) | exact HB.out)) hb); clear HO_8; clear BK190; clear HB; have HO_8 := n0_; have HO203 := n1_; have BK190 := n2_; have HB := n3_; clear n0_ n1_ n2_ n3_; (try clear hb); (try clear hb2); (try clear hk); (try clear hi); (try clear ho0)))
        go_loopg [2, 8, 9, 12] k2 (fun kq v2 v8 v9 v12 w' => ∃ (x2_3 : Int) (x8_3 : List Int) (x9_3 : Int) (x12_3 : Int), v2 = .int .i64 x2_3 ∧ v9 = .int .i64 x9_3 ∧ v12 = .int .i64 x12_3 ∧ Aside0 (spec_NumberedMelody.l1 kq x2_3 x8_3 x9_3 x10_2 t201 x12_3 x191000_2 x191001_2 l0_2 l0_3 = some (r1, r2)) ∧ Aside0 (kq ≤ k2) ∧ Aside0 (Kd.R (Kd.int .i64) 2 w' w.heap.size (fun k_ => some k_ ≠ (v202 : Value).ownBlock) v8 x8_3) ∧ Aside0 (Kd.R (Kd.int .i64) 2 w' w.heap.size (fun k_ => some k_ ≠ (v8 : Value).ownBlock) v202 t201) ∧ Aside0 (w'.heap[gb190]? = some (.cells #[.int .i64 x191000_2, .int .i64 x191001_2, (.slice A0_2 l0_2.length c0_2), (.slice A0_3 l0_3.length c0_3)] 30 (0, 0))) ∧ Aside0 (Below w.heap.size w w'))
        case atStart => exact ⟨(x2_2), (x8_2), (x9_2), (0), (by first | rfl | (simp; done) | (simp [*]; done)), (by first | rfl | (simp; done) | (simp [*]; done)), (by first | rfl | (simp; done) | (simp [*]; done)), H', ⟨Nat.le_refl _⟩, ⟨by (with_reducible repeat (first | apply rA | apply rN | apply rD)); exact rM HO_8.out (fun _ hk => hk.2)⟩, ⟨by (with_reducible repeat (first | apply rA | apply rN | apply rD)); exact rM HO203.out (fun _ hk => hk.2)⟩, ⟨by (with_reducible repeat (first | refine kN ?_ _ | refine kD ?_ | refine kA ?_ _)); exact BK190.out⟩, ⟨by repeat (first | (with_reducible first | exact HB.out | apply bA | apply bN | apply bD | refine bS ?_ GE190.out) | exact HB.out)⟩⟩
        case round =>
         clear H'
         try clear c1
         try clear p1
         try clear q1
         try clear hx1
         try clear c2
         try clear p2
         try clear c3
         try clear c5
         try clear c6
         try clear p6
         try clear c7
         try clear c10
         try clear c12
         try clear c12b0
         try clear c13
         try clear c13b0
         try clear c19
         try clear p19
         try clear q19
         try clear hx19
         try clear c23
         try clear c23b0
         try clear hcz22_0
         try clear hcz22_1
         try clear hcz22_2
         try clear hcz22_3
         try clear hfz22_0
         try clear hfz22_1
         try clear hfz22_2
         try clear hfz22_3
         try clear hx196_0
         try clear p1
         try clear p19
         try clear p196
         try clear p2
         try clear p6
         try clear q1
         try clear q19
         try clear q196
         obtain ⟨x2_3, x8_3, x9_3, x12_3, rfl, rfl, rfl, HA, HK3, HO_8, HO_11, BK190, HB⟩ := hrel
         cases gk with
         | zero => exact absurd HA.out (by simp [spec_NumberedMelody.l1])
         | succ k3 =>
          have H := HA.out
          clear HA
          simp only [spec_NumberedMelody.l1] at H
          by_cases c26 : x12_3 < (l0_3.length : Int)
          ·rw [if_pos c26] at H
           have c26b0 : decide (x12_3 < (l0_3.length : Int)) = true := decide_eq_true c26
           clear c26
           by_cases c27 : 0 ≤ x12_3
           ·rw [if_pos c27] at H
            have c27b0 : decide (0 ≤ x12_3) = true := decide_eq_true c27
            clear c27
            by_cases c28 : ((rd_T67 l0_3 x12_3).f0) = x9_3
            ·rw [if_pos c28] at H
             have c28b0 : (((rd_T67 l0_3 x12_3).f0) == x9_3) = true := beq_iff_eq.mpr c28
             have c28b1 : (((rd_T67 l0_3 x12_3).f0) != x9_3) = false := bne_eq_false_iff_eq.mpr c28
             clear c28
             by_cases c29 : 0 ≤ ((rd_T67 l0_3 x12_3).f2)
             ·rw [if_pos c29] at H
              have c29b0 : decide (0 ≤ ((rd_T67 l0_3 x12_3).f2)) = true := decide_eq_true c29
              clear c29
              by_cases c30 : ((rd_T67 l0_3 x12_3).f2) < (t201.length : Int)
              ·rw [if_pos c30] at H
               have c30b0 : decide (((rd_T67 l0_3 x12_3).f2) < (t201.length : Int)) = true := decide_eq_true c30
               clear c30
               by_cases c31 : x2_3 < (rd t201 ((rd_T67 l0_3 x12_3).f2))
               ·rw [if_pos c31] at H
                have c31b0 : decide (x2_3 < (rd t201 ((rd_T67 l0_3 x12_3).f2))) = true := decide_eq_true c31
                clear c31
                by_cases c32 : x8_3.length < 17592186044416
                ·rw [if_pos c32] at H
                 have LMc32 := Aside0.mk c32
                 clear c32
                 obtain ⟨y208, hy208⟩ : ∃ y_ : List Int, y_ = (x8_3 ++ [(rd_T67 l0_3 x12_3).f1]) := ⟨_, rfl⟩
                 replace H : (spec_NumberedMelody.l0 k3 x2_3 y208 ((rd_T67 l0_3 x12_3).f2) (wrap64 (x10_2 - 1)) x191000_2 x191001_2 l0_2 l0_3) = some (r1, r2) := by first | (rw [hy208]; with_reducible exact H) | (have H2_ := (Option.bind_some _ _).symm.trans H; rw [hy208]; with_reducible exact H2_) | (have H2_ := (Option.bind_some _ _).symm.trans H; with_reducible exact H2_) | with_reducible exact H | (rw [hy208]; exact H) | exact H
                 have Ny208 := Aside0.mk hy208
                 clear hy208
                 have H' := Aside0.mk H
                 clear H
                 have hcz33_0 : wr.cell? ⟨gb190, 0, none⟩ = some (.int .i64 x191000_2) := (kC BK190.out 0).trans rfl
                 have hcz33_1 : wr.cell? ⟨gb190, 1, none⟩ = some (.int .i64 x191001_2) := (kC BK190.out 1).trans rfl
                 have hcz33_2 : wr.cell? ⟨gb190, 2, none⟩ = some (.slice A0_2 l0_2.length c0_2) := (kC BK190.out 2).trans rfl
                 have hcz33_3 : wr.cell? ⟨gb190, 3, none⟩ = some (.slice A0_3 l0_3.length c0_3) := (kC BK190.out 3).trans rfl
                 have hfz33_0 := blk_frozen BK190.out 0
                 have hfz33_1 := blk_frozen BK190.out 1
                 have hfz33_2 := blk_frozen BK190.out 2
                 have hfz33_3 := blk_frozen BK190.out 3
                 have p204 : 0 ≤ (x12_3 : Int) := of_decide_eq_true (by first | (with_reducible assumption) | assumption)
                 have q204 : x12_3 < (l0_3.length : Int) := of_decide_eq_true (by first | (with_reducible assumption) | assumption)
                 obtain ⟨ad204, e204, hx204_0, hx204_1, hx204_2⟩ := at_T67 HR0_3.out x12_3 p204 q204
                 cases e204
                 replace hx204_0 := (HB.out.cell (World.block_lt_of_cell? w _ hx204_0)).trans hx204_0
                 replace hx204_1 := (HB.out.cell (World.block_lt_of_cell? w _ hx204_1)).trans hx204_1
                 replace hx204_2 := (HB.out.cell (World.block_lt_of_cell? w _ hx204_2)).trans hx204_2
                 replace p204 := eq_true p204
                 replace q204 := eq_true q204
                 have p205 : 0 ≤ (x12_3 : Int) := of_decide_eq_true (by first | (with_reducible assumption) | assumption)
                 have q205 : x12_3 < (l0_3.length : Int) := of_decide_eq_true (by first | (with_reducible assumption) | assumption)
                 obtain ⟨ad205, e205, hx205_0, hx205_1, hx205_2⟩ := at_T67 HR0_3.out x12_3 p205 q205
                 obtain rfl : ad204 = ad205 := (by injection e205)
                 replace hx205_0 := (HB.out.cell (World.block_lt_of_cell? w _ hx205_0)).trans hx205_0
                 replace hx205_1 := (HB.out.cell (World.block_lt_of_cell? w _ hx205_1)).trans hx205_1
                 replace hx205_2 := (HB.out.cell (World.block_lt_of_cell? w _ hx205_2)).trans hx205_2
                 replace p205 := eq_true p205
                 replace q205 := eq_true q205
                 obtain ⟨Ao34, co34, eo34⟩ := Kd.R_slice HO_11.out
                 subst eo34
                 have p206 : 0 ≤ (((rd_T67 l0_3 x12_3).f2) : Int) := of_decide_eq_true (by first | (with_reducible assumption) | assumption)
                 have q206 : ((rd_T67 l0_3 x12_3).f2) < (t201.length : Int) := of_decide_eq_true (by first | (with_reducible assumption) | assumption)
                 obtain ⟨ad206, e206, hx206_0⟩ := Kd.at_int (Kd.R_reads' HO_11.out).2.2 ((rd_T67 l0_3 x12_3).f2) p206 q206
                 cases e206
                 replace p206 := eq_true p206
                 replace q206 := eq_true q206
                 have p207 : 0 ≤ (x12_3 : Int) := of_decide_eq_true (by first | (with_reducible assumption) | assumption)
                 have q207 : x12_3 < (l0_3.length : Int) := of_decide_eq_true (by first | (with_reducible assumption) | assumption)
                 obtain ⟨ad207, e207, hx207_0, hx207_1, hx207_2⟩ := at_T67 HR0_3.out x12_3 p207 q207
                 obtain rfl : ad204 = ad207 := (by injection e207)
                 replace hx207_0 := (HB.out.cell (World.block_lt_of_cell? w _ hx207_0)).trans hx207_0
                 replace hx207_1 := (HB.out.cell (World.block_lt_of_cell? w _ hx207_1)).trans hx207_1
                 replace hx207_2 := (HB.out.cell (World.block_lt_of_cell? w _ hx207_2)).trans hx207_2
                 replace p207 := eq_true p207
                 replace q207 := eq_true q207
                 go_wp2_with (first | ((with_reducible refine gate_builtin (b := .append) (xs := #[.tmp 69, .tmp 76]) rfl ?_); at_builtin; refine Kd.R_append (Kd.int .i64) (w0 := w) w.heap.size rfl (.tmp 69) (.tmp 76) 22 2 (.int .i64 0) 8 rfl Try.underlying22 info2 rfl (by decide) (by omega) u8 x8_3 ((rd_T67 l0_3 x12_3).f1) [.int .i64 ((rd_T67 l0_3 x12_3).f1)] (fun k_ => some k_ ≠ (.slice (some ad206) t201.length co34 : Value).ownBlock) (fun _ => False) rfl rfl ?aP (fun _ hk => hk.elim) ?aF ?aO ?aB ?aS ?aL ?_; (case aP => exact rfl); (case aB => exact (by repeat (first | (with_reducible first | exact HB.out | apply bA | apply bN | apply bD | refine bS ?_ GE190.out) | exact HB.out))); (case aF => exact (fun k_ hk => Kd.fresh' (rT (by (with_reducible repeat (first | apply rA | apply rN | apply rD)); exact HO_11.out)) k_ hk)); (case aO => exact (by (with_reducible repeat (first | apply rA | apply rN | apply rD)); exact HO_8.out)); (case aS => exact (bZ (by repeat (first | (with_reducible first | exact HB.out | apply bA | apply bN | apply bD | refine bS ?_ GE190.out) | exact HB.out)))); (case aL => have := LMc32.out; omega); intro v209 w35 ho hb hg hat; rw [← Ny208.out] at ho; have n0_ := Aside0.mk (Kd.R_after (ok := (fun _ => True)) (by (with_reducible repeat (first | apply rA | apply rN | apply rD)); exact rM HO_11.out (fun _ hk => ⟨trivial, hk⟩)) hg hat); have n1_ := Aside0.mk (blk_grown (g := gb190) (o := .cells #[.int .i64 x191000_2, .int .i64 x191001_2, .slice A0_2 l0_2.length c0_2, .slice (some ad204) l0_3.length c0_3] 30 (0, 0)) (by (with_reducible repeat (first | refine kN ?_ _ | refine kD ?_ | refine kA ?_ _)); exact BK190.out) hg (Kd.R_ne HO_8.out BK190.out (by decide))); have n2_ := Aside0.mk (hb); have n3_ := Aside0.mk (ho); clear HO_11; clear BK190; clear HB; clear HO_8; have HO_11 := n0_; have BK190 := n1_; have HB := n2_; have HO210 := n3_; clear n0_ n1_ n2_ n3_; clear ho hb hg hat; have hcz36_0 : w35.cell? ⟨gb190, 0, none⟩ = some (.int .i64 x191000_2) := (kC BK190.out 0).trans rfl; have hcz36_1 : w35.cell? ⟨gb190, 1, none⟩ = some (.int .i64 x191001_2) := (kC BK190.out 1).trans rfl; have hcz36_2 : w35.cell? ⟨gb190, 2, none⟩ = some (.slice A0_2 l0_2.length c0_2) := (kC BK190.out 2).trans rfl; have hcz36_3 : w35.cell? ⟨gb190, 3, none⟩ = some (.slice (some ad204) l0_3.length c0_3) := (kC BK190.out 3).trans rfl; have hfz36_0 := blk_frozen BK190.out 0; have hfz36_1 := blk_frozen BK190.out 1; have hfz36_2 := blk_frozen BK190.out 2; have hfz36_3 := blk_frozen BK190.out 3; have p211 : 0 ≤ (x12_3 : Int) := of_decide_eq_true (by first | (with_reducible assumption) | assumption); have q211 : x12_3 < (l0_3.length : Int) := of_decide_eq_true (by first | (with_reducible assumption) | assumption); obtain ⟨ad211, e211, hx211_0, hx211_1, hx211_2⟩ := at_T67 HR0_3.out x12_3 p211 q211; obtain rfl : ad204 = ad211 := (by injection e211); replace hx211_0 := (HB.out.cell (World.block_lt_of_cell? w _ hx211_0)).trans hx211_0; replace hx211_1 := (HB.out.cell (World.block_lt_of_cell? w _ hx211_1)).trans hx211_1; replace hx211_2 := (HB.out.cell (World.block_lt_of_cell? w _ hx211_2)).trans hx211_2; replace p211 := eq_true p211; replace q211 := eq_true q211))
                 go_roundg k3
                 case measure => have := HJ5.out; have := HK2.out; have := HK3.out; omega
                 case rel => exact ⟨(x2_3), (y208), ((rd_T67 l0_3 x12_3).f2), (wrap64 (x10_2 - 1)), (x191000_2), (x191001_2), (by first | rfl | (simp; done) | (simp [*]; done)), (by first | rfl | (simp; done) | (simp [*]; done)), (by first | rfl | (simp; done) | (simp [*]; done)), H', ⟨by have := HJ5.out; have := HK2.out; have := HK3.out; omega⟩, ⟨by (with_reducible repeat (first | apply rA | apply rN | apply rD)); exact rM HO210.out (fun _ hk => trivial)⟩, ⟨by (with_reducible repeat (first | refine kN ?_ _ | refine kD ?_ | refine kA ?_ _)); exact BK190.out⟩, ⟨by repeat (first | (with_reducible first | exact HB.out | apply bA | apply bN | apply bD | refine bS ?_ GE190.out) | exact HB.out)⟩⟩
                ·rw [if_neg c32] at H
                 exact absurd H (by simp)
               ·rw [if_neg c31] at H
                have c31b0 : decide (x2_3 < (rd t201 ((rd_T67 l0_3 x12_3).f2))) = false := decide_eq_false c31
                clear c31
                have H' := Aside0.mk H
                clear H
                have hcz37_0 : wr.cell? ⟨gb190, 0, none⟩ = some (.int .i64 x191000_2) := (kC BK190.out 0).trans rfl
                have hcz37_1 : wr.cell? ⟨gb190, 1, none⟩ = some (.int .i64 x191001_2) := (kC BK190.out 1).trans rfl
                have hcz37_2 : wr.cell? ⟨gb190, 2, none⟩ = some (.slice A0_2 l0_2.length c0_2) := (kC BK190.out 2).trans rfl
                have hcz37_3 : wr.cell? ⟨gb190, 3, none⟩ = some (.slice A0_3 l0_3.length c0_3) := (kC BK190.out 3).trans rfl
                have hfz37_0 := blk_frozen BK190.out 0
                have hfz37_1 := blk_frozen BK190.out 1
                have hfz37_2 := blk_frozen BK190.out 2
                have hfz37_3 := blk_frozen BK190.out 3
                have p204 : 0 ≤ (x12_3 : Int) := of_decide_eq_true (by first | (with_reducible assumption) | assumption)
                have q204 : x12_3 < (l0_3.length : Int) := of_decide_eq_true (by first | (with_reducible assumption) | assumption)
                obtain ⟨ad204, e204, hx204_0, hx204_1, hx204_2⟩ := at_T67 HR0_3.out x12_3 p204 q204
                cases e204
                replace hx204_0 := (HB.out.cell (World.block_lt_of_cell? w _ hx204_0)).trans hx204_0
                replace hx204_1 := (HB.out.cell (World.block_lt_of_cell? w _ hx204_1)).trans hx204_1
                replace hx204_2 := (HB.out.cell (World.block_lt_of_cell? w _ hx204_2)).trans hx204_2
                replace p204 := eq_true p204
                replace q204 := eq_true q204
                have p205 : 0 ≤ (x12_3 : Int) := of_decide_eq_true (by first | (with_reducible assumption) | assumption)
                have q205 : x12_3 < (l0_3.length : Int) := of_decide_eq_true (by first | (with_reducible assumption) | assumption)
                obtain ⟨ad205, e205, hx205_0, hx205_1, hx205_2⟩ := at_T67 HR0_3.out x12_3 p205 q205
                obtain rfl : ad204 = ad205 := (by injection e205)
                replace hx205_0 := (HB.out.cell (World.block_lt_of_cell? w _ hx205_0)).trans hx205_0
                replace hx205_1 := (HB.out.cell (World.block_lt_of_cell? w _ hx205_1)).trans hx205_1
                replace hx205_2 := (HB.out.cell (World.block_lt_of_cell? w _ hx205_2)).trans hx205_2
                replace p205 := eq_true p205
                replace q205 := eq_true q205
                obtain ⟨Ao38, co38, eo38⟩ := Kd.R_slice HO_11.out
                subst eo38
                have p206 : 0 ≤ (((rd_T67 l0_3 x12_3).f2) : Int) := of_decide_eq_true (by first | (with_reducible assumption) | assumption)
                have q206 : ((rd_T67 l0_3 x12_3).f2) < (t201.length : Int) := of_decide_eq_true (by first | (with_reducible assumption) | assumption)
                obtain ⟨ad206, e206, hx206_0⟩ := Kd.at_int (Kd.R_reads' HO_11.out).2.2 ((rd_T67 l0_3 x12_3).f2) p206 q206
                cases e206
                replace p206 := eq_true p206
                replace q206 := eq_true q206
                go_wp2
                go_roundg k3
                case measure => have := HJ5.out; have := HK2.out; have := HK3.out; omega
                case rel => exact ⟨(wrap64 (x2_3 - (rd t201 ((rd_T67 l0_3 x12_3).f2)))), (x8_3), (x9_3), (wrap64 (x12_3 + 1)), (by first | rfl | (simp; done) | (simp [*]; done)), (by first | rfl | (simp; done) | (simp [*]; done)), (by first | rfl | (simp; done) | (simp [*]; done)), H', ⟨by have := HJ5.out; have := HK2.out; have := HK3.out; omega⟩, ⟨by (with_reducible repeat (first | apply rA | apply rN | apply rD)); exact HO_8.out⟩, ⟨by (with_reducible repeat (first | apply rA | apply rN | apply rD)); exact HO_11.out⟩, ⟨by (with_reducible repeat (first | refine kN ?_ _ | refine kD ?_ | refine kA ?_ _)); exact BK190.out⟩, ⟨by repeat (first | (with_reducible first | exact HB.out | apply bA | apply bN | apply bD | refine bS ?_ GE190.out) | exact HB.out)⟩⟩
              ·rw [if_neg c30] at H
               exact absurd H (by simp)
             ·rw [if_neg c29] at H
              exact absurd H (by simp)
            ·rw [if_neg c28] at H
             have c28b0 : (((rd_T67 l0_3 x12_3).f0) == x9_3) = false := beq_eq_false_iff_ne.mpr c28
             have c28b1 : (((rd_T67 l0_3 x12_3).f0) != x9_3) = true := bne_iff_ne.mpr c28
             have H' := Aside0.mk H
             clear H
             have hcz39_0 : wr.cell? ⟨gb190, 0, none⟩ = some (.int .i64 x191000_2) := (kC BK190.out 0).trans rfl
             have hcz39_1 : wr.cell? ⟨gb190, 1, none⟩ = some (.int .i64 x191001_2) := (kC BK190.out 1).trans rfl
             have hcz39_2 : wr.cell? ⟨gb190, 2, none⟩ = some (.slice A0_2 l0_2.length c0_2) := (kC BK190.out 2).trans rfl
             have hcz39_3 : wr.cell? ⟨gb190, 3, none⟩ = some (.slice A0_3 l0_3.length c0_3) := (kC BK190.out 3).trans rfl
             have hfz39_0 := blk_frozen BK190.out 0
             have hfz39_1 := blk_frozen BK190.out 1
             have hfz39_2 := blk_frozen BK190.out 2
             have hfz39_3 := blk_frozen BK190.out 3
             have p204 : 0 ≤ (x12_3 : Int) := of_decide_eq_true (by first | (with_reducible assumption) | assumption)
             have q204 : x12_3 < (l0_3.length : Int) := of_decide_eq_true (by first | (with_reducible assumption) | assumption)
             obtain ⟨ad204, e204, hx204_0, hx204_1, hx204_2⟩ := at_T67 HR0_3.out x12_3 p204 q204
             cases e204
             replace hx204_0 := (HB.out.cell (World.block_lt_of_cell? w _ hx204_0)).trans hx204_0
             replace hx204_1 := (HB.out.cell (World.block_lt_of_cell? w _ hx204_1)).trans hx204_1
             replace hx204_2 := (HB.out.cell (World.block_lt_of_cell? w _ hx204_2)).trans hx204_2
             replace p204 := eq_true p204
             replace q204 := eq_true q204
             go_wp2
             go_roundg k3
             case measure => have := HJ5.out; have := HK2.out; have := HK3.out; omega
             case rel => exact ⟨(x2_3), (x8_3), (x9_3), (wrap64 (x12_3 + 1)), (by first | rfl | (simp; done) | (simp [*]; done)), (by first | rfl | (simp; done) | (simp [*]; done)), (by first | rfl | (simp; done) | (simp [*]; done)), H', ⟨by have := HJ5.out; have := HK2.out; have := HK3.out; omega⟩, ⟨by (with_reducible repeat (first | apply rA | apply rN | apply rD)); exact HO_8.out⟩, ⟨by (with_reducible repeat (first | apply rA | apply rN | apply rD)); exact HO_11.out⟩, ⟨by (with_reducible repeat (first | refine kN ?_ _ | refine kD ?_ | refine kA ?_ _)); exact BK190.out⟩, ⟨by repeat (first | (with_reducible first | exact HB.out | apply bA | apply bN | apply bD | refine bS ?_ GE190.out) | exact HB.out)⟩⟩
           ·rw [if_neg c27] at H
            exact absurd H (by simp)
          ·rw [if_neg c26] at H
           have c26b0 : decide (x12_3 < (l0_3.length : Int)) = false := decide_eq_false c26
           clear c26
           have H' := Aside0.mk H
           clear H
           have hcz40_0 : wr.cell? ⟨gb190, 0, none⟩ = some (.int .i64 x191000_2) := (kC BK190.out 0).trans rfl
           have hcz40_1 : wr.cell? ⟨gb190, 1, none⟩ = some (.int .i64 x191001_2) := (kC BK190.out 1).trans rfl
           have hcz40_2 : wr.cell? ⟨gb190, 2, none⟩ = some (.slice A0_2 l0_2.length c0_2) := (kC BK190.out 2).trans rfl
           have hcz40_3 : wr.cell? ⟨gb190, 3, none⟩ = some (.slice A0_3 l0_3.length c0_3) := (kC BK190.out 3).trans rfl
           have hfz40_0 := blk_frozen BK190.out 0
           have hfz40_1 := blk_frozen BK190.out 1
           have hfz40_2 := blk_frozen BK190.out 2
           have hfz40_3 := blk_frozen BK190.out 3
           go_wp2
           go_roundg k3
           case measure => have := HJ5.out; have := HK2.out; have := HK3.out; omega
           case rel => exact ⟨(x2_3), (x8_3), (x9_3), (wrap64 (x10_2 - 1)), (x191000_2), (x191001_2), (by first | rfl | (simp; done) | (simp [*]; done)), (by first | rfl | (simp; done) | (simp [*]; done)), (by first | rfl | (simp; done) | (simp [*]; done)), H', ⟨by have := HJ5.out; have := HK2.out; have := HK3.out; omega⟩, ⟨by (with_reducible repeat (first | apply rA | apply rN | apply rD)); exact rM HO_8.out (fun _ hk => trivial)⟩, ⟨by (with_reducible repeat (first | refine kN ?_ _ | refine kD ?_ | refine kA ?_ _)); exact BK190.out⟩, ⟨by repeat (first | (with_reducible first | exact HB.out | apply bA | apply bN | apply bD | refine bS ?_ GE190.out) | exact HB.out)⟩⟩
       ·rw [if_neg c23] at H
        have c23b0 : decide (0 ≤ x10_2) = false := decide_eq_false c23
        clear c23
        simp only [Option.some.injEq, Prod.mk.injEq] at H
        obtain ⟨rfl, rfl⟩ := H
        go_wp2
        go_ret2
        exact ⟨_, by first | rfl | (simp [errW_none, errW_some] <;> rfl) | (simp [*, errW_none, errW_some] <;> rfl), by (with_reducible repeat (first | apply rA | apply rN | apply rD)); exact HO_8.out, by repeat (first | (with_reducible first | exact HB.out | apply bA | apply bN | apply bD | refine bS ?_ GE190.out) | exact HB.out)⟩
 ·replace c5 := Bool.eq_false_iff.mpr c5
  subst c5
  have H1 : (some (([] : List Int), 1)) = some (r1, r2) := by rw [if_neg (show ¬ (false = true) by decide)] at H; exact H
  clear H
  have H := H1
  clear H1
  simp only [Option.some.injEq, Prod.mk.injEq] at H
  obtain ⟨rfl, rfl⟩ := H
  go_enter Try.func33, Try.ntmps33
  go_wp2_with (first | ((with_reducible refine gate_dst (N := 3) rfl ?_); refine bE ?hg (N := 3) ?hd (cs := #[.int .i64 a0_0, .int .i64 a0_1, .slice A0_2 l0_2.length c0_2, .slice A0_3 l0_3.length c0_3]) (t := 30) ?hr ?_; (case hd => rfl); (case hg => rfl); (case hr => first | (go_simp; done) | (go_simp; rfl)); intro gb190 hg w41 hbox hb; have n0_ := Aside0.mk (bP (by repeat (first | (with_reducible first | exact HB.out | apply bA | apply bN | apply bD) | exact HB.out)) hb); have n1_ := Aside0.mk (hbox); have n2_ := Aside0.mk ((by rw [hg]; exact (bZ (by repeat (first | (with_reducible first | exact HB.out | apply bA | apply bN | apply bD) | exact HB.out))) : w.heap.size ≤ gb190)); have n3_ := Aside0.mk ((by rw [hg]; exact (bZ (by repeat (first | (with_reducible first | exact HB.out | apply bA | apply bN | apply bD) | exact HB.out))) : w.heap.size ≤ gb190)); clear HB; have HB := n0_; have BK190 := n1_; have GW190 := n2_; have GE190 := n3_; clear n0_ n1_ n2_ n3_; clear hb hbox hg) | ((with_reducible refine gC (f := 59) rfl ?_); refine goesL_ (some 14) rfl rfl Try.func59 (by kernel_rfl) rfl #[.pointer (some ⟨gb190, 0, none⟩)] rfl (by (try simp only [List.map_toArray, List.map_cons, List.map_nil]); first | done | rfl | (simp only [List.length_drop, List.length_take]; rfl)) ?_; (with_reducible refine (spec_l07Ok.calls k ⟨gb190, 0, none⟩ a0_0 a0_1 l0_2 l0_3 false _ ?side1 A4.out).mono ?_); (case side1 => exact C_box (show _ from by (with_reducible repeat (first | refine kN ?_ _ | refine kD ?_ | refine kA ?_ _)); exact BK190.out) (k30_mk _ (⟨a0_0, a0_1, l0_2, l0_3⟩ : S30) (by exact HC0_2.out) (by repeat (first | exact (cB HR0_2.out HB.out) | (with_reducible refine cA ?_ _) | (with_reducible refine cN ?_ _) | (with_reducible refine cD ?_))) (by exact HC0_3.out) (by repeat (first | exact (cB HR0_3.out HB.out) | (with_reducible refine cA ?_ _) | (with_reducible refine cN ?_ _) | (with_reducible refine cD ?_))))); rintro e w42 ⟨rfl, hb⟩; refine ⟨_, rfl, ?_⟩; have n0_ := Aside0.mk (kB (g := gb190) (o := .cells #[.int .i64 a0_0, .int .i64 a0_1, .slice A0_2 l0_2.length c0_2, .slice A0_3 l0_3.length c0_3] 30 (0, 0)) (by (with_reducible repeat (first | refine kN ?_ _ | refine kD ?_ | refine kA ?_ _)); exact BK190.out) hb); have n1_ := Aside0.mk (bP (by repeat (first | (with_reducible first | exact HB.out | apply bA | apply bN | apply bD | refine bS ?_ GE190.out) | exact HB.out)) hb); clear BK190; clear HB; have BK190 := n0_; have HB := n1_; clear n0_ n1_; (try clear hb); (try clear hb2); (try clear hk); (try clear hi)))
  go_ret2
  exact ⟨_, by first | rfl | (simp [errW_none, errW_some] <;> rfl) | (simp [*, errW_none, errW_some] <;> rfl), by first | exact Kd.R_nil _ _ _ _ _ | exact Kd.N_nil _ _ _ _ _ | exact Kd.V_nil _ _ _ _ _ | exact Kd.Q_nil _ _ _ _ _ | exact Kd.S_nil _ _ _ _ _, by repeat (first | (with_reducible first | exact HB.out | apply bA | apply bN | apply bD | refine bS ?_ GE190.out) | exact HB.out)⟩

end Go.Proofs.Ytijbhcalknfijaa.M5
-- shrunk
-- tight
