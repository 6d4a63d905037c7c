/- What functions of the given program compute, as plain Lean functions, and that the code comes to just that; by a program of this session over the kit's print. No condition. -/
import Derived.Test.YtijbhcalknfijaaTight
import Derived.Test.YtijbhcalknfijaaM7x0
import Derived.Test.YtijbhcalknfijaaM7x7
namespace Go.Proofs.Ytijbhcalknfijaa.M7
open Go.RowKit Go.Proofs.YtijbhcalknfijaaW.PrintWords Go.Proofs.YtijbhcalknfijaaW.PrintLast Go.Proofs.YtijbhcalknfijaaW.PrintMore
open Go.Proofs.YtijbhcalknfijaaW.PrintWords renaming below_alloc → bA, pw_below_drewN → bN, below_drew1 → bD, below_set → bS, blk_drewN → kN, blk_drew → kD, blk_alloc → kA, below_size → bZ, below_step → bP, box_event → bE, blk_cell → kC
open Go.Proofs.YtijbhcalknfijaaW.PrintLast renaming i64_w → iW
open Go.Proofs.YtijbhcalknfijaaW.PrintWords.Kd renaming C_alloc → cA, C_drewN → cN, C_drew → cD, C_below → cB
open List renaming setIfInBounds_toArray → sI, set_cons_zero → sZ, set_cons_succ → sS
attribute [local go_sem] max2_int min2_int max_two min_two max_three min_three max_four min_four   -- for this text's walks alone
set_option linter.unusedVariables false
set_option linter.unusedSimpArgs false

/-! ### spec_l07Ok: function 59 -/
mutual
def spec_l07Ok.j0 : Nat → Bool → Int → Int → List Int → List (S67) → Option (Bool)
 | 0, _, _, _, _, _ => none
 | k + 1, x44, x1000, x1001, x1002, x1003 => if x44 = true then (some false) else (spec_l07Ok.l0 k 0 x1000 x1001 x1002 x1003)
def spec_l07Ok.l0 : Nat → Int → Int → Int → List Int → List (S67) → Option (Bool)
 | 0, _, _, _, _, _ => none
 | k + 1, x3, x1000, x1001, x1002, x1003 => if x3 < (x1003.length : Int) then (if 0 ≤ x3 then ((spec_l00In.f ((rd_T67 x1003 x3).f0) 0 (wrap64 (x1000 - 1))).bind fun t179 => (if t179 = true then ((spec_l03Pitch.f ((rd_T67 x1003 x3).f1)).bind fun t180 => (if t180 = true then ((spec_l00In.f ((rd_T67 x1003 x3).f2) 0 (wrap64 (x1000 - 1))).bind fun t181 => (spec_l07Ok.j2 k x3 (!t181) x1000 x1001 x1002 x1003 ((rd_T67 x1003 x3).f0) ((rd_T67 x1003 x3).f1) ((rd_T67 x1003 x3).f2))) else (spec_l07Ok.j2 k x3 true x1000 x1001 x1002 x1003 ((rd_T67 x1003 x3).f0) ((rd_T67 x1003 x3).f1) ((rd_T67 x1003 x3).f2)))) else (spec_l07Ok.j2 k x3 true x1000 x1001 x1002 x1003 ((rd_T67 x1003 x3).f0) ((rd_T67 x1003 x3).f1) ((rd_T67 x1003 x3).f2)))) else (none)) else (some true)
def spec_l07Ok.j2 : Nat → Int → Bool → Int → Int → List Int → List (S67) → Int → Int → Int → Option (Bool)
 | 0, _, _, _, _, _, _, _, _, _ => none
 | k + 1, x3, x86, x1000, x1001, x1002, x1003, x179000, x179001, x179002 => if x86 = true then (some false) else (if x3 > 0 then (if 0 ≤ (wrap64 (x3 - 1)) then (if (wrap64 (x3 - 1)) < (x1003.length : Int) then (if ((rd_T67 x1003 (wrap64 (x3 - 1))).f0) > x179000 then (some false) else (if ((rd_T67 x1003 (wrap64 (x3 - 1))).f0) = x179000 then (if ((rd_T67 x1003 (wrap64 (x3 - 1))).f1) ≥ x179001 then (some false) else (spec_l07Ok.l0 k (wrap64 (x3 + 1)) x1000 x1001 x1002 x1003)) else (spec_l07Ok.l0 k (wrap64 (x3 + 1)) x1000 x1001 x1002 x1003))) else (none)) else (none)) else (spec_l07Ok.l0 k (wrap64 (x3 + 1)) x1000 x1001 x1002 x1003))
end
def spec_l07Ok.f (k : Nat) (a0_0 : Int) (a0_1 : Int) (l0_2 : List Int) (l0_3 : List (S67)) : Option (Bool) := (spec_l00In.f a0_0 1 32).bind fun t173 => (if t173 = true then ((spec_l00In.f a0_1 0 (wrap64 (a0_0 - 1))).bind fun t174 => (if t174 = true then ((spec_l00Rises.f k l0_2 0 (wrap64 (a0_0 - 1))).bind fun t175 => (if t175 = true then (spec_l07Ok.j0 k (decide ((l0_3.length : Int) > 256)) a0_0 a0_1 l0_2 l0_3) else (spec_l07Ok.j0 k true a0_0 a0_1 l0_2 l0_3))) else (spec_l07Ok.j0 k true a0_0 a0_1 l0_2 l0_3))) else (spec_l07Ok.j0 k true a0_0 a0_1 l0_2 l0_3))
theorem spec_l07Ok.mono_l : ∀ k, (∀ y0 y1 y2 y3 y4, LeO (spec_l07Ok.j0 k y0 y1 y2 y3 y4) (spec_l07Ok.j0 (k + 1) y0 y1 y2 y3 y4)) ∧ (∀ y0 y1 y2 y3 y4, LeO (spec_l07Ok.l0 k y0 y1 y2 y3 y4) (spec_l07Ok.l0 (k + 1) y0 y1 y2 y3 y4)) ∧ (∀ y0 y1 y2 y3 y4 y5 y6 y7 y8, LeO (spec_l07Ok.j2 k y0 y1 y2 y3 y4 y5 y6 y7 y8) (spec_l07Ok.j2 (k + 1) y0 y1 y2 y3 y4 y5 y6 y7 y8))
 | 0 => ⟨fun _ _ _ _ _ r h => by simp [spec_l07Ok.j0] at h, fun _ _ _ _ _ r h => by simp [spec_l07Ok.l0] at h, fun _ _ _ _ _ _ _ _ _ r h => by simp [spec_l07Ok.j2] at h⟩
 | k + 1 => by
  obtain ⟨ih0, ih1, ih2⟩ := spec_l07Ok.mono_l k
  refine ⟨?_, ?_, ?_⟩
  ·intro y0 y1 y2 y3 y4
   unfold spec_l07Ok.j0
   repeat' first
   | (with_reducible exact ih0 _ _ _ _ _)
   | (with_reducible exact ih1 _ _ _ _ _)
   | (with_reducible exact ih2 _ _ _ _ _ _ _ _ _)
   | (with_reducible exact spec_l00Rises.mono _ _ _ _)
   | (with_reducible exact LeO.refl _)
   | (with_reducible exact LeO.none _)
   | (with_reducible refine LeO.ite ?_ ?_)
   | (with_reducible refine LeO.bind ?_ (fun _ => ?_))
   | exact ih0 _ _ _ _ _
   | exact ih1 _ _ _ _ _
   | exact ih2 _ _ _ _ _ _ _ _ _
   | exact spec_l00Rises.mono _ _ _ _
   | exact LeO.none _
   | refine LeO.ite ?_ ?_
   | refine LeO.bind ?_ (fun _ => ?_)
  ·intro y0 y1 y2 y3 y4
   unfold spec_l07Ok.l0
   repeat' first
   | (with_reducible exact ih0 _ _ _ _ _)
   | (with_reducible exact ih1 _ _ _ _ _)
   | (with_reducible exact ih2 _ _ _ _ _ _ _ _ _)
   | (with_reducible exact spec_l00Rises.mono _ _ _ _)
   | (with_reducible exact LeO.refl _)
   | (with_reducible exact LeO.none _)
   | (with_reducible refine LeO.ite ?_ ?_)
   | (with_reducible refine LeO.bind ?_ (fun _ => ?_))
   | exact ih0 _ _ _ _ _
   | exact ih1 _ _ _ _ _
   | exact ih2 _ _ _ _ _ _ _ _ _
   | exact spec_l00Rises.mono _ _ _ _
   | exact LeO.none _
   | refine LeO.ite ?_ ?_
   | refine LeO.bind ?_ (fun _ => ?_)
  ·intro y0 y1 y2 y3 y4 y5 y6 y7 y8
   unfold spec_l07Ok.j2
   repeat' first
   | (with_reducible exact ih0 _ _ _ _ _)
   | (with_reducible exact ih1 _ _ _ _ _)
   | (with_reducible exact ih2 _ _ _ _ _ _ _ _ _)
   | (with_reducible exact spec_l00Rises.mono _ _ _ _)
   | (with_reducible exact LeO.refl _)
   | (with_reducible exact LeO.none _)
   | (with_reducible refine LeO.ite ?_ ?_)
   | (with_reducible refine LeO.bind ?_ (fun _ => ?_))
   | exact ih0 _ _ _ _ _
   | exact ih1 _ _ _ _ _
   | exact ih2 _ _ _ _ _ _ _ _ _
   | exact spec_l00Rises.mono _ _ _ _
   | exact LeO.none _
   | refine LeO.ite ?_ ?_
   | refine LeO.bind ?_ (fun _ => ?_)
theorem spec_l07Ok.mono : ∀ a0 a1 a2 a3 k, LeO (spec_l07Ok.f k a0 a1 a2 a3) (spec_l07Ok.f (k + 1) a0 a1 a2 a3) := by
 intro a0 a1 a2 a3 k
 obtain ⟨ih0, ih1, ih2⟩ := spec_l07Ok.mono_l k
 unfold spec_l07Ok.f
 repeat' first
   | (with_reducible exact ih0 _ _ _ _ _)
   | (with_reducible exact ih1 _ _ _ _ _)
   | (with_reducible exact ih2 _ _ _ _ _ _ _ _ _)
   | (with_reducible exact spec_l00Rises.mono _ _ _ _)
   | (with_reducible exact LeO.refl _)
   | (with_reducible exact LeO.none _)
   | (with_reducible refine LeO.ite ?_ ?_)
   | (with_reducible refine LeO.bind ?_ (fun _ => ?_))
   | exact ih0 _ _ _ _ _
   | exact ih1 _ _ _ _ _
   | exact ih2 _ _ _ _ _ _ _ _ _
   | exact spec_l00Rises.mono _ _ _ _
   | exact LeO.none _
   | refine LeO.ite ?_ ?_
   | refine LeO.bind ?_ (fun _ => ?_)
set_option maxHeartbeats 8000000 in
set_option maxRecDepth 100000 in
theorem spec_l07Ok.calls (k : Nat) (adp0 : Addr) (a0_0 : Int) (a0_1 : Int) (l0_2 : List Int) (l0_3 : List (S67)) (r : Bool) (w : World) (hp0 : Kd.C k30 w (some adp0) 1 [(⟨a0_0, a0_1, l0_2, l0_3⟩ : S30)]) (h : spec_l07Ok.f k a0_0 a0_1 l0_2 l0_3 = some r) :
  Calls Try.prog 59 #[.pointer (some adp0)] w fun e w' => e = .returned (.bool r) ∧ Below w.heap.size w w' := by
 have hu67 := Try.underlying67
 have HRp0 := Aside0.mk hp0
 clear hp0
 have HB := Aside0.mk (Below.refl w.heap.size w)
 have H : ((spec_l00In.f a0_0 1 32).bind fun t173 => (if t173 = true then ((spec_l00In.f a0_1 0 (wrap64 (a0_0 - 1))).bind fun t174 => (if t174 = true then ((spec_l00Rises.f k l0_2 0 (wrap64 (a0_0 - 1))).bind fun t175 => (if t175 = true then (spec_l07Ok.j0 k (decide ((l0_3.length : Int) > 256)) a0_0 a0_1 l0_2 l0_3) else (spec_l07Ok.j0 k true a0_0 a0_1 l0_2 l0_3))) else (spec_l07Ok.j0 k true a0_0 a0_1 l0_2 l0_3))) else (spec_l07Ok.j0 k true a0_0 a0_1 l0_2 l0_3))) = some r := h
 clear h
 have HC2 := Aside0.mk H
 clear H
 go_enter Try.func59, Try.ntmps59
 go_upto_region 1 with (fail)
 repeat (go_quiet (fail); go_upto_region 1 with (fail))
 go_cut [44] (fun v44 wc => ∃ (kq : Nat) (x44_1 : Bool), v44 = .bool x44_1 ∧ Aside0 (spec_l07Ok.j0 kq x44_1 a0_0 a0_1 l0_2 l0_3 = some r) ∧ Aside0 (kq ≤ k) ∧ Aside0 (Below w.heap.size w wc))
 case first =>
  have H := HC2.out
  clear HC2
  replace H := Option.bind_eq_some_iff.mp H
  obtain ⟨t173, A30, H⟩ := H
  replace H : (if t173 = true then ((spec_l00In.f a0_1 0 (wrap64 (a0_0 - 1))).bind fun t174 => (if t174 = true then ((spec_l00Rises.f k l0_2 0 (wrap64 (a0_0 - 1))).bind fun t175 => (if t175 = true then (spec_l07Ok.j0 k (decide ((l0_3.length : Int) > 256)) a0_0 a0_1 l0_2 l0_3) else (spec_l07Ok.j0 k true a0_0 a0_1 l0_2 l0_3))) else (spec_l07Ok.j0 k true a0_0 a0_1 l0_2 l0_3))) else (spec_l07Ok.j0 k true a0_0 a0_1 l0_2 l0_3)) = some r := H
  have A3 := Aside0.mk A30
  clear A30
  by_cases c4 : t173 = true
  ·subst c4
   have H1 : ((spec_l00In.f a0_1 0 (wrap64 (a0_0 - 1))).bind fun t174 => (if t174 = true then ((spec_l00Rises.f k l0_2 0 (wrap64 (a0_0 - 1))).bind fun t175 => (if t175 = true then (spec_l07Ok.j0 k (decide ((l0_3.length : Int) > 256)) a0_0 a0_1 l0_2 l0_3) else (spec_l07Ok.j0 k true a0_0 a0_1 l0_2 l0_3))) else (spec_l07Ok.j0 k true a0_0 a0_1 l0_2 l0_3))) = some r := by rw [if_pos rfl] at H; exact H
   clear H
   have H := H1
   clear H1
   replace H := Option.bind_eq_some_iff.mp H
   obtain ⟨t174, A50, H⟩ := H
   replace H : (if t174 = true then ((spec_l00Rises.f k l0_2 0 (wrap64 (a0_0 - 1))).bind fun t175 => (if t175 = true then (spec_l07Ok.j0 k (decide ((l0_3.length : Int) > 256)) a0_0 a0_1 l0_2 l0_3) else (spec_l07Ok.j0 k true a0_0 a0_1 l0_2 l0_3))) else (spec_l07Ok.j0 k true a0_0 a0_1 l0_2 l0_3)) = some r := H
   have A5 := Aside0.mk A50
   clear A50
   by_cases c6 : t174 = true
   ·subst c6
    have H1 : ((spec_l00Rises.f k l0_2 0 (wrap64 (a0_0 - 1))).bind fun t175 => (if t175 = true then (spec_l07Ok.j0 k (decide ((l0_3.length : Int) > 256)) a0_0 a0_1 l0_2 l0_3) else (spec_l07Ok.j0 k true a0_0 a0_1 l0_2 l0_3))) = some r := by rw [if_pos rfl] at H; exact H
    clear H
    have H := H1
    clear H1
    replace H := Option.bind_eq_some_iff.mp H
    obtain ⟨t175, A70, H⟩ := H
    replace H : (if t175 = true then (spec_l07Ok.j0 k (decide ((l0_3.length : Int) > 256)) a0_0 a0_1 l0_2 l0_3) else (spec_l07Ok.j0 k true a0_0 a0_1 l0_2 l0_3)) = some r := H
    have A7 := Aside0.mk A70
    clear A70
    by_cases c8 : t175 = true
    ·subst c8
     have H1 : (spec_l07Ok.j0 k (decide ((l0_3.length : Int) > 256)) a0_0 a0_1 l0_2 l0_3) = some r := by rw [if_pos rfl] at H; exact H
     clear H
     have H := H1
     clear H1
     have H' := Aside0.mk H
     clear H
     have p172 : 0 ≤ (0 : Int) := (by omega)
     have q172 : 0 < ([(⟨a0_0, a0_1, l0_2, l0_3⟩ : S30)].length : Int) := (by simp)
     obtain ⟨ad172, A172_2, c172_2, A172_3, c172_3, e172, hx172_0, hx172_1, hx172_2, hx172_3, hl172_2, hi172_2, hl172_3, hi172_3⟩ := at_T30 HRp0.out 0 p172 q172
     replace hx172_0 : _ = (some (.int .i64 a0_0) : Option Value) := hx172_0
     replace hx172_1 : _ = (some (.int .i64 a0_1) : Option Value) := hx172_1
     replace hx172_2 : _ = (some (.slice A172_2 l0_2.length c172_2) : Option Value) := hx172_2
     replace hi172_2 : Kd.C (Kd.int .i64) _ _ l0_2.length l0_2 := hi172_2
     replace hl172_2 : l0_2.length ≤ _ := hl172_2
     replace hx172_3 : _ = (some (.slice A172_3 l0_3.length c172_3) : Option Value) := hx172_3
     replace hi172_3 : Kd.C k67 _ _ l0_3.length l0_3 := hi172_3
     replace hl172_3 : l0_3.length ≤ _ := hl172_3
     obtain rfl : adp0 = ad172 := (by injection e172)
     have qi172 : (0 < [(⟨a0_0, a0_1, l0_2, l0_3⟩ : S30)].length) = True := eq_true (by simp)
     (try rw [t00] at hx172_0)
     (try rw [Nat.zero_mul] at hx172_0)
     (try rw [Addr.add_zero'] at hx172_0)
     (try rw [t00] at hx172_1)
     (try rw [Nat.zero_mul] at hx172_1)
     (try rw [Addr.add_zero'] at hx172_1)
     (try rw [t00] at hx172_2)
     (try rw [Nat.zero_mul] at hx172_2)
     (try rw [Addr.add_zero'] at hx172_2)
     (try rw [t00] at hx172_3)
     (try rw [Nat.zero_mul] at hx172_3)
     (try rw [Addr.add_zero'] at hx172_3)
     replace hx172_0 := (HB.out.cell (World.block_lt_of_cell? w _ hx172_0)).trans hx172_0
     replace hx172_1 := (HB.out.cell (World.block_lt_of_cell? w _ hx172_1)).trans hx172_1
     replace hx172_2 := (HB.out.cell (World.block_lt_of_cell? w _ hx172_2)).trans hx172_2
     replace hx172_3 := (HB.out.cell (World.block_lt_of_cell? w _ hx172_3)).trans hx172_3
     have HR172_2 := Aside0.mk hi172_2
     have HC172_2 := Aside0.mk hl172_2
     clear hi172_2 hl172_2
     have HR172_3 := Aside0.mk hi172_3
     have HC172_3 := Aside0.mk hl172_3
     clear hi172_3 hl172_3
     replace p172 := eq_true p172
     replace q172 := eq_true q172
     go_wp2_with (first | (go_at_call 75; (with_reducible refine (spec_l00In.calls a0_0 1 32 true _ A3.out).mono ?_); rintro e w' ⟨rfl, ⟨nd, rfl⟩⟩; (try first | exact ⟨rfl, _, dN⟩ | exact ⟨rfl, _, dM⟩)) | (go_at_call 75; (with_reducible refine (spec_l00In.calls a0_1 0 (wrap64 (a0_0 - 1)) true _ A5.out).mono ?_); rintro e w' ⟨rfl, ⟨nd, rfl⟩⟩; (try first | exact ⟨rfl, _, dN⟩ | exact ⟨rfl, _, dM⟩)) | (go_at_call 101; (with_reducible refine (spec_l00Rises.calls k _ _ l0_2 0 (wrap64 (a0_0 - 1)) true _ ?side1 ?side2 A7.out).mono ?_); (case side1 => repeat (first | exact (cB HR172_2.out (hQ HB)) | (with_reducible refine cA ?_ _) | (with_reducible refine cN ?_ _) | (with_reducible refine cD ?_))); (case side2 => exact HC172_2.out); rintro e w' ⟨rfl, ⟨nd, rfl⟩⟩; (try first | exact ⟨rfl, _, dN⟩ | exact ⟨rfl, _, dM⟩)))
     repeat (go_quiet (first | (go_at_call 75; (try simp only [iW]); (with_reducible refine (spec_l00In.calls a0_0 1 32 true _ A3.out).mono ?_); rintro e w' ⟨rfl, ⟨nd, rfl⟩⟩; (try first | exact ⟨rfl, _, dN⟩ | exact ⟨rfl, _, dM⟩)) | (go_at_call 75; (try simp only [iW]); (with_reducible refine (spec_l00In.calls a0_1 0 (wrap64 (a0_0 - 1)) true _ A5.out).mono ?_); rintro e w' ⟨rfl, ⟨nd, rfl⟩⟩; (try first | exact ⟨rfl, _, dN⟩ | exact ⟨rfl, _, dM⟩)) | (go_at_call 101; (try simp only [iW]); (with_reducible refine (spec_l00Rises.calls k _ _ l0_2 0 (wrap64 (a0_0 - 1)) true _ ?side1 ?side2 A7.out).mono ?_); (case side1 => repeat (first | exact (cB HR172_2.out (hQ HB)) | (with_reducible refine cA ?_ _) | (with_reducible refine cN ?_ _) | (with_reducible refine cD ?_))); (case side2 => exact HC172_2.out); rintro e w' ⟨rfl, ⟨nd, rfl⟩⟩; (try first | exact ⟨rfl, _, dN⟩ | exact ⟨rfl, _, dM⟩))); try go_wp2_with (first | (go_at_call 75; (try simp only [iW]); (with_reducible refine (spec_l00In.calls a0_0 1 32 true _ A3.out).mono ?_); rintro e w' ⟨rfl, ⟨nd, rfl⟩⟩; (try first | exact ⟨rfl, _, dN⟩ | exact ⟨rfl, _, dM⟩)) | (go_at_call 75; (try simp only [iW]); (with_reducible refine (spec_l00In.calls a0_1 0 (wrap64 (a0_0 - 1)) true _ A5.out).mono ?_); rintro e w' ⟨rfl, ⟨nd, rfl⟩⟩; (try first | exact ⟨rfl, _, dN⟩ | exact ⟨rfl, _, dM⟩)) | (go_at_call 101; (try simp only [iW]); (with_reducible refine (spec_l00Rises.calls k _ _ l0_2 0 (wrap64 (a0_0 - 1)) true _ ?side1 ?side2 A7.out).mono ?_); (case side1 => repeat (first | exact (cB HR172_2.out (hQ HB)) | (with_reducible refine cA ?_ _) | (with_reducible refine cN ?_ _) | (with_reducible refine cD ?_))); (case side2 => exact HC172_2.out); rintro e w' ⟨rfl, ⟨nd, rfl⟩⟩; (try first | exact ⟨rfl, _, dN⟩ | exact ⟨rfl, _, dM⟩))))
     go_meet
     case rel => exact ⟨_, (decide ((l0_3.length : Int) > 256)), eT, H', ⟨by first | omega | exact Nat.le_refl _⟩, ⟨hQ HB⟩⟩
    ·replace c8 := Bool.eq_false_iff.mpr c8
     subst c8
     have H1 : (spec_l07Ok.j0 k true a0_0 a0_1 l0_2 l0_3) = some r := by rw [if_neg (show ¬ (false = true) by decide)] at H; exact H
     clear H
     have H := H1
     clear H1
     have H' := Aside0.mk H
     clear H
     have p172 : 0 ≤ (0 : Int) := (by omega)
     have q172 : 0 < ([(⟨a0_0, a0_1, l0_2, l0_3⟩ : S30)].length : Int) := (by simp)
     obtain ⟨ad172, A172_2, c172_2, A172_3, c172_3, e172, hx172_0, hx172_1, hx172_2, hx172_3, hl172_2, hi172_2, hl172_3, hi172_3⟩ := at_T30 HRp0.out 0 p172 q172
     replace hx172_0 : _ = (some (.int .i64 a0_0) : Option Value) := hx172_0
     replace hx172_1 : _ = (some (.int .i64 a0_1) : Option Value) := hx172_1
     replace hx172_2 : _ = (some (.slice A172_2 l0_2.length c172_2) : Option Value) := hx172_2
     replace hi172_2 : Kd.C (Kd.int .i64) _ _ l0_2.length l0_2 := hi172_2
     replace hl172_2 : l0_2.length ≤ _ := hl172_2
     replace hx172_3 : _ = (some (.slice A172_3 l0_3.length c172_3) : Option Value) := hx172_3
     replace hi172_3 : Kd.C k67 _ _ l0_3.length l0_3 := hi172_3
     replace hl172_3 : l0_3.length ≤ _ := hl172_3
     obtain rfl : adp0 = ad172 := (by injection e172)
     have qi172 : (0 < [(⟨a0_0, a0_1, l0_2, l0_3⟩ : S30)].length) = True := eq_true (by simp)
     (try rw [t00] at hx172_0)
     (try rw [Nat.zero_mul] at hx172_0)
     (try rw [Addr.add_zero'] at hx172_0)
     (try rw [t00] at hx172_1)
     (try rw [Nat.zero_mul] at hx172_1)
     (try rw [Addr.add_zero'] at hx172_1)
     (try rw [t00] at hx172_2)
     (try rw [Nat.zero_mul] at hx172_2)
     (try rw [Addr.add_zero'] at hx172_2)
     (try rw [t00] at hx172_3)
     (try rw [Nat.zero_mul] at hx172_3)
     (try rw [Addr.add_zero'] at hx172_3)
     replace hx172_0 := (HB.out.cell (World.block_lt_of_cell? w _ hx172_0)).trans hx172_0
     replace hx172_1 := (HB.out.cell (World.block_lt_of_cell? w _ hx172_1)).trans hx172_1
     replace hx172_2 := (HB.out.cell (World.block_lt_of_cell? w _ hx172_2)).trans hx172_2
     replace hx172_3 := (HB.out.cell (World.block_lt_of_cell? w _ hx172_3)).trans hx172_3
     have HR172_2 := Aside0.mk hi172_2
     have HC172_2 := Aside0.mk hl172_2
     clear hi172_2 hl172_2
     have HR172_3 := Aside0.mk hi172_3
     have HC172_3 := Aside0.mk hl172_3
     clear hi172_3 hl172_3
     replace p172 := eq_true p172
     replace q172 := eq_true q172
     go_wp2_with (first | (go_at_call 75; (with_reducible refine (spec_l00In.calls a0_0 1 32 true _ A3.out).mono ?_); rintro e w' ⟨rfl, ⟨nd, rfl⟩⟩; (try first | exact ⟨rfl, _, dN⟩ | exact ⟨rfl, _, dM⟩)) | (go_at_call 75; (with_reducible refine (spec_l00In.calls a0_1 0 (wrap64 (a0_0 - 1)) true _ A5.out).mono ?_); rintro e w' ⟨rfl, ⟨nd, rfl⟩⟩; (try first | exact ⟨rfl, _, dN⟩ | exact ⟨rfl, _, dM⟩)) | (go_at_call 101; (with_reducible refine (spec_l00Rises.calls k _ _ l0_2 0 (wrap64 (a0_0 - 1)) false _ ?side1 ?side2 A7.out).mono ?_); (case side1 => repeat (first | exact (cB HR172_2.out (hQ HB)) | (with_reducible refine cA ?_ _) | (with_reducible refine cN ?_ _) | (with_reducible refine cD ?_))); (case side2 => exact HC172_2.out); rintro e w' ⟨rfl, ⟨nd, rfl⟩⟩; (try first | exact ⟨rfl, _, dN⟩ | exact ⟨rfl, _, dM⟩)))
     repeat (go_quiet (first | (go_at_call 75; (try simp only [iW]); (with_reducible refine (spec_l00In.calls a0_0 1 32 true _ A3.out).mono ?_); rintro e w' ⟨rfl, ⟨nd, rfl⟩⟩; (try first | exact ⟨rfl, _, dN⟩ | exact ⟨rfl, _, dM⟩)) | (go_at_call 75; (try simp only [iW]); (with_reducible refine (spec_l00In.calls a0_1 0 (wrap64 (a0_0 - 1)) true _ A5.out).mono ?_); rintro e w' ⟨rfl, ⟨nd, rfl⟩⟩; (try first | exact ⟨rfl, _, dN⟩ | exact ⟨rfl, _, dM⟩)) | (go_at_call 101; (try simp only [iW]); (with_reducible refine (spec_l00Rises.calls k _ _ l0_2 0 (wrap64 (a0_0 - 1)) false _ ?side1 ?side2 A7.out).mono ?_); (case side1 => repeat (first | exact (cB HR172_2.out (hQ HB)) | (with_reducible refine cA ?_ _) | (with_reducible refine cN ?_ _) | (with_reducible refine cD ?_))); (case side2 => exact HC172_2.out); rintro e w' ⟨rfl, ⟨nd, rfl⟩⟩; (try first | exact ⟨rfl, _, dN⟩ | exact ⟨rfl, _, dM⟩))); try go_wp2_with (first | (go_at_call 75; (try simp only [iW]); (with_reducible refine (spec_l00In.calls a0_0 1 32 true _ A3.out).mono ?_); rintro e w' ⟨rfl, ⟨nd, rfl⟩⟩; (try first | exact ⟨rfl, _, dN⟩ | exact ⟨rfl, _, dM⟩)) | (go_at_call 75; (try simp only [iW]); (with_reducible refine (spec_l00In.calls a0_1 0 (wrap64 (a0_0 - 1)) true _ A5.out).mono ?_); rintro e w' ⟨rfl, ⟨nd, rfl⟩⟩; (try first | exact ⟨rfl, _, dN⟩ | exact ⟨rfl, _, dM⟩)) | (go_at_call 101; (try simp only [iW]); (with_reducible refine (spec_l00Rises.calls k _ _ l0_2 0 (wrap64 (a0_0 - 1)) false _ ?side1 ?side2 A7.out).mono ?_); (case side1 => repeat (first | exact (cB HR172_2.out (hQ HB)) | (with_reducible refine cA ?_ _) | (with_reducible refine cN ?_ _) | (with_reducible refine cD ?_))); (case side2 => exact HC172_2.out); rintro e w' ⟨rfl, ⟨nd, rfl⟩⟩; (try first | exact ⟨rfl, _, dN⟩ | exact ⟨rfl, _, dM⟩))))
     go_meet
     case rel => exact ⟨_, (true), eT, H', ⟨by first | omega | exact Nat.le_refl _⟩, ⟨hQ HB⟩⟩
   ·replace c6 := Bool.eq_false_iff.mpr c6
    subst c6
    have H1 : (spec_l07Ok.j0 k true a0_0 a0_1 l0_2 l0_3) = some r := by rw [if_neg (show ¬ (false = true) by decide)] at H; exact H
    clear H
    have H := H1
    clear H1
    have H' := Aside0.mk H
    clear H
    have p172 : 0 ≤ (0 : Int) := (by omega)
    have q172 : 0 < ([(⟨a0_0, a0_1, l0_2, l0_3⟩ : S30)].length : Int) := (by simp)
    obtain ⟨ad172, A172_2, c172_2, A172_3, c172_3, e172, hx172_0, hx172_1, hx172_2, hx172_3, hl172_2, hi172_2, hl172_3, hi172_3⟩ := at_T30 HRp0.out 0 p172 q172
    replace hx172_0 : _ = (some (.int .i64 a0_0) : Option Value) := hx172_0
    replace hx172_1 : _ = (some (.int .i64 a0_1) : Option Value) := hx172_1
    replace hx172_2 : _ = (some (.slice A172_2 l0_2.length c172_2) : Option Value) := hx172_2
    replace hi172_2 : Kd.C (Kd.int .i64) _ _ l0_2.length l0_2 := hi172_2
    replace hl172_2 : l0_2.length ≤ _ := hl172_2
    replace hx172_3 : _ = (some (.slice A172_3 l0_3.length c172_3) : Option Value) := hx172_3
    replace hi172_3 : Kd.C k67 _ _ l0_3.length l0_3 := hi172_3
    replace hl172_3 : l0_3.length ≤ _ := hl172_3
    obtain rfl : adp0 = ad172 := (by injection e172)
    have qi172 : (0 < [(⟨a0_0, a0_1, l0_2, l0_3⟩ : S30)].length) = True := eq_true (by simp)
    (try rw [t00] at hx172_0)
    (try rw [Nat.zero_mul] at hx172_0)
    (try rw [Addr.add_zero'] at hx172_0)
    (try rw [t00] at hx172_1)
    (try rw [Nat.zero_mul] at hx172_1)
    (try rw [Addr.add_zero'] at hx172_1)
    (try rw [t00] at hx172_2)
    (try rw [Nat.zero_mul] at hx172_2)
    (try rw [Addr.add_zero'] at hx172_2)
    (try rw [t00] at hx172_3)
    (try rw [Nat.zero_mul] at hx172_3)
    (try rw [Addr.add_zero'] at hx172_3)
    replace hx172_0 := (HB.out.cell (World.block_lt_of_cell? w _ hx172_0)).trans hx172_0
    replace hx172_1 := (HB.out.cell (World.block_lt_of_cell? w _ hx172_1)).trans hx172_1
    replace hx172_2 := (HB.out.cell (World.block_lt_of_cell? w _ hx172_2)).trans hx172_2
    replace hx172_3 := (HB.out.cell (World.block_lt_of_cell? w _ hx172_3)).trans hx172_3
    have HR172_2 := Aside0.mk hi172_2
    have HC172_2 := Aside0.mk hl172_2
    clear hi172_2 hl172_2
    have HR172_3 := Aside0.mk hi172_3
    have HC172_3 := Aside0.mk hl172_3
    clear hi172_3 hl172_3
    replace p172 := eq_true p172
    replace q172 := eq_true q172
    go_wp2_with (first | (go_at_call 75; (with_reducible refine (spec_l00In.calls a0_0 1 32 true _ A3.out).mono ?_); rintro e w' ⟨rfl, ⟨nd, rfl⟩⟩; (try first | exact ⟨rfl, _, dN⟩ | exact ⟨rfl, _, dM⟩)) | (go_at_call 75; (with_reducible refine (spec_l00In.calls a0_1 0 (wrap64 (a0_0 - 1)) false _ A5.out).mono ?_); rintro e w' ⟨rfl, ⟨nd, rfl⟩⟩; (try first | exact ⟨rfl, _, dN⟩ | exact ⟨rfl, _, dM⟩)))
    repeat (go_quiet (first | (go_at_call 75; (try simp only [iW]); (with_reducible refine (spec_l00In.calls a0_0 1 32 true _ A3.out).mono ?_); rintro e w' ⟨rfl, ⟨nd, rfl⟩⟩; (try first | exact ⟨rfl, _, dN⟩ | exact ⟨rfl, _, dM⟩)) | (go_at_call 75; (try simp only [iW]); (with_reducible refine (spec_l00In.calls a0_1 0 (wrap64 (a0_0 - 1)) false _ A5.out).mono ?_); rintro e w' ⟨rfl, ⟨nd, rfl⟩⟩; (try first | exact ⟨rfl, _, dN⟩ | exact ⟨rfl, _, dM⟩))); try go_wp2_with (first | (go_at_call 75; (try simp only [iW]); (with_reducible refine (spec_l00In.calls a0_0 1 32 true _ A3.out).mono ?_); rintro e w' ⟨rfl, ⟨nd, rfl⟩⟩; (try first | exact ⟨rfl, _, dN⟩ | exact ⟨rfl, _, dM⟩)) | (go_at_call 75; (try simp only [iW]); (with_reducible refine (spec_l00In.calls a0_1 0 (wrap64 (a0_0 - 1)) false _ A5.out).mono ?_); rintro e w' ⟨rfl, ⟨nd, rfl⟩⟩; (try first | exact ⟨rfl, _, dN⟩ | exact ⟨rfl, _, dM⟩))))
    go_meet
    case rel => exact ⟨_, (true), eT, H', ⟨by first | omega | exact Nat.le_refl _⟩, ⟨hQ HB⟩⟩
  ·replace c4 := Bool.eq_false_iff.mpr c4
   subst c4
   have H1 : (spec_l07Ok.j0 k true a0_0 a0_1 l0_2 l0_3) = some r := by rw [if_neg (show ¬ (false = true) by decide)] at H; exact H
   clear H
   have H := H1
   clear H1
   have H' := Aside0.mk H
   clear H
   have p172 : 0 ≤ (0 : Int) := (by omega)
   have q172 : 0 < ([(⟨a0_0, a0_1, l0_2, l0_3⟩ : S30)].length : Int) := (by simp)
   obtain ⟨ad172, A172_2, c172_2, A172_3, c172_3, e172, hx172_0, hx172_1, hx172_2, hx172_3, hl172_2, hi172_2, hl172_3, hi172_3⟩ := at_T30 HRp0.out 0 p172 q172
   replace hx172_0 : _ = (some (.int .i64 a0_0) : Option Value) := hx172_0
   replace hx172_1 : _ = (some (.int .i64 a0_1) : Option Value) := hx172_1
   replace hx172_2 : _ = (some (.slice A172_2 l0_2.length c172_2) : Option Value) := hx172_2
   replace hi172_2 : Kd.C (Kd.int .i64) _ _ l0_2.length l0_2 := hi172_2
   replace hl172_2 : l0_2.length ≤ _ := hl172_2
   replace hx172_3 : _ = (some (.slice A172_3 l0_3.length c172_3) : Option Value) := hx172_3
   replace hi172_3 : Kd.C k67 _ _ l0_3.length l0_3 := hi172_3
   replace hl172_3 : l0_3.length ≤ _ := hl172_3
   obtain rfl : adp0 = ad172 := (by injection e172)
   have qi172 : (0 < [(⟨a0_0, a0_1, l0_2, l0_3⟩ : S30)].length) = True := eq_true (by simp)
   (try rw [t00] at hx172_0)
   (try rw [Nat.zero_mul] at hx172_0)
   (try rw [Addr.add_zero'] at hx172_0)
   (try rw [t00] at hx172_1)
   (try rw [Nat.zero_mul] at hx172_1)
   (try rw [Addr.add_zero'] at hx172_1)
   (try rw [t00] at hx172_2)
   (try rw [Nat.zero_mul] at hx172_2)
   (try rw [Addr.add_zero'] at hx172_2)
   (try rw [t00] at hx172_3)
   (try rw [Nat.zero_mul] at hx172_3)
   (try rw [Addr.add_zero'] at hx172_3)
   replace hx172_0 := (HB.out.cell (World.block_lt_of_cell? w _ hx172_0)).trans hx172_0
   replace hx172_1 := (HB.out.cell (World.block_lt_of_cell? w _ hx172_1)).trans hx172_1
   replace hx172_2 := (HB.out.cell (World.block_lt_of_cell? w _ hx172_2)).trans hx172_2
   replace hx172_3 := (HB.out.cell (World.block_lt_of_cell? w _ hx172_3)).trans hx172_3
   have HR172_2 := Aside0.mk hi172_2
   have HC172_2 := Aside0.mk hl172_2
   clear hi172_2 hl172_2
   have HR172_3 := Aside0.mk hi172_3
   have HC172_3 := Aside0.mk hl172_3
   clear hi172_3 hl172_3
   replace p172 := eq_true p172
   replace q172 := eq_true q172
   go_wp2_with (first | (go_at_call 75; (with_reducible refine (spec_l00In.calls a0_0 1 32 false _ A3.out).mono ?_); rintro e w' ⟨rfl, ⟨nd, rfl⟩⟩; (try first | exact ⟨rfl, _, dN⟩ | exact ⟨rfl, _, dM⟩)))
   repeat (go_quiet (first | (go_at_call 75; (try simp only [iW]); (with_reducible refine (spec_l00In.calls a0_0 1 32 false _ A3.out).mono ?_); rintro e w' ⟨rfl, ⟨nd, rfl⟩⟩; (try first | exact ⟨rfl, _, dN⟩ | exact ⟨rfl, _, dM⟩))); try go_wp2_with (first | (go_at_call 75; (try simp only [iW]); (with_reducible refine (spec_l00In.calls a0_0 1 32 false _ A3.out).mono ?_); rintro e w' ⟨rfl, ⟨nd, rfl⟩⟩; (try first | exact ⟨rfl, _, dN⟩ | exact ⟨rfl, _, dM⟩))))
   go_meet
   case rel => exact ⟨_, (true), eT, H', ⟨by first | omega | exact Nat.le_refl _⟩, ⟨hQ HB⟩⟩
 case rest =>
  clear HC2
  try clear c1
  try clear p1
  try clear q1
  try clear hx1
  try clear qi1
  try clear p2
  try clear c4
  try clear c5
  try clear c6
  try clear p6
  try clear c8
  try clear hx172_0
  try clear hx172_1
  try clear hx172_2
  try clear hx172_3
  try clear p172
  try clear q172
  obtain ⟨kq, x44_1, rfl, HA, HJ1, HB⟩ := hcut
  cases kq with
  | zero => exact absurd HA.out (by simp [spec_l07Ok.j0])
  | succ kj1 =>
   have H := HA.out
   clear HA
   simp only [spec_l07Ok.j0] at H
   by_cases c9 : x44_1 = true
   ·subst c9
    have H1 : (some false) = some r := by rw [if_pos rfl] at H; exact H
    clear H
    have H := H1
    clear H1
    obtain rfl := Option.some.inj H
    go_wp2
    repeat (go_quiet (fail); try go_wp2)
    go_ret
    exact ⟨by first | rfl | (simp [errW_none, errW_some] <;> rfl) | (simp [*, errW_none, errW_some] <;> rfl), hQ HB⟩
   ·replace c9 := Bool.eq_false_iff.mpr c9
    subst c9
    have H1 : (spec_l07Ok.l0 kj1 0 a0_0 a0_1 l0_2 l0_3) = some r := by rw [if_neg (show ¬ (false = true) by decide)] at H; exact H
    clear H
    have H := H1
    clear H1
    have H' := Aside0.mk H
    clear H
    go_wp2
    repeat (go_quiet (fail); try go_wp2)
    go_loopg [3] kj1 (fun kq v3 w' => ∃ (x3_2 : Int), v3 = .int .i64 x3_2 ∧ Aside0 (spec_l07Ok.l0 kq x3_2 a0_0 a0_1 l0_2 l0_3 = some r) ∧ Aside0 (kq ≤ kj1) ∧ Aside0 (Below w.heap.size w w'))
    case atStart => exact ⟨(0), eT, H', ⟨Nat.le_refl _⟩, ⟨hQ HB⟩⟩
    case round =>
     clear H'
     try clear c1
     try clear p1
     try clear q1
     try clear hx1
     try clear qi1
     try clear p2
     try clear c4
     try clear c5
     try clear c6
     try clear p6
     try clear c8
     try clear c9
     try clear hx172_0
     try clear hx172_1
     try clear hx172_2
     try clear hx172_3
     try clear p1
     try clear p172
     try clear p2
     try clear p6
     try clear q1
     try clear q172
     obtain ⟨x3_2, rfl, HA, HK2, HB⟩ := hrel
     cases gk with
     | zero => exact absurd HA.out (by simp [spec_l07Ok.l0])
     | succ k2 =>
      have H := HA.out
      clear HA
      simp only [spec_l07Ok.l0] at H
      by_cases c10 : x3_2 < (l0_3.length : Int)
      ·rw [if_pos c10] at H
       have c10b0 : decide (x3_2 < (l0_3.length : Int)) = true := decide_eq_true c10
       clear c10
       by_cases c11 : 0 ≤ x3_2
       ·rw [if_pos c11] at H
        have c11b0 : decide (0 ≤ x3_2) = true := decide_eq_true c11
        clear c11
        have HC12 := Aside0.mk H
        clear H
        have p176 : 0 ≤ (0 : Int) := (by omega)
        have q176 : 0 < ([(⟨a0_0, a0_1, l0_2, l0_3⟩ : S30)].length : Int) := (by simp)
        obtain ⟨ad176, A176_2, c176_2, A176_3, c176_3, e176, hx176_0, hx176_1, hx176_2, hx176_3, hl176_2, hi176_2, hl176_3, hi176_3⟩ := at_T30 HRp0.out 0 p176 q176
        replace hx176_0 : _ = (some (.int .i64 a0_0) : Option Value) := hx176_0
        replace hx176_1 : _ = (some (.int .i64 a0_1) : Option Value) := hx176_1
        replace hx176_2 : _ = (some (.slice A176_2 l0_2.length c176_2) : Option Value) := hx176_2
        replace hi176_2 : Kd.C (Kd.int .i64) _ _ l0_2.length l0_2 := hi176_2
        replace hl176_2 : l0_2.length ≤ _ := hl176_2
        replace hx176_3 : _ = (some (.slice A176_3 l0_3.length c176_3) : Option Value) := hx176_3
        replace hi176_3 : Kd.C k67 _ _ l0_3.length l0_3 := hi176_3
        replace hl176_3 : l0_3.length ≤ _ := hl176_3
        obtain rfl : adp0 = ad176 := (by injection e176)
        have qi176 : (0 < [(⟨a0_0, a0_1, l0_2, l0_3⟩ : S30)].length) = True := eq_true (by simp)
        (try rw [t00] at hx176_0)
        (try rw [Nat.zero_mul] at hx176_0)
        (try rw [Addr.add_zero'] at hx176_0)
        (try rw [t00] at hx176_1)
        (try rw [Nat.zero_mul] at hx176_1)
        (try rw [Addr.add_zero'] at hx176_1)
        (try rw [t00] at hx176_2)
        (try rw [Nat.zero_mul] at hx176_2)
        (try rw [Addr.add_zero'] at hx176_2)
        (try rw [t00] at hx176_3)
        (try rw [Nat.zero_mul] at hx176_3)
        (try rw [Addr.add_zero'] at hx176_3)
        replace hx176_0 := (HB.out.cell (World.block_lt_of_cell? w _ hx176_0)).trans hx176_0
        replace hx176_1 := (HB.out.cell (World.block_lt_of_cell? w _ hx176_1)).trans hx176_1
        replace hx176_2 := (HB.out.cell (World.block_lt_of_cell? w _ hx176_2)).trans hx176_2
        replace hx176_3 := (HB.out.cell (World.block_lt_of_cell? w _ hx176_3)).trans hx176_3
        have HR176_2 := Aside0.mk hi176_2
        have HC176_2 := Aside0.mk hl176_2
        clear hi176_2 hl176_2
        have HR176_3 := Aside0.mk hi176_3
        have HC176_3 := Aside0.mk hl176_3
        clear hi176_3 hl176_3
        replace p176 := eq_true p176
        replace q176 := eq_true q176
        have p177 : 0 ≤ (x3_2 : Int) := oT
        have q177 : x3_2 < (l0_3.length : Int) := oT
        obtain ⟨ad177, e177, hx177_0, hx177_1, hx177_2⟩ := at_T67 HR176_3.out x3_2 p177 q177
        cases e177
        replace hx177_0 := (HB.out.cell (World.block_lt_of_cell? w _ hx177_0)).trans hx177_0
        replace hx177_1 := (HB.out.cell (World.block_lt_of_cell? w _ hx177_1)).trans hx177_1
        replace hx177_2 := (HB.out.cell (World.block_lt_of_cell? w _ hx177_2)).trans hx177_2
        replace p177 := eq_true p177
        replace q177 := eq_true q177
        go_upto_region 7 with (first | ((with_reducible refine gate_dst (N := 4) rfl ?_); (try (refine gate_guard (by rfl) ?_; dsimp only)); refine bE ?hg (N := 4) ?hd (cs := #[.int .i64 0, .int .i64 0, .int .i64 0]) (t := 67) ?hr ?_; (case hd => rfl); (case hg => rfl); (case hr => first | (go_simp; done) | (go_simp; rfl)); intro gb178 hg w13 hbox hb; have z_ := bX hb (hQ HB); have n0_ := Aside0.mk (bP z_ hb); have n1_ := Aside0.mk (hbox); have n2_ := Aside0.mk ((by rw [hg]; exact (bZ z_) : w.heap.size ≤ gb178)); have n3_ := Aside0.mk ((by rw [hg]; exact (bZ z_) : w.heap.size ≤ gb178)); clear HB; have HB := n0_; have BK178 := n1_; have GW178 := n2_; have GE178 := n3_; clear z_ n0_ n1_ n2_ n3_; clear hb hbox hg; obtain ⟨hcz14_0, hcz14_1, hcz14_2⟩ := cZ3 BK178.out; obtain ⟨hfz14_0, hfz14_1, hfz14_2⟩ := fZ3 BK178.out))
        repeat (go_quiet (first | ((with_reducible refine gate_dst (N := 4) rfl ?_); (try (refine gate_guard (by rfl) ?_; dsimp only)); refine bE ?hg (N := 4) ?hd (cs := #[.int .i64 0, .int .i64 0, .int .i64 0]) (t := 67) ?hr ?_; (case hd => rfl); (case hg => rfl); (case hr => first | (go_simp; done) | (go_simp; rfl)); intro gb178 hg w13 hbox hb; have z_ := bX hb (hQ HB); have n0_ := Aside0.mk (bP z_ hb); have n1_ := Aside0.mk (hbox); have n2_ := Aside0.mk ((by rw [hg]; exact (bZ z_) : w.heap.size ≤ gb178)); have n3_ := Aside0.mk ((by rw [hg]; exact (bZ z_) : w.heap.size ≤ gb178)); clear HB; have HB := n0_; have BK178 := n1_; have GW178 := n2_; have GE178 := n3_; clear z_ n0_ n1_ n2_ n3_; clear hb hbox hg; obtain ⟨hcz14_0, hcz14_1, hcz14_2⟩ := cZ3 BK178.out; obtain ⟨hfz14_0, hfz14_1, hfz14_2⟩ := fZ3 BK178.out)); go_upto_region 7 with (first | ((with_reducible refine gate_dst (N := 4) rfl ?_); (try (refine gate_guard (by rfl) ?_; dsimp only)); refine bE ?hg (N := 4) ?hd (cs := #[.int .i64 0, .int .i64 0, .int .i64 0]) (t := 67) ?hr ?_; (case hd => rfl); (case hg => rfl); (case hr => first | (go_simp; done) | (go_simp; rfl)); intro gb178 hg w13 hbox hb; have z_ := bX hb (hQ HB); have n0_ := Aside0.mk (bP z_ hb); have n1_ := Aside0.mk (hbox); have n2_ := Aside0.mk ((by rw [hg]; exact (bZ z_) : w.heap.size ≤ gb178)); have n3_ := Aside0.mk ((by rw [hg]; exact (bZ z_) : w.heap.size ≤ gb178)); clear HB; have HB := n0_; have BK178 := n1_; have GW178 := n2_; have GE178 := n3_; clear z_ n0_ n1_ n2_ n3_; clear hb hbox hg; obtain ⟨hcz14_0, hcz14_1, hcz14_2⟩ := cZ3 BK178.out; obtain ⟨hfz14_0, hfz14_1, hfz14_2⟩ := fZ3 BK178.out)))
        (try simp only [Act.put, sI, sZ, sS])
        go_cut [86] (fun v86 wc => ∃ (kq : Nat) (x86_11 : Bool), v86 = .bool x86_11 ∧ Aside0 (spec_l07Ok.j2 kq x3_2 x86_11 a0_0 a0_1 l0_2 l0_3 ((rd_T67 l0_3 x3_2).f0) ((rd_T67 l0_3 x3_2).f1) ((rd_T67 l0_3 x3_2).f2) = some r) ∧ Aside0 (kq ≤ k2) ∧ Aside0 (wc.heap[gb178]? = some (.cells #[.int .i64 ((rd_T67 l0_3 x3_2).f0), .int .i64 ((rd_T67 l0_3 x3_2).f1), .int .i64 ((rd_T67 l0_3 x3_2).f2)] 67 (0, 0))) ∧ Aside0 (Below w.heap.size w wc))
        case first =>
         have H := HC12.out
         clear HC12
         replace H := Option.bind_eq_some_iff.mp H
         obtain ⟨t179, A150, H⟩ := H
         replace H : (if t179 = true then ((spec_l03Pitch.f ((rd_T67 l0_3 x3_2).f1)).bind fun t180 => (if t180 = true then ((spec_l00In.f ((rd_T67 l0_3 x3_2).f2) 0 (wrap64 (a0_0 - 1))).bind fun t181 => (spec_l07Ok.j2 k2 x3_2 (!t181) a0_0 a0_1 l0_2 l0_3 ((rd_T67 l0_3 x3_2).f0) ((rd_T67 l0_3 x3_2).f1) ((rd_T67 l0_3 x3_2).f2))) else (spec_l07Ok.j2 k2 x3_2 true a0_0 a0_1 l0_2 l0_3 ((rd_T67 l0_3 x3_2).f0) ((rd_T67 l0_3 x3_2).f1) ((rd_T67 l0_3 x3_2).f2)))) else (spec_l07Ok.j2 k2 x3_2 true a0_0 a0_1 l0_2 l0_3 ((rd_T67 l0_3 x3_2).f0) ((rd_T67 l0_3 x3_2).f1) ((rd_T67 l0_3 x3_2).f2))) = some r := H
         have A15 := Aside0.mk A150
         clear A150
         by_cases c16 : t179 = true
         ·subst c16
          have H1 : ((spec_l03Pitch.f ((rd_T67 l0_3 x3_2).f1)).bind fun t180 => (if t180 = true then ((spec_l00In.f ((rd_T67 l0_3 x3_2).f2) 0 (wrap64 (a0_0 - 1))).bind fun t181 => (spec_l07Ok.j2 k2 x3_2 (!t181) a0_0 a0_1 l0_2 l0_3 ((rd_T67 l0_3 x3_2).f0) ((rd_T67 l0_3 x3_2).f1) ((rd_T67 l0_3 x3_2).f2))) else (spec_l07Ok.j2 k2 x3_2 true a0_0 a0_1 l0_2 l0_3 ((rd_T67 l0_3 x3_2).f0) ((rd_T67 l0_3 x3_2).f1) ((rd_T67 l0_3 x3_2).f2)))) = some r := by rw [if_pos rfl] at H; exact H
          clear H
          have H := H1
          clear H1
          replace H := Option.bind_eq_some_iff.mp H
          obtain ⟨t180, A170, H⟩ := H
          replace H : (if t180 = true then ((spec_l00In.f ((rd_T67 l0_3 x3_2).f2) 0 (wrap64 (a0_0 - 1))).bind fun t181 => (spec_l07Ok.j2 k2 x3_2 (!t181) a0_0 a0_1 l0_2 l0_3 ((rd_T67 l0_3 x3_2).f0) ((rd_T67 l0_3 x3_2).f1) ((rd_T67 l0_3 x3_2).f2))) else (spec_l07Ok.j2 k2 x3_2 true a0_0 a0_1 l0_2 l0_3 ((rd_T67 l0_3 x3_2).f0) ((rd_T67 l0_3 x3_2).f1) ((rd_T67 l0_3 x3_2).f2))) = some r := H
          have A17 := Aside0.mk A170
          clear A170
          by_cases c18 : t180 = true
          ·subst c18
           have H1 : ((spec_l00In.f ((rd_T67 l0_3 x3_2).f2) 0 (wrap64 (a0_0 - 1))).bind fun t181 => (spec_l07Ok.j2 k2 x3_2 (!t181) a0_0 a0_1 l0_2 l0_3 ((rd_T67 l0_3 x3_2).f0) ((rd_T67 l0_3 x3_2).f1) ((rd_T67 l0_3 x3_2).f2))) = some r := by rw [if_pos rfl] at H; exact H
           clear H
           have H := H1
           clear H1
           replace H := Option.bind_eq_some_iff.mp H
           obtain ⟨t181, A190, H⟩ := H
           replace H : (spec_l07Ok.j2 k2 x3_2 (!t181) a0_0 a0_1 l0_2 l0_3 ((rd_T67 l0_3 x3_2).f0) ((rd_T67 l0_3 x3_2).f1) ((rd_T67 l0_3 x3_2).f2)) = some r := H
           have A19 := Aside0.mk A190
           clear A190
           have H' := Aside0.mk H
           clear H
           obtain ⟨hcz20_0, hcz20_1, hcz20_2⟩ := cZ3 BK178.out
           obtain ⟨hfz20_0, hfz20_1, hfz20_2⟩ := fZ3 BK178.out
           go_wp2_with (first | (go_at_call 75; (with_reducible refine (spec_l00In.calls ((rd_T67 l0_3 x3_2).f0) 0 (wrap64 (a0_0 - 1)) true _ A15.out).mono ?_); rintro e w' ⟨rfl, ⟨nd, rfl⟩⟩; (try first | exact ⟨rfl, _, dN⟩ | exact ⟨rfl, _, dM⟩)) | (go_at_call 93; (with_reducible refine (spec_l03Pitch.calls ((rd_T67 l0_3 x3_2).f1) true _ A17.out).mono ?_); rintro e w' ⟨rfl, ⟨nd, rfl⟩⟩; (try first | exact ⟨rfl, _, dN⟩ | exact ⟨rfl, _, dM⟩)) | (go_at_call 75; (with_reducible refine (spec_l00In.calls ((rd_T67 l0_3 x3_2).f2) 0 (wrap64 (a0_0 - 1)) t181 _ A19.out).mono ?_); rintro e w' ⟨rfl, ⟨nd, rfl⟩⟩; (try first | exact ⟨rfl, _, dN⟩ | exact ⟨rfl, _, dM⟩)))
           have pz_ : 0 ≤ (0 : Int) := (by omega)
           have qz_ : 0 < ([(⟨a0_0, a0_1, l0_2, l0_3⟩ : S30)].length : Int) := (by simp)
           obtain ⟨adz_, Az2_, cz2_, Az3_, cz3_, ez_, hz0_, hz1_, hz2_, hz3_, _, _, _, _⟩ := at_T30 HRp0.out 0 pz_ qz_
           obtain rfl : adp0 = adz_ := (by injection ez_)
           replace hz0_ : _ = (some (.int .i64 a0_0) : Option Value) := hz0_
           (try rw [t00] at hz0_)
           (try rw [Nat.zero_mul] at hz0_)
           (try rw [Addr.add_zero'] at hz0_)
           have hne_ : ∀ o : Nat, ((⟨gb178, o, none⟩ : Addr) = adp0) = False := fun o => eq_false (by rintro rfl; exact absurd (World.block_lt_of_cell? w _ hz0_) (Nat.not_lt.2 GE178.out))
           have hy0_ := (HB.out.cell (World.block_lt_of_cell? w _ hz0_)).trans hz0_
           clear hz0_ hz1_ hz2_ hz3_ pz_ qz_ ez_
           repeat (go_quiet (first | (go_at_call 75; (try simp only [iW]); (with_reducible refine (spec_l00In.calls ((rd_T67 l0_3 x3_2).f0) 0 (wrap64 (a0_0 - 1)) true _ A15.out).mono ?_); rintro e w' ⟨rfl, ⟨nd, rfl⟩⟩; (try first | exact ⟨rfl, _, dN⟩ | exact ⟨rfl, _, dM⟩)) | (go_at_call 93; (try simp only [iW]); (with_reducible refine (spec_l03Pitch.calls ((rd_T67 l0_3 x3_2).f1) true _ A17.out).mono ?_); rintro e w' ⟨rfl, ⟨nd, rfl⟩⟩; (try first | exact ⟨rfl, _, dN⟩ | exact ⟨rfl, _, dM⟩)) | (go_at_call 75; (try simp only [iW]); (with_reducible refine (spec_l00In.calls ((rd_T67 l0_3 x3_2).f2) 0 (wrap64 (a0_0 - 1)) t181 _ A19.out).mono ?_); rintro e w' ⟨rfl, ⟨nd, rfl⟩⟩; (try first | exact ⟨rfl, _, dN⟩ | exact ⟨rfl, _, dM⟩))); try go_wp2_with (first | (go_at_call 75; (try simp only [iW]); (with_reducible refine (spec_l00In.calls ((rd_T67 l0_3 x3_2).f0) 0 (wrap64 (a0_0 - 1)) true _ A15.out).mono ?_); rintro e w' ⟨rfl, ⟨nd, rfl⟩⟩; (try first | exact ⟨rfl, _, dN⟩ | exact ⟨rfl, _, dM⟩)) | (go_at_call 93; (try simp only [iW]); (with_reducible refine (spec_l03Pitch.calls ((rd_T67 l0_3 x3_2).f1) true _ A17.out).mono ?_); rintro e w' ⟨rfl, ⟨nd, rfl⟩⟩; (try first | exact ⟨rfl, _, dN⟩ | exact ⟨rfl, _, dM⟩)) | (go_at_call 75; (try simp only [iW]); (with_reducible refine (spec_l00In.calls ((rd_T67 l0_3 x3_2).f2) 0 (wrap64 (a0_0 - 1)) t181 _ A19.out).mono ?_); rintro e w' ⟨rfl, ⟨nd, rfl⟩⟩; (try first | exact ⟨rfl, _, dN⟩ | exact ⟨rfl, _, dM⟩))))
           go_meet
           case rel => exact ⟨_, (!t181), eT, H', ⟨by have := HJ1.out; have := HK2.out; first | omega | exact Nat.le_refl _⟩, ⟨by (with_reducible repeat (first | refine kN ?_ _ | refine kD ?_ | refine kA ?_ _)); refine blk_put (cs := #[.int .i64 ((rd_T67 l0_3 x3_2).f0), .int .i64 ((rd_T67 l0_3 x3_2).f1), .int .i64 0]) ?_ 2 _ rfl; (with_reducible repeat (first | refine kN ?_ _ | refine kD ?_ | refine kA ?_ _)); refine blk_put (cs := #[.int .i64 ((rd_T67 l0_3 x3_2).f0), .int .i64 0, .int .i64 0]) ?_ 1 _ rfl; (with_reducible repeat (first | refine kN ?_ _ | refine kD ?_ | refine kA ?_ _)); refine blk_put (cs := #[.int .i64 0, .int .i64 0, .int .i64 0]) ?_ 0 _ rfl; (with_reducible repeat (first | refine kN ?_ _ | refine kD ?_ | refine kA ?_ _)); exact BK178.out⟩, ⟨by repeat (first | (with_reducible first | exact HB.out | apply bA | apply bN | apply bD | refine bS ?_ GE178.out) | exact HB.out)⟩⟩
          ·replace c18 := Bool.eq_false_iff.mpr c18
           subst c18
           have H1 : (spec_l07Ok.j2 k2 x3_2 true a0_0 a0_1 l0_2 l0_3 ((rd_T67 l0_3 x3_2).f0) ((rd_T67 l0_3 x3_2).f1) ((rd_T67 l0_3 x3_2).f2)) = some r := by rw [if_neg (show ¬ (false = true) by decide)] at H; exact H
           clear H
           have H := H1
           clear H1
           have H' := Aside0.mk H
           clear H
           obtain ⟨hcz21_0, hcz21_1, hcz21_2⟩ := cZ3 BK178.out
           obtain ⟨hfz21_0, hfz21_1, hfz21_2⟩ := fZ3 BK178.out
           go_wp2_with (first | (go_at_call 75; (with_reducible refine (spec_l00In.calls ((rd_T67 l0_3 x3_2).f0) 0 (wrap64 (a0_0 - 1)) true _ A15.out).mono ?_); rintro e w' ⟨rfl, ⟨nd, rfl⟩⟩; (try first | exact ⟨rfl, _, dN⟩ | exact ⟨rfl, _, dM⟩)) | (go_at_call 93; (with_reducible refine (spec_l03Pitch.calls ((rd_T67 l0_3 x3_2).f1) false _ A17.out).mono ?_); rintro e w' ⟨rfl, ⟨nd, rfl⟩⟩; (try first | exact ⟨rfl, _, dN⟩ | exact ⟨rfl, _, dM⟩)))
           have pz_ : 0 ≤ (0 : Int) := (by omega)
           have qz_ : 0 < ([(⟨a0_0, a0_1, l0_2, l0_3⟩ : S30)].length : Int) := (by simp)
           obtain ⟨adz_, Az2_, cz2_, Az3_, cz3_, ez_, hz0_, hz1_, hz2_, hz3_, _, _, _, _⟩ := at_T30 HRp0.out 0 pz_ qz_
           obtain rfl : adp0 = adz_ := (by injection ez_)
           replace hz0_ : _ = (some (.int .i64 a0_0) : Option Value) := hz0_
           (try rw [t00] at hz0_)
           (try rw [Nat.zero_mul] at hz0_)
           (try rw [Addr.add_zero'] at hz0_)
           have hne_ : ∀ o : Nat, ((⟨gb178, o, none⟩ : Addr) = adp0) = False := fun o => eq_false (by rintro rfl; exact absurd (World.block_lt_of_cell? w _ hz0_) (Nat.not_lt.2 GE178.out))
           have hy0_ := (HB.out.cell (World.block_lt_of_cell? w _ hz0_)).trans hz0_
           clear hz0_ hz1_ hz2_ hz3_ pz_ qz_ ez_
           repeat (go_quiet (first | (go_at_call 75; (try simp only [iW]); (with_reducible refine (spec_l00In.calls ((rd_T67 l0_3 x3_2).f0) 0 (wrap64 (a0_0 - 1)) true _ A15.out).mono ?_); rintro e w' ⟨rfl, ⟨nd, rfl⟩⟩; (try first | exact ⟨rfl, _, dN⟩ | exact ⟨rfl, _, dM⟩)) | (go_at_call 93; (try simp only [iW]); (with_reducible refine (spec_l03Pitch.calls ((rd_T67 l0_3 x3_2).f1) false _ A17.out).mono ?_); rintro e w' ⟨rfl, ⟨nd, rfl⟩⟩; (try first | exact ⟨rfl, _, dN⟩ | exact ⟨rfl, _, dM⟩))); try go_wp2_with (first | (go_at_call 75; (try simp only [iW]); (with_reducible refine (spec_l00In.calls ((rd_T67 l0_3 x3_2).f0) 0 (wrap64 (a0_0 - 1)) true _ A15.out).mono ?_); rintro e w' ⟨rfl, ⟨nd, rfl⟩⟩; (try first | exact ⟨rfl, _, dN⟩ | exact ⟨rfl, _, dM⟩)) | (go_at_call 93; (try simp only [iW]); (with_reducible refine (spec_l03Pitch.calls ((rd_T67 l0_3 x3_2).f1) false _ A17.out).mono ?_); rintro e w' ⟨rfl, ⟨nd, rfl⟩⟩; (try first | exact ⟨rfl, _, dN⟩ | exact ⟨rfl, _, dM⟩))))
           go_meet
           case rel => exact ⟨_, (true), eT, H', ⟨by have := HJ1.out; have := HK2.out; first | omega | exact Nat.le_refl _⟩, ⟨by (with_reducible repeat (first | refine kN ?_ _ | refine kD ?_ | refine kA ?_ _)); refine blk_put (cs := #[.int .i64 ((rd_T67 l0_3 x3_2).f0), .int .i64 ((rd_T67 l0_3 x3_2).f1), .int .i64 0]) ?_ 2 _ rfl; (with_reducible repeat (first | refine kN ?_ _ | refine kD ?_ | refine kA ?_ _)); refine blk_put (cs := #[.int .i64 ((rd_T67 l0_3 x3_2).f0), .int .i64 0, .int .i64 0]) ?_ 1 _ rfl; (with_reducible repeat (first | refine kN ?_ _ | refine kD ?_ | refine kA ?_ _)); refine blk_put (cs := #[.int .i64 0, .int .i64 0, .int .i64 0]) ?_ 0 _ rfl; (with_reducible repeat (first | refine kN ?_ _ | refine kD ?_ | refine kA ?_ _)); exact BK178.out⟩, ⟨by repeat (first | (with_reducible first | exact HB.out | apply bA | apply bN | apply bD | refine bS ?_ GE178.out) | exact HB.out)⟩⟩
         ·replace c16 := Bool.eq_false_iff.mpr c16
          subst c16
          have H1 : (spec_l07Ok.j2 k2 x3_2 true a0_0 a0_1 l0_2 l0_3 ((rd_T67 l0_3 x3_2).f0) ((rd_T67 l0_3 x3_2).f1) ((rd_T67 l0_3 x3_2).f2)) = some r := by rw [if_neg (show ¬ (false = true) by decide)] at H; exact H
          clear H
          have H := H1
          clear H1
          have H' := Aside0.mk H
          clear H
          obtain ⟨hcz22_0, hcz22_1, hcz22_2⟩ := cZ3 BK178.out
          obtain ⟨hfz22_0, hfz22_1, hfz22_2⟩ := fZ3 BK178.out
          go_wp2_with (first | (go_at_call 75; (with_reducible refine (spec_l00In.calls ((rd_T67 l0_3 x3_2).f0) 0 (wrap64 (a0_0 - 1)) false _ A15.out).mono ?_); rintro e w' ⟨rfl, ⟨nd, rfl⟩⟩; (try first | exact ⟨rfl, _, dN⟩ | exact ⟨rfl, _, dM⟩)))
          have pz_ : 0 ≤ (0 : Int) := (by omega)
          have qz_ : 0 < ([(⟨a0_0, a0_1, l0_2, l0_3⟩ : S30)].length : Int) := (by simp)
          obtain ⟨adz_, Az2_, cz2_, Az3_, cz3_, ez_, hz0_, hz1_, hz2_, hz3_, _, _, _, _⟩ := at_T30 HRp0.out 0 pz_ qz_
          obtain rfl : adp0 = adz_ := (by injection ez_)
          replace hz0_ : _ = (some (.int .i64 a0_0) : Option Value) := hz0_
          (try rw [t00] at hz0_)
          (try rw [Nat.zero_mul] at hz0_)
          (try rw [Addr.add_zero'] at hz0_)
          have hne_ : ∀ o : Nat, ((⟨gb178, o, none⟩ : Addr) = adp0) = False := fun o => eq_false (by rintro rfl; exact absurd (World.block_lt_of_cell? w _ hz0_) (Nat.not_lt.2 GE178.out))
          have hy0_ := (HB.out.cell (World.block_lt_of_cell? w _ hz0_)).trans hz0_
          clear hz0_ hz1_ hz2_ hz3_ pz_ qz_ ez_
          repeat (go_quiet (first | (go_at_call 75; (try simp only [iW]); (with_reducible refine (spec_l00In.calls ((rd_T67 l0_3 x3_2).f0) 0 (wrap64 (a0_0 - 1)) false _ A15.out).mono ?_); rintro e w' ⟨rfl, ⟨nd, rfl⟩⟩; (try first | exact ⟨rfl, _, dN⟩ | exact ⟨rfl, _, dM⟩))); try go_wp2_with (first | (go_at_call 75; (try simp only [iW]); (with_reducible refine (spec_l00In.calls ((rd_T67 l0_3 x3_2).f0) 0 (wrap64 (a0_0 - 1)) false _ A15.out).mono ?_); rintro e w' ⟨rfl, ⟨nd, rfl⟩⟩; (try first | exact ⟨rfl, _, dN⟩ | exact ⟨rfl, _, dM⟩))))
          go_meet
          case rel => exact ⟨_, (true), eT, H', ⟨by have := HJ1.out; have := HK2.out; first | omega | exact Nat.le_refl _⟩, ⟨by (with_reducible repeat (first | refine kN ?_ _ | refine kD ?_ | refine kA ?_ _)); refine blk_put (cs := #[.int .i64 ((rd_T67 l0_3 x3_2).f0), .int .i64 ((rd_T67 l0_3 x3_2).f1), .int .i64 0]) ?_ 2 _ rfl; (with_reducible repeat (first | refine kN ?_ _ | refine kD ?_ | refine kA ?_ _)); refine blk_put (cs := #[.int .i64 ((rd_T67 l0_3 x3_2).f0), .int .i64 0, .int .i64 0]) ?_ 1 _ rfl; (with_reducible repeat (first | refine kN ?_ _ | refine kD ?_ | refine kA ?_ _)); refine blk_put (cs := #[.int .i64 0, .int .i64 0, .int .i64 0]) ?_ 0 _ rfl; (with_reducible repeat (first | refine kN ?_ _ | refine kD ?_ | refine kA ?_ _)); exact BK178.out⟩, ⟨by repeat (first | (with_reducible first | exact HB.out | apply bA | apply bN | apply bD | refine bS ?_ GE178.out) | exact HB.out)⟩⟩
        case rest =>
         clear HC12
         try clear c1
         try clear p1
         try clear q1
         try clear hx1
         try clear qi1
         try clear p2
         try clear c4
         try clear c5
         try clear c6
         try clear p6
         try clear c8
         try clear c9
         try clear c10
         try clear c10b0
         try clear c11
         try clear c11b0
         try clear c16
         try clear c17
         try clear p17
         try clear q17
         try clear hx17
         try clear qi17
         try clear c18
         try clear hcz14_0
         try clear hcz14_1
         try clear hcz14_2
         try clear hcz20_0
         try clear hcz20_1
         try clear hcz20_2
         try clear hcz21_0
         try clear hcz21_1
         try clear hcz21_2
         try clear hcz22_0
         try clear hcz22_1
         try clear hcz22_2
         try clear hfz14_0
         try clear hfz14_1
         try clear hfz14_2
         try clear hfz20_0
         try clear hfz20_1
         try clear hfz20_2
         try clear hfz21_0
         try clear hfz21_1
         try clear hfz21_2
         try clear hfz22_0
         try clear hfz22_1
         try clear hfz22_2
         try clear hx172_0
         try clear hx172_1
         try clear hx172_2
         try clear hx172_3
         try clear hx176_0
         try clear hx176_1
         try clear hx176_2
         try clear hx176_3
         try clear hx177_0
         try clear hx177_1
         try clear hx177_2
         try clear p1
         try clear p172
         try clear p176
         try clear p177
         try clear p2
         try clear p6
         try clear q1
         try clear q172
         try clear q176
         try clear q177
         obtain ⟨kq, x86_11, rfl, HA, HJ11, BK178, HB⟩ := hcut
         cases kq with
         | zero => exact absurd HA.out (by simp [spec_l07Ok.j2])
         | succ kj11 =>
          have H := HA.out
          clear HA
          simp only [spec_l07Ok.j2] at H
          by_cases c23 : x86_11 = true
          ·subst c23
           have H1 : (some false) = some r := by rw [if_pos rfl] at H; exact H
           clear H
           have H := H1
           clear H1
           obtain rfl := Option.some.inj H
           go_wp2
           repeat (go_quiet (fail); try go_wp2)
           go_ret
           exact ⟨by first | rfl | (simp [errW_none, errW_some] <;> rfl) | (simp [*, errW_none, errW_some] <;> rfl), by repeat (first | (with_reducible first | exact HB.out | apply bA | apply bN | apply bD | refine bS ?_ GE178.out) | exact HB.out)⟩
          ·replace c23 := Bool.eq_false_iff.mpr c23
           subst c23
           have H1 : (if x3_2 > 0 then (if 0 ≤ (wrap64 (x3_2 - 1)) then (if (wrap64 (x3_2 - 1)) < (l0_3.length : Int) then (if ((rd_T67 l0_3 (wrap64 (x3_2 - 1))).f0) > ((rd_T67 l0_3 x3_2).f0) then (some false) else (if ((rd_T67 l0_3 (wrap64 (x3_2 - 1))).f0) = ((rd_T67 l0_3 x3_2).f0) then (if ((rd_T67 l0_3 (wrap64 (x3_2 - 1))).f1) ≥ ((rd_T67 l0_3 x3_2).f1) then (some false) else (spec_l07Ok.l0 kj11 (wrap64 (x3_2 + 1)) a0_0 a0_1 l0_2 l0_3)) else (spec_l07Ok.l0 kj11 (wrap64 (x3_2 + 1)) a0_0 a0_1 l0_2 l0_3))) else (none)) else (none)) else (spec_l07Ok.l0 kj11 (wrap64 (x3_2 + 1)) a0_0 a0_1 l0_2 l0_3)) = some r := by rw [if_neg (show ¬ (false = true) by decide)] at H; exact H
           clear H
           have H := H1
           clear H1
           by_cases c24 : x3_2 > 0
           ·rw [if_pos c24] at H
            have c24b0 : decide (0 < x3_2) = true := decide_eq_true c24
            clear c24
            obtain ⟨ji25, hji25⟩ : ∃ j_ : Int, (wrap64 (x3_2 - 1)) = j_ := ⟨_, rfl⟩
            replace H : (if 0 ≤ (ji25) then (if (ji25) < (l0_3.length : Int) then (if ((rd_T67 l0_3 (ji25)).f0) > ((rd_T67 l0_3 x3_2).f0) then (some false) else (if ((rd_T67 l0_3 (ji25)).f0) = ((rd_T67 l0_3 x3_2).f0) then (if ((rd_T67 l0_3 (ji25)).f1) ≥ ((rd_T67 l0_3 x3_2).f1) then (some false) else (spec_l07Ok.l0 kj11 (wrap64 (x3_2 + 1)) a0_0 a0_1 l0_2 l0_3)) else (spec_l07Ok.l0 kj11 (wrap64 (x3_2 + 1)) a0_0 a0_1 l0_2 l0_3))) else (none)) else (none)) = some r := by first | (rw [hji25] at H; exact H) | (simp only [hji25] at H ⊢; exact H)
            have hji25w : (IntKind.i64.wrap (x3_2 - 1)) = ji25 := (iW _).trans hji25
            by_cases c26 : 0 ≤ (ji25)
            ·rw [if_pos c26] at H
             have c26b0 : decide (0 ≤ (ji25)) = true := decide_eq_true c26
             clear c26
             by_cases c27 : (ji25) < (l0_3.length : Int)
             ·rw [if_pos c27] at H
              have c27b0 : decide ((ji25) < (l0_3.length : Int)) = true := decide_eq_true c27
              clear c27
              by_cases c28 : ((rd_T67 l0_3 (ji25)).f0) > ((rd_T67 l0_3 x3_2).f0)
              ·rw [if_pos c28] at H
               have c28b0 : decide (((rd_T67 l0_3 x3_2).f0) < ((rd_T67 l0_3 (ji25)).f0)) = true := decide_eq_true c28
               clear c28
               obtain rfl := Option.some.inj H
               have p182 : 0 ≤ (0 : Int) := (by omega)
               have q182 : 0 < ([(⟨a0_0, a0_1, l0_2, l0_3⟩ : S30)].length : Int) := (by simp)
               obtain ⟨ad182, A182_2, c182_2, A182_3, c182_3, e182, hx182_0, hx182_1, hx182_2, hx182_3, hl182_2, hi182_2, hl182_3, hi182_3⟩ := at_T30 HRp0.out 0 p182 q182
               replace hx182_0 : _ = (some (.int .i64 a0_0) : Option Value) := hx182_0
               replace hx182_1 : _ = (some (.int .i64 a0_1) : Option Value) := hx182_1
               replace hx182_2 : _ = (some (.slice A182_2 l0_2.length c182_2) : Option Value) := hx182_2
               replace hi182_2 : Kd.C (Kd.int .i64) _ _ l0_2.length l0_2 := hi182_2
               replace hl182_2 : l0_2.length ≤ _ := hl182_2
               replace hx182_3 : _ = (some (.slice A182_3 l0_3.length c182_3) : Option Value) := hx182_3
               replace hi182_3 : Kd.C k67 _ _ l0_3.length l0_3 := hi182_3
               replace hl182_3 : l0_3.length ≤ _ := hl182_3
               obtain rfl : adp0 = ad182 := (by injection e182)
               have qi182 : (0 < [(⟨a0_0, a0_1, l0_2, l0_3⟩ : S30)].length) = True := eq_true (by simp)
               (try rw [t00] at hx182_0)
               (try rw [Nat.zero_mul] at hx182_0)
               (try rw [Addr.add_zero'] at hx182_0)
               (try rw [t00] at hx182_1)
               (try rw [Nat.zero_mul] at hx182_1)
               (try rw [Addr.add_zero'] at hx182_1)
               (try rw [t00] at hx182_2)
               (try rw [Nat.zero_mul] at hx182_2)
               (try rw [Addr.add_zero'] at hx182_2)
               (try rw [t00] at hx182_3)
               (try rw [Nat.zero_mul] at hx182_3)
               (try rw [Addr.add_zero'] at hx182_3)
               replace hx182_0 := (HB.out.cell (World.block_lt_of_cell? w _ hx182_0)).trans hx182_0
               replace hx182_1 := (HB.out.cell (World.block_lt_of_cell? w _ hx182_1)).trans hx182_1
               replace hx182_2 := (HB.out.cell (World.block_lt_of_cell? w _ hx182_2)).trans hx182_2
               replace hx182_3 := (HB.out.cell (World.block_lt_of_cell? w _ hx182_3)).trans hx182_3
               have HR182_2 := Aside0.mk hi182_2
               have HC182_2 := Aside0.mk hl182_2
               clear hi182_2 hl182_2
               have HR182_3 := Aside0.mk hi182_3
               have HC182_3 := Aside0.mk hl182_3
               clear hi182_3 hl182_3
               replace p182 := eq_true p182
               replace q182 := eq_true q182
               have p183 : 0 ≤ ((ji25) : Int) := oT
               have q183 : (ji25) < (l0_3.length : Int) := oT
               obtain ⟨ad183, e183, hx183_0, hx183_1, hx183_2⟩ := at_T67 HR182_3.out (ji25) p183 q183
               cases e183
               replace hx183_0 := (HB.out.cell (World.block_lt_of_cell? w _ hx183_0)).trans hx183_0
               replace hx183_1 := (HB.out.cell (World.block_lt_of_cell? w _ hx183_1)).trans hx183_1
               replace hx183_2 := (HB.out.cell (World.block_lt_of_cell? w _ hx183_2)).trans hx183_2
               replace p183 := eq_true p183
               replace q183 := eq_true q183
               have hcz29_0 : wc.cell? ⟨gb178, 0, none⟩ = some (.int .i64 ((rd_T67 l0_3 x3_2).f0)) := (kC BK178.out 0).trans rfl
               have hcz29_1 : wc.cell? ⟨gb178, 1, none⟩ = some (.int .i64 ((rd_T67 l0_3 x3_2).f1)) := (kC BK178.out 1).trans rfl
               have hcz29_2 : wc.cell? ⟨gb178, 2, none⟩ = some (.int .i64 ((rd_T67 l0_3 x3_2).f2)) := (kC BK178.out 2).trans rfl
               obtain ⟨hfz29_0, hfz29_1, hfz29_2⟩ := fZ3 BK178.out
               go_wp2
               repeat (go_quiet (fail); try go_wp2)
               go_ret
               exact ⟨by first | rfl | (simp [errW_none, errW_some] <;> rfl) | (simp only [← hji25]; first | rfl | (simp [errW_none, errW_some] <;> rfl)) | (simp [*, errW_none, errW_some] <;> rfl), by repeat (first | (with_reducible first | exact HB.out | apply bA | apply bN | apply bD | refine bS ?_ GE178.out) | exact HB.out)⟩
              ·rw [if_neg c28] at H
               have c28b0 : decide (((rd_T67 l0_3 x3_2).f0) < ((rd_T67 l0_3 (ji25)).f0)) = false := decide_eq_false c28
               clear c28
               by_cases c30 : ((rd_T67 l0_3 (ji25)).f0) = ((rd_T67 l0_3 x3_2).f0)
               ·rw [if_pos c30] at H
                have c30b0 : (((rd_T67 l0_3 (ji25)).f0) == ((rd_T67 l0_3 x3_2).f0)) = true := beq_iff_eq.mpr c30
                have c30b1 : (((rd_T67 l0_3 (ji25)).f0) != ((rd_T67 l0_3 x3_2).f0)) = false := bne_eq_false_iff_eq.mpr c30
                clear c30
                by_cases c31 : ((rd_T67 l0_3 (ji25)).f1) ≥ ((rd_T67 l0_3 x3_2).f1)
                ·rw [if_pos c31] at H
                 have c31b0 : decide (((rd_T67 l0_3 x3_2).f1) ≤ ((rd_T67 l0_3 (ji25)).f1)) = true := decide_eq_true c31
                 clear c31
                 obtain rfl := Option.some.inj H
                 have p182 : 0 ≤ (0 : Int) := (by omega)
                 have q182 : 0 < ([(⟨a0_0, a0_1, l0_2, l0_3⟩ : S30)].length : Int) := (by simp)
                 obtain ⟨ad182, A182_2, c182_2, A182_3, c182_3, e182, hx182_0, hx182_1, hx182_2, hx182_3, hl182_2, hi182_2, hl182_3, hi182_3⟩ := at_T30 HRp0.out 0 p182 q182
                 replace hx182_0 : _ = (some (.int .i64 a0_0) : Option Value) := hx182_0
                 replace hx182_1 : _ = (some (.int .i64 a0_1) : Option Value) := hx182_1
                 replace hx182_2 : _ = (some (.slice A182_2 l0_2.length c182_2) : Option Value) := hx182_2
                 replace hi182_2 : Kd.C (Kd.int .i64) _ _ l0_2.length l0_2 := hi182_2
                 replace hl182_2 : l0_2.length ≤ _ := hl182_2
                 replace hx182_3 : _ = (some (.slice A182_3 l0_3.length c182_3) : Option Value) := hx182_3
                 replace hi182_3 : Kd.C k67 _ _ l0_3.length l0_3 := hi182_3
                 replace hl182_3 : l0_3.length ≤ _ := hl182_3
                 obtain rfl : adp0 = ad182 := (by injection e182)
                 have qi182 : (0 < [(⟨a0_0, a0_1, l0_2, l0_3⟩ : S30)].length) = True := eq_true (by simp)
                 (try rw [t00] at hx182_0)
                 (try rw [Nat.zero_mul] at hx182_0)
                 (try rw [Addr.add_zero'] at hx182_0)
                 (try rw [t00] at hx182_1)
                 (try rw [Nat.zero_mul] at hx182_1)
                 (try rw [Addr.add_zero'] at hx182_1)
                 (try rw [t00] at hx182_2)
                 (try rw [Nat.zero_mul] at hx182_2)
                 (try rw [Addr.add_zero'] at hx182_2)
                 (try rw [t00] at hx182_3)
                 (try rw [Nat.zero_mul] at hx182_3)
                 (try rw [Addr.add_zero'] at hx182_3)
                 replace hx182_0 := (HB.out.cell (World.block_lt_of_cell? w _ hx182_0)).trans hx182_0
                 replace hx182_1 := (HB.out.cell (World.block_lt_of_cell? w _ hx182_1)).trans hx182_1
                 replace hx182_2 := (HB.out.cell (World.block_lt_of_cell? w _ hx182_2)).trans hx182_2
                 replace hx182_3 := (HB.out.cell (World.block_lt_of_cell? w _ hx182_3)).trans hx182_3
                 have HR182_2 := Aside0.mk hi182_2
                 have HC182_2 := Aside0.mk hl182_2
                 clear hi182_2 hl182_2
                 have HR182_3 := Aside0.mk hi182_3
                 have HC182_3 := Aside0.mk hl182_3
                 clear hi182_3 hl182_3
                 replace p182 := eq_true p182
                 replace q182 := eq_true q182
                 have p183 : 0 ≤ ((ji25) : Int) := oT
                 have q183 : (ji25) < (l0_3.length : Int) := oT
                 obtain ⟨ad183, e183, hx183_0, hx183_1, hx183_2⟩ := at_T67 HR182_3.out (ji25) p183 q183
                 cases e183
                 replace hx183_0 := (HB.out.cell (World.block_lt_of_cell? w _ hx183_0)).trans hx183_0
                 replace hx183_1 := (HB.out.cell (World.block_lt_of_cell? w _ hx183_1)).trans hx183_1
                 replace hx183_2 := (HB.out.cell (World.block_lt_of_cell? w _ hx183_2)).trans hx183_2
                 replace p183 := eq_true p183
                 replace q183 := eq_true q183
                 have hcz32_0 : wc.cell? ⟨gb178, 0, none⟩ = some (.int .i64 ((rd_T67 l0_3 x3_2).f0)) := (kC BK178.out 0).trans rfl
                 have hcz32_1 : wc.cell? ⟨gb178, 1, none⟩ = some (.int .i64 ((rd_T67 l0_3 x3_2).f1)) := (kC BK178.out 1).trans rfl
                 have hcz32_2 : wc.cell? ⟨gb178, 2, none⟩ = some (.int .i64 ((rd_T67 l0_3 x3_2).f2)) := (kC BK178.out 2).trans rfl
                 obtain ⟨hfz32_0, hfz32_1, hfz32_2⟩ := fZ3 BK178.out
                 have p184 : 0 ≤ ((ji25) : Int) := oT
                 have q184 : (ji25) < (l0_3.length : Int) := oT
                 obtain ⟨ad184, e184, hx184_0, hx184_1, hx184_2⟩ := at_T67 HR182_3.out (ji25) p184 q184
                 obtain rfl : ad183 = ad184 := (by injection e184)
                 replace hx184_0 := (HB.out.cell (World.block_lt_of_cell? w _ hx184_0)).trans hx184_0
                 replace hx184_1 := (HB.out.cell (World.block_lt_of_cell? w _ hx184_1)).trans hx184_1
                 replace hx184_2 := (HB.out.cell (World.block_lt_of_cell? w _ hx184_2)).trans hx184_2
                 replace p184 := eq_true p184
                 replace q184 := eq_true q184
                 have p185 : 0 ≤ ((ji25) : Int) := oT
                 have q185 : (ji25) < (l0_3.length : Int) := oT
                 obtain ⟨ad185, e185, hx185_0, hx185_1, hx185_2⟩ := at_T67 HR182_3.out (ji25) p185 q185
                 obtain rfl : ad183 = ad185 := (by injection e185)
                 replace hx185_0 := (HB.out.cell (World.block_lt_of_cell? w _ hx185_0)).trans hx185_0
                 replace hx185_1 := (HB.out.cell (World.block_lt_of_cell? w _ hx185_1)).trans hx185_1
                 replace hx185_2 := (HB.out.cell (World.block_lt_of_cell? w _ hx185_2)).trans hx185_2
                 replace p185 := eq_true p185
                 replace q185 := eq_true q185
                 go_wp2
                 repeat (go_quiet (fail); try go_wp2)
                 go_ret
                 exact ⟨by first | rfl | (simp [errW_none, errW_some] <;> rfl) | (simp only [← hji25]; first | rfl | (simp [errW_none, errW_some] <;> rfl)) | (simp [*, errW_none, errW_some] <;> rfl), by repeat (first | (with_reducible first | exact HB.out | apply bA | apply bN | apply bD | refine bS ?_ GE178.out) | exact HB.out)⟩
                ·rw [if_neg c31] at H
                 have c31b0 : decide (((rd_T67 l0_3 x3_2).f1) ≤ ((rd_T67 l0_3 (ji25)).f1)) = false := decide_eq_false c31
                 clear c31
                 have H' := Aside0.mk H
                 clear H
                 have p182 : 0 ≤ (0 : Int) := (by omega)
                 have q182 : 0 < ([(⟨a0_0, a0_1, l0_2, l0_3⟩ : S30)].length : Int) := (by simp)
                 obtain ⟨ad182, A182_2, c182_2, A182_3, c182_3, e182, hx182_0, hx182_1, hx182_2, hx182_3, hl182_2, hi182_2, hl182_3, hi182_3⟩ := at_T30 HRp0.out 0 p182 q182
                 replace hx182_0 : _ = (some (.int .i64 a0_0) : Option Value) := hx182_0
                 replace hx182_1 : _ = (some (.int .i64 a0_1) : Option Value) := hx182_1
                 replace hx182_2 : _ = (some (.slice A182_2 l0_2.length c182_2) : Option Value) := hx182_2
                 replace hi182_2 : Kd.C (Kd.int .i64) _ _ l0_2.length l0_2 := hi182_2
                 replace hl182_2 : l0_2.length ≤ _ := hl182_2
                 replace hx182_3 : _ = (some (.slice A182_3 l0_3.length c182_3) : Option Value) := hx182_3
                 replace hi182_3 : Kd.C k67 _ _ l0_3.length l0_3 := hi182_3
                 replace hl182_3 : l0_3.length ≤ _ := hl182_3
                 obtain rfl : adp0 = ad182 := (by injection e182)
                 have qi182 : (0 < [(⟨a0_0, a0_1, l0_2, l0_3⟩ : S30)].length) = True := eq_true (by simp)
                 (try rw [t00] at hx182_0)
                 (try rw [Nat.zero_mul] at hx182_0)
                 (try rw [Addr.add_zero'] at hx182_0)
                 (try rw [t00] at hx182_1)
                 (try rw [Nat.zero_mul] at hx182_1)
                 (try rw [Addr.add_zero'] at hx182_1)
                 (try rw [t00] at hx182_2)
                 (try rw [Nat.zero_mul] at hx182_2)
                 (try rw [Addr.add_zero'] at hx182_2)
                 (try rw [t00] at hx182_3)
                 (try rw [Nat.zero_mul] at hx182_3)
                 (try rw [Addr.add_zero'] at hx182_3)
                 replace hx182_0 := (HB.out.cell (World.block_lt_of_cell? w _ hx182_0)).trans hx182_0
                 replace hx182_1 := (HB.out.cell (World.block_lt_of_cell? w _ hx182_1)).trans hx182_1
                 replace hx182_2 := (HB.out.cell (World.block_lt_of_cell? w _ hx182_2)).trans hx182_2
                 replace hx182_3 := (HB.out.cell (World.block_lt_of_cell? w _ hx182_3)).trans hx182_3
                 have HR182_2 := Aside0.mk hi182_2
                 have HC182_2 := Aside0.mk hl182_2
                 clear hi182_2 hl182_2
                 have HR182_3 := Aside0.mk hi182_3
                 have HC182_3 := Aside0.mk hl182_3
                 clear hi182_3 hl182_3
                 replace p182 := eq_true p182
                 replace q182 := eq_true q182
                 have p183 : 0 ≤ ((ji25) : Int) := oT
                 have q183 : (ji25) < (l0_3.length : Int) := oT
                 obtain ⟨ad183, e183, hx183_0, hx183_1, hx183_2⟩ := at_T67 HR182_3.out (ji25) p183 q183
                 cases e183
                 replace hx183_0 := (HB.out.cell (World.block_lt_of_cell? w _ hx183_0)).trans hx183_0
                 replace hx183_1 := (HB.out.cell (World.block_lt_of_cell? w _ hx183_1)).trans hx183_1
                 replace hx183_2 := (HB.out.cell (World.block_lt_of_cell? w _ hx183_2)).trans hx183_2
                 replace p183 := eq_true p183
                 replace q183 := eq_true q183
                 have hcz33_0 : wc.cell? ⟨gb178, 0, none⟩ = some (.int .i64 ((rd_T67 l0_3 x3_2).f0)) := (kC BK178.out 0).trans rfl
                 have hcz33_1 : wc.cell? ⟨gb178, 1, none⟩ = some (.int .i64 ((rd_T67 l0_3 x3_2).f1)) := (kC BK178.out 1).trans rfl
                 have hcz33_2 : wc.cell? ⟨gb178, 2, none⟩ = some (.int .i64 ((rd_T67 l0_3 x3_2).f2)) := (kC BK178.out 2).trans rfl
                 obtain ⟨hfz33_0, hfz33_1, hfz33_2⟩ := fZ3 BK178.out
                 have p184 : 0 ≤ ((ji25) : Int) := oT
                 have q184 : (ji25) < (l0_3.length : Int) := oT
                 obtain ⟨ad184, e184, hx184_0, hx184_1, hx184_2⟩ := at_T67 HR182_3.out (ji25) p184 q184
                 obtain rfl : ad183 = ad184 := (by injection e184)
                 replace hx184_0 := (HB.out.cell (World.block_lt_of_cell? w _ hx184_0)).trans hx184_0
                 replace hx184_1 := (HB.out.cell (World.block_lt_of_cell? w _ hx184_1)).trans hx184_1
                 replace hx184_2 := (HB.out.cell (World.block_lt_of_cell? w _ hx184_2)).trans hx184_2
                 replace p184 := eq_true p184
                 replace q184 := eq_true q184
                 have p185 : 0 ≤ ((ji25) : Int) := oT
                 have q185 : (ji25) < (l0_3.length : Int) := oT
                 obtain ⟨ad185, e185, hx185_0, hx185_1, hx185_2⟩ := at_T67 HR182_3.out (ji25) p185 q185
                 obtain rfl : ad183 = ad185 := (by injection e185)
                 replace hx185_0 := (HB.out.cell (World.block_lt_of_cell? w _ hx185_0)).trans hx185_0
                 replace hx185_1 := (HB.out.cell (World.block_lt_of_cell? w _ hx185_1)).trans hx185_1
                 replace hx185_2 := (HB.out.cell (World.block_lt_of_cell? w _ hx185_2)).trans hx185_2
                 replace p185 := eq_true p185
                 replace q185 := eq_true q185
                 go_wp2
                 repeat (go_quiet (fail); try go_wp2)
                 go_roundg kj11
                 case measure => have := HJ1.out; have := HK2.out; have := HJ11.out; omega
                 case rel => exact ⟨(wrap64 (x3_2 + 1)), eT, H', ⟨by have := HJ1.out; have := HK2.out; have := HJ11.out; omega⟩, ⟨by repeat (first | (with_reducible first | exact HB.out | apply bA | apply bN | apply bD | refine bS ?_ GE178.out) | exact HB.out)⟩⟩
               ·rw [if_neg c30] at H
                have c30b0 : (((rd_T67 l0_3 (ji25)).f0) == ((rd_T67 l0_3 x3_2).f0)) = false := beq_eq_false_iff_ne.mpr c30
                have c30b1 : (((rd_T67 l0_3 (ji25)).f0) != ((rd_T67 l0_3 x3_2).f0)) = true := bne_iff_ne.mpr c30
                have H' := Aside0.mk H
                clear H
                have p182 : 0 ≤ (0 : Int) := (by omega)
                have q182 : 0 < ([(⟨a0_0, a0_1, l0_2, l0_3⟩ : S30)].length : Int) := (by simp)
                obtain ⟨ad182, A182_2, c182_2, A182_3, c182_3, e182, hx182_0, hx182_1, hx182_2, hx182_3, hl182_2, hi182_2, hl182_3, hi182_3⟩ := at_T30 HRp0.out 0 p182 q182
                replace hx182_0 : _ = (some (.int .i64 a0_0) : Option Value) := hx182_0
                replace hx182_1 : _ = (some (.int .i64 a0_1) : Option Value) := hx182_1
                replace hx182_2 : _ = (some (.slice A182_2 l0_2.length c182_2) : Option Value) := hx182_2
                replace hi182_2 : Kd.C (Kd.int .i64) _ _ l0_2.length l0_2 := hi182_2
                replace hl182_2 : l0_2.length ≤ _ := hl182_2
                replace hx182_3 : _ = (some (.slice A182_3 l0_3.length c182_3) : Option Value) := hx182_3
                replace hi182_3 : Kd.C k67 _ _ l0_3.length l0_3 := hi182_3
                replace hl182_3 : l0_3.length ≤ _ := hl182_3
                obtain rfl : adp0 = ad182 := (by injection e182)
                have qi182 : (0 < [(⟨a0_0, a0_1, l0_2, l0_3⟩ : S30)].length) = True := eq_true (by simp)
                (try rw [t00] at hx182_0)
                (try rw [Nat.zero_mul] at hx182_0)
                (try rw [Addr.add_zero'] at hx182_0)
                (try rw [t00] at hx182_1)
                (try rw [Nat.zero_mul] at hx182_1)
                (try rw [Addr.add_zero'] at hx182_1)
                (try rw [t00] at hx182_2)
                (try rw [Nat.zero_mul] at hx182_2)
                (try rw [Addr.add_zero'] at hx182_2)
                (try rw [t00] at hx182_3)
                (try rw [Nat.zero_mul] at hx182_3)
                (try rw [Addr.add_zero'] at hx182_3)
                replace hx182_0 := (HB.out.cell (World.block_lt_of_cell? w _ hx182_0)).trans hx182_0
                replace hx182_1 := (HB.out.cell (World.block_lt_of_cell? w _ hx182_1)).trans hx182_1
                replace hx182_2 := (HB.out.cell (World.block_lt_of_cell? w _ hx182_2)).trans hx182_2
                replace hx182_3 := (HB.out.cell (World.block_lt_of_cell? w _ hx182_3)).trans hx182_3
                have HR182_2 := Aside0.mk hi182_2
                have HC182_2 := Aside0.mk hl182_2
                clear hi182_2 hl182_2
                have HR182_3 := Aside0.mk hi182_3
                have HC182_3 := Aside0.mk hl182_3
                clear hi182_3 hl182_3
                replace p182 := eq_true p182
                replace q182 := eq_true q182
                have p183 : 0 ≤ ((ji25) : Int) := oT
                have q183 : (ji25) < (l0_3.length : Int) := oT
                obtain ⟨ad183, e183, hx183_0, hx183_1, hx183_2⟩ := at_T67 HR182_3.out (ji25) p183 q183
                cases e183
                replace hx183_0 := (HB.out.cell (World.block_lt_of_cell? w _ hx183_0)).trans hx183_0
                replace hx183_1 := (HB.out.cell (World.block_lt_of_cell? w _ hx183_1)).trans hx183_1
                replace hx183_2 := (HB.out.cell (World.block_lt_of_cell? w _ hx183_2)).trans hx183_2
                replace p183 := eq_true p183
                replace q183 := eq_true q183
                have hcz34_0 : wc.cell? ⟨gb178, 0, none⟩ = some (.int .i64 ((rd_T67 l0_3 x3_2).f0)) := (kC BK178.out 0).trans rfl
                have hcz34_1 : wc.cell? ⟨gb178, 1, none⟩ = some (.int .i64 ((rd_T67 l0_3 x3_2).f1)) := (kC BK178.out 1).trans rfl
                have hcz34_2 : wc.cell? ⟨gb178, 2, none⟩ = some (.int .i64 ((rd_T67 l0_3 x3_2).f2)) := (kC BK178.out 2).trans rfl
                obtain ⟨hfz34_0, hfz34_1, hfz34_2⟩ := fZ3 BK178.out
                have p184 : 0 ≤ ((ji25) : Int) := oT
                have q184 : (ji25) < (l0_3.length : Int) := oT
                obtain ⟨ad184, e184, hx184_0, hx184_1, hx184_2⟩ := at_T67 HR182_3.out (ji25) p184 q184
                obtain rfl : ad183 = ad184 := (by injection e184)
                replace hx184_0 := (HB.out.cell (World.block_lt_of_cell? w _ hx184_0)).trans hx184_0
                replace hx184_1 := (HB.out.cell (World.block_lt_of_cell? w _ hx184_1)).trans hx184_1
                replace hx184_2 := (HB.out.cell (World.block_lt_of_cell? w _ hx184_2)).trans hx184_2
                replace p184 := eq_true p184
                replace q184 := eq_true q184
                go_wp2
                repeat (go_quiet (fail); try go_wp2)
                go_roundg kj11
                case measure => have := HJ1.out; have := HK2.out; have := HJ11.out; omega
                case rel => exact ⟨(wrap64 (x3_2 + 1)), eT, H', ⟨by have := HJ1.out; have := HK2.out; have := HJ11.out; omega⟩, ⟨by repeat (first | (with_reducible first | exact HB.out | apply bA | apply bN | apply bD | refine bS ?_ GE178.out) | exact HB.out)⟩⟩
             ·rw [if_neg c27] at H
              exact absurd H (by simp)
            ·rw [if_neg c26] at H
             exact absurd H (by simp)
           ·rw [if_neg c24] at H
            have c24b0 : decide (0 < x3_2) = false := decide_eq_false c24
            clear c24
            have H' := Aside0.mk H
            clear H
            go_wp2
            repeat (go_quiet (fail); try go_wp2)
            go_roundg kj11
            case measure => have := HJ1.out; have := HK2.out; have := HJ11.out; omega
            case rel => exact ⟨(wrap64 (x3_2 + 1)), eT, H', ⟨by have := HJ1.out; have := HK2.out; have := HJ11.out; omega⟩, ⟨by repeat (first | (with_reducible first | exact HB.out | apply bA | apply bN | apply bD | refine bS ?_ GE178.out) | exact HB.out)⟩⟩
       ·rw [if_neg c11] at H
        exact absurd H (by simp)
      ·rw [if_neg c10] at H
       have c10b0 : decide (x3_2 < (l0_3.length : Int)) = false := decide_eq_false c10
       clear c10
       obtain rfl := Option.some.inj H
       have p176 : 0 ≤ (0 : Int) := (by omega)
       have q176 : 0 < ([(⟨a0_0, a0_1, l0_2, l0_3⟩ : S30)].length : Int) := (by simp)
       obtain ⟨ad176, A176_2, c176_2, A176_3, c176_3, e176, hx176_0, hx176_1, hx176_2, hx176_3, hl176_2, hi176_2, hl176_3, hi176_3⟩ := at_T30 HRp0.out 0 p176 q176
       replace hx176_0 : _ = (some (.int .i64 a0_0) : Option Value) := hx176_0
       replace hx176_1 : _ = (some (.int .i64 a0_1) : Option Value) := hx176_1
       replace hx176_2 : _ = (some (.slice A176_2 l0_2.length c176_2) : Option Value) := hx176_2
       replace hi176_2 : Kd.C (Kd.int .i64) _ _ l0_2.length l0_2 := hi176_2
       replace hl176_2 : l0_2.length ≤ _ := hl176_2
       replace hx176_3 : _ = (some (.slice A176_3 l0_3.length c176_3) : Option Value) := hx176_3
       replace hi176_3 : Kd.C k67 _ _ l0_3.length l0_3 := hi176_3
       replace hl176_3 : l0_3.length ≤ _ := hl176_3
       obtain rfl : adp0 = ad176 := (by injection e176)
       have qi176 : (0 < [(⟨a0_0, a0_1, l0_2, l0_3⟩ : S30)].length) = True := eq_true (by simp)
       (try rw [t00] at hx176_0)
       (try rw [Nat.zero_mul] at hx176_0)
       (try rw [Addr.add_zero'] at hx176_0)
       (try rw [t00] at hx176_1)
       (try rw [Nat.zero_mul] at hx176_1)
       (try rw [Addr.add_zero'] at hx176_1)
       (try rw [t00] at hx176_2)
       (try rw [Nat.zero_mul] at hx176_2)
       (try rw [Addr.add_zero'] at hx176_2)
       (try rw [t00] at hx176_3)
       (try rw [Nat.zero_mul] at hx176_3)
       (try rw [Addr.add_zero'] at hx176_3)
       replace hx176_0 := (HB.out.cell (World.block_lt_of_cell? w _ hx176_0)).trans hx176_0
       replace hx176_1 := (HB.out.cell (World.block_lt_of_cell? w _ hx176_1)).trans hx176_1
       replace hx176_2 := (HB.out.cell (World.block_lt_of_cell? w _ hx176_2)).trans hx176_2
       replace hx176_3 := (HB.out.cell (World.block_lt_of_cell? w _ hx176_3)).trans hx176_3
       have HR176_2 := Aside0.mk hi176_2
       have HC176_2 := Aside0.mk hl176_2
       clear hi176_2 hl176_2
       have HR176_3 := Aside0.mk hi176_3
       have HC176_3 := Aside0.mk hl176_3
       clear hi176_3 hl176_3
       replace p176 := eq_true p176
       replace q176 := eq_true q176
       go_wp2
       repeat (go_quiet (fail); try go_wp2)
       go_ret
       exact ⟨by first | rfl | (simp [errW_none, errW_some] <;> rfl) | (simp [*, errW_none, errW_some] <;> rfl), hQ HB⟩

end Go.Proofs.Ytijbhcalknfijaa.M7
-- shrunk
-- tight
-- tight2
-- tight3
