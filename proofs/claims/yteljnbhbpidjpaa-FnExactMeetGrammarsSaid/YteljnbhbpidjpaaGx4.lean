/- What functions of the given program compute, as plain Lean functions, and that the code comes to just that; by a program of this session over the kit's print. No condition. -/
import Derived.Test.YteljnbhbpidjpaaTight
import Derived.Test.YteljnbhbpidjpaaGx0
import Derived.Test.YteljnbhbpidjpaaGx1
namespace Go.Proofs.Yteljnbhbpidjpaa.G
open Go.RowKit Go.Proofs.YteljnbhbpidjpaaW.PrintWords Go.Proofs.YteljnbhbpidjpaaW.PrintLast Go.Proofs.YteljnbhbpidjpaaW.PrintMore
open Go.Proofs.YteljnbhbpidjpaaW.PrintWords renaming below_alloc → bA, pw_below_drewN → bN, below_drew1 → bD, below_set → bS, blk_drewN → kN, blk_drew → kD, blk_alloc → kA, below_size → bZ, below_step → bP, box_event → bE, blk_cell → kC
open Go.Proofs.YteljnbhbpidjpaaW.PrintLast renaming i64_w → iW
open Go.Proofs.YteljnbhbpidjpaaW.PrintWords.Kd renaming C_alloc → cA, C_drewN → cN, C_drew → cD, C_below → cB
open List renaming setIfInBounds_toArray → sI, set_cons_zero → sZ, set_cons_succ → sS
attribute [local go_sem] max2_int min2_int max_two min_two max_three min_three max_four min_four   -- for this text's walks alone
set_option linter.unusedVariables false
set_option linter.unusedSimpArgs false

/-! ### spec_l07Ok: function 36 -/
mutual
def spec_l07Ok.j0 : Nat → Bool → Int → Int → List Int → List (S68) → Option (Bool)
 | 0, _, _, _, _, _ => none
 | k + 1, x44, x1000, x1001, x1002, x1003 => if x44 = true then (some false) else (spec_l07Ok.l0 k 0 x1000 x1001 x1002 x1003)
def spec_l07Ok.l0 : Nat → Int → Int → Int → List Int → List (S68) → Option (Bool)
 | 0, _, _, _, _, _ => none
 | k + 1, x3, x1000, x1001, x1002, x1003 => if x3 < (x1003.length : Int) then (if 0 ≤ x3 then ((spec_l00In.f ((rd_T68 x1003 x3).f0) 0 (wrap64 (x1000 - 1))).bind fun t116 => (if t116 = true then ((spec_l03Pitch.f ((rd_T68 x1003 x3).f1)).bind fun t117 => (if t117 = true then ((spec_l00In.f ((rd_T68 x1003 x3).f2) 0 (wrap64 (x1000 - 1))).bind fun t118 => (spec_l07Ok.j2 k x3 (!t118) x1000 x1001 x1002 x1003 ((rd_T68 x1003 x3).f0) ((rd_T68 x1003 x3).f1) ((rd_T68 x1003 x3).f2))) else (spec_l07Ok.j2 k x3 true x1000 x1001 x1002 x1003 ((rd_T68 x1003 x3).f0) ((rd_T68 x1003 x3).f1) ((rd_T68 x1003 x3).f2)))) else (spec_l07Ok.j2 k x3 true x1000 x1001 x1002 x1003 ((rd_T68 x1003 x3).f0) ((rd_T68 x1003 x3).f1) ((rd_T68 x1003 x3).f2)))) else (none)) else (some true)
def spec_l07Ok.j2 : Nat → Int → Bool → Int → Int → List Int → List (S68) → Int → Int → Int → Option (Bool)
 | 0, _, _, _, _, _, _, _, _, _ => none
 | k + 1, x3, x86, x1000, x1001, x1002, x1003, x116000, x116001, x116002 => if x86 = true then (some false) else (if x3 > 0 then (if 0 ≤ (wrap64 (x3 - 1)) then (if (wrap64 (x3 - 1)) < (x1003.length : Int) then (if ((rd_T68 x1003 (wrap64 (x3 - 1))).f0) > x116000 then (some false) else (if ((rd_T68 x1003 (wrap64 (x3 - 1))).f0) = x116000 then (if ((rd_T68 x1003 (wrap64 (x3 - 1))).f1) ≥ x116001 then (some false) else (spec_l07Ok.l0 k (wrap64 (x3 + 1)) x1000 x1001 x1002 x1003)) else (spec_l07Ok.l0 k (wrap64 (x3 + 1)) x1000 x1001 x1002 x1003))) else (none)) else (none)) else (spec_l07Ok.l0 k (wrap64 (x3 + 1)) x1000 x1001 x1002 x1003))
end
def spec_l07Ok.f (k : Nat) (a0_0 : Int) (a0_1 : Int) (l0_2 : List Int) (l0_3 : List (S68)) : Option (Bool) := (spec_l00In.f a0_0 1 32).bind fun t110 => (if t110 = true then ((spec_l00In.f a0_1 0 (wrap64 (a0_0 - 1))).bind fun t111 => (if t111 = true then ((spec_l00Rises.f k l0_2 0 (wrap64 (a0_0 - 1))).bind fun t112 => (if t112 = true then (spec_l07Ok.j0 k (decide ((l0_3.length : Int) > 256)) a0_0 a0_1 l0_2 l0_3) else (spec_l07Ok.j0 k true a0_0 a0_1 l0_2 l0_3))) else (spec_l07Ok.j0 k true a0_0 a0_1 l0_2 l0_3))) else (spec_l07Ok.j0 k true a0_0 a0_1 l0_2 l0_3))
theorem spec_l07Ok.mono_l : ∀ k, (∀ y0 y1 y2 y3 y4, LeO (spec_l07Ok.j0 k y0 y1 y2 y3 y4) (spec_l07Ok.j0 (k + 1) y0 y1 y2 y3 y4)) ∧ (∀ y0 y1 y2 y3 y4, LeO (spec_l07Ok.l0 k y0 y1 y2 y3 y4) (spec_l07Ok.l0 (k + 1) y0 y1 y2 y3 y4)) ∧ (∀ y0 y1 y2 y3 y4 y5 y6 y7 y8, LeO (spec_l07Ok.j2 k y0 y1 y2 y3 y4 y5 y6 y7 y8) (spec_l07Ok.j2 (k + 1) y0 y1 y2 y3 y4 y5 y6 y7 y8))
 | 0 => ⟨fun _ _ _ _ _ r h => by simp [spec_l07Ok.j0] at h, fun _ _ _ _ _ r h => by simp [spec_l07Ok.l0] at h, fun _ _ _ _ _ _ _ _ _ r h => by simp [spec_l07Ok.j2] at h⟩
 | k + 1 => by
  obtain ⟨ih0, ih1, ih2⟩ := spec_l07Ok.mono_l k
  refine ⟨?_, ?_, ?_⟩
  ·intro y0 y1 y2 y3 y4
   unfold spec_l07Ok.j0
   repeat' first
   | (with_reducible exact ih0 _ _ _ _ _)
   | (with_reducible exact ih1 _ _ _ _ _)
   | (with_reducible exact ih2 _ _ _ _ _ _ _ _ _)
   | (with_reducible exact spec_l00Rises.mono _ _ _ _)
   | (with_reducible exact LeO.refl _)
   | (with_reducible exact LeO.none _)
   | (with_reducible refine LeO.ite ?_ ?_)
   | (with_reducible refine LeO.bind ?_ (fun _ => ?_))
   | exact ih0 _ _ _ _ _
   | exact ih1 _ _ _ _ _
   | exact ih2 _ _ _ _ _ _ _ _ _
   | exact spec_l00Rises.mono _ _ _ _
   | exact LeO.none _
   | refine LeO.ite ?_ ?_
   | refine LeO.bind ?_ (fun _ => ?_)
  ·intro y0 y1 y2 y3 y4
   unfold spec_l07Ok.l0
   repeat' first
   | (with_reducible exact ih0 _ _ _ _ _)
   | (with_reducible exact ih1 _ _ _ _ _)
   | (with_reducible exact ih2 _ _ _ _ _ _ _ _ _)
   | (with_reducible exact spec_l00Rises.mono _ _ _ _)
   | (with_reducible exact LeO.refl _)
   | (with_reducible exact LeO.none _)
   | (with_reducible refine LeO.ite ?_ ?_)
   | (with_reducible refine LeO.bind ?_ (fun _ => ?_))
   | exact ih0 _ _ _ _ _
   | exact ih1 _ _ _ _ _
   | exact ih2 _ _ _ _ _ _ _ _ _
   | exact spec_l00Rises.mono _ _ _ _
   | exact LeO.none _
   | refine LeO.ite ?_ ?_
   | refine LeO.bind ?_ (fun _ => ?_)
  ·intro y0 y1 y2 y3 y4 y5 y6 y7 y8
   unfold spec_l07Ok.j2
   repeat' first
   | (with_reducible exact ih0 _ _ _ _ _)
   | (with_reducible exact ih1 _ _ _ _ _)
   | (with_reducible exact ih2 _ _ _ _ _ _ _ _ _)
   | (with_reducible exact spec_l00Rises.mono _ _ _ _)
   | (with_reducible exact LeO.refl _)
   | (with_reducible exact LeO.none _)
   | (with_reducible refine LeO.ite ?_ ?_)
   | (with_reducible refine LeO.bind ?_ (fun _ => ?_))
   | exact ih0 _ _ _ _ _
   | exact ih1 _ _ _ _ _
   | exact ih2 _ _ _ _ _ _ _ _ _
   | exact spec_l00Rises.mono _ _ _ _
   | exact LeO.none _
   | refine LeO.ite ?_ ?_
   | refine LeO.bind ?_ (fun _ => ?_)
theorem spec_l07Ok.mono : ∀ a0 a1 a2 a3 k, LeO (spec_l07Ok.f k a0 a1 a2 a3) (spec_l07Ok.f (k + 1) a0 a1 a2 a3) := by
 intro a0 a1 a2 a3 k
 obtain ⟨ih0, ih1, ih2⟩ := spec_l07Ok.mono_l k
 unfold spec_l07Ok.f
 repeat' first
   | (with_reducible exact ih0 _ _ _ _ _)
   | (with_reducible exact ih1 _ _ _ _ _)
   | (with_reducible exact ih2 _ _ _ _ _ _ _ _ _)
   | (with_reducible exact spec_l00Rises.mono _ _ _ _)
   | (with_reducible exact LeO.refl _)
   | (with_reducible exact LeO.none _)
   | (with_reducible refine LeO.ite ?_ ?_)
   | (with_reducible refine LeO.bind ?_ (fun _ => ?_))
   | exact ih0 _ _ _ _ _
   | exact ih1 _ _ _ _ _
   | exact ih2 _ _ _ _ _ _ _ _ _
   | exact spec_l00Rises.mono _ _ _ _
   | exact LeO.none _
   | refine LeO.ite ?_ ?_
   | refine LeO.bind ?_ (fun _ => ?_)
set_option maxHeartbeats 8000000 in
set_option maxRecDepth 100000 in
theorem spec_l07Ok.calls (k : Nat) (adp0 : Addr) (a0_0 : Int) (a0_1 : Int) (l0_2 : List Int) (l0_3 : List (S68)) (r : Bool) (w : World) (hp0 : Kd.C k39 w (some adp0) 1 [(⟨a0_0, a0_1, l0_2, l0_3⟩ : S39)]) (h : spec_l07Ok.f k a0_0 a0_1 l0_2 l0_3 = some r) :
  Calls Try.prog 36 #[.pointer (some adp0)] w fun e w' => e = .returned (.bool r) ∧ Below w.heap.size w w' := by
 have hu68 := Try.underlying68
 have HRp0 := Aside0.mk hp0
 clear hp0
 have HB := Aside0.mk (Below.refl w.heap.size w)
 have H : ((spec_l00In.f a0_0 1 32).bind fun t110 => (if t110 = true then ((spec_l00In.f a0_1 0 (wrap64 (a0_0 - 1))).bind fun t111 => (if t111 = true then ((spec_l00Rises.f k l0_2 0 (wrap64 (a0_0 - 1))).bind fun t112 => (if t112 = true then (spec_l07Ok.j0 k (decide ((l0_3.length : Int) > 256)) a0_0 a0_1 l0_2 l0_3) else (spec_l07Ok.j0 k true a0_0 a0_1 l0_2 l0_3))) else (spec_l07Ok.j0 k true a0_0 a0_1 l0_2 l0_3))) else (spec_l07Ok.j0 k true a0_0 a0_1 l0_2 l0_3))) = some r := h
 clear h
 have HC2 := Aside0.mk H
 clear H
 go_enter Try.func36, Try.ntmps36
 go_upto_region 1 with (fail)
 repeat (go_quiet (fail); go_upto_region 1 with (fail))
 go_cut [44] (fun v44 wc => ∃ (kq : Nat) (x44_1 : Bool), v44 = .bool x44_1 ∧ Aside0 (spec_l07Ok.j0 kq x44_1 a0_0 a0_1 l0_2 l0_3 = some r) ∧ Aside0 (kq ≤ k) ∧ Aside0 (Below w.heap.size w wc))
 case first =>
  have H := HC2.out
  clear HC2
  replace H := Option.bind_eq_some_iff.mp H
  obtain ⟨t110, A30, H⟩ := H
  replace H : (if t110 = true then ((spec_l00In.f a0_1 0 (wrap64 (a0_0 - 1))).bind fun t111 => (if t111 = true then ((spec_l00Rises.f k l0_2 0 (wrap64 (a0_0 - 1))).bind fun t112 => (if t112 = true then (spec_l07Ok.j0 k (decide ((l0_3.length : Int) > 256)) a0_0 a0_1 l0_2 l0_3) else (spec_l07Ok.j0 k true a0_0 a0_1 l0_2 l0_3))) else (spec_l07Ok.j0 k true a0_0 a0_1 l0_2 l0_3))) else (spec_l07Ok.j0 k true a0_0 a0_1 l0_2 l0_3)) = some r := H
  have A3 := Aside0.mk A30
  clear A30
  by_cases c4 : t110 = true
  ·subst c4
   have H1 : ((spec_l00In.f a0_1 0 (wrap64 (a0_0 - 1))).bind fun t111 => (if t111 = true then ((spec_l00Rises.f k l0_2 0 (wrap64 (a0_0 - 1))).bind fun t112 => (if t112 = true then (spec_l07Ok.j0 k (decide ((l0_3.length : Int) > 256)) a0_0 a0_1 l0_2 l0_3) else (spec_l07Ok.j0 k true a0_0 a0_1 l0_2 l0_3))) else (spec_l07Ok.j0 k true a0_0 a0_1 l0_2 l0_3))) = some r := by rw [if_pos rfl] at H; exact H
   clear H
   have H := H1
   clear H1
   replace H := Option.bind_eq_some_iff.mp H
   obtain ⟨t111, A50, H⟩ := H
   replace H : (if t111 = true then ((spec_l00Rises.f k l0_2 0 (wrap64 (a0_0 - 1))).bind fun t112 => (if t112 = true then (spec_l07Ok.j0 k (decide ((l0_3.length : Int) > 256)) a0_0 a0_1 l0_2 l0_3) else (spec_l07Ok.j0 k true a0_0 a0_1 l0_2 l0_3))) else (spec_l07Ok.j0 k true a0_0 a0_1 l0_2 l0_3)) = some r := H
   have A5 := Aside0.mk A50
   clear A50
   by_cases c6 : t111 = true
   ·subst c6
    have H1 : ((spec_l00Rises.f k l0_2 0 (wrap64 (a0_0 - 1))).bind fun t112 => (if t112 = true then (spec_l07Ok.j0 k (decide ((l0_3.length : Int) > 256)) a0_0 a0_1 l0_2 l0_3) else (spec_l07Ok.j0 k true a0_0 a0_1 l0_2 l0_3))) = some r := by rw [if_pos rfl] at H; exact H
    clear H
    have H := H1
    clear H1
    replace H := Option.bind_eq_some_iff.mp H
    obtain ⟨t112, A70, H⟩ := H
    replace H : (if t112 = true then (spec_l07Ok.j0 k (decide ((l0_3.length : Int) > 256)) a0_0 a0_1 l0_2 l0_3) else (spec_l07Ok.j0 k true a0_0 a0_1 l0_2 l0_3)) = some r := H
    have A7 := Aside0.mk A70
    clear A70
    by_cases c8 : t112 = true
    ·subst c8
     have H1 : (spec_l07Ok.j0 k (decide ((l0_3.length : Int) > 256)) a0_0 a0_1 l0_2 l0_3) = some r := by rw [if_pos rfl] at H; exact H
     clear H
     have H := H1
     clear H1
     have H' := Aside0.mk H
     clear H
     have p109 : 0 ≤ (0 : Int) := (by omega)
     have q109 : 0 < ([(⟨a0_0, a0_1, l0_2, l0_3⟩ : S39)].length : Int) := (by simp)
     obtain ⟨ad109, A109_2, c109_2, A109_3, c109_3, e109, hx109_0, hx109_1, hx109_2, hx109_3, hl109_2, hi109_2, hl109_3, hi109_3⟩ := at_T39 HRp0.out 0 p109 q109
     replace hx109_0 : _ = (some (.int .i64 a0_0) : Option Value) := hx109_0
     replace hx109_1 : _ = (some (.int .i64 a0_1) : Option Value) := hx109_1
     replace hx109_2 : _ = (some (.slice A109_2 l0_2.length c109_2) : Option Value) := hx109_2
     replace hi109_2 : Kd.C (Kd.int .i64) _ _ l0_2.length l0_2 := hi109_2
     replace hl109_2 : l0_2.length ≤ _ := hl109_2
     replace hx109_3 : _ = (some (.slice A109_3 l0_3.length c109_3) : Option Value) := hx109_3
     replace hi109_3 : Kd.C k68 _ _ l0_3.length l0_3 := hi109_3
     replace hl109_3 : l0_3.length ≤ _ := hl109_3
     obtain rfl : adp0 = ad109 := (by injection e109)
     have qi109 : (0 < [(⟨a0_0, a0_1, l0_2, l0_3⟩ : S39)].length) = True := eq_true (by simp)
     (try rw [t00] at hx109_0)
     (try rw [Nat.zero_mul] at hx109_0)
     (try rw [Addr.add_zero'] at hx109_0)
     (try rw [t00] at hx109_1)
     (try rw [Nat.zero_mul] at hx109_1)
     (try rw [Addr.add_zero'] at hx109_1)
     (try rw [t00] at hx109_2)
     (try rw [Nat.zero_mul] at hx109_2)
     (try rw [Addr.add_zero'] at hx109_2)
     (try rw [t00] at hx109_3)
     (try rw [Nat.zero_mul] at hx109_3)
     (try rw [Addr.add_zero'] at hx109_3)
     replace hx109_0 := (HB.out.cell (World.block_lt_of_cell? w _ hx109_0)).trans hx109_0
     replace hx109_1 := (HB.out.cell (World.block_lt_of_cell? w _ hx109_1)).trans hx109_1
     replace hx109_2 := (HB.out.cell (World.block_lt_of_cell? w _ hx109_2)).trans hx109_2
     replace hx109_3 := (HB.out.cell (World.block_lt_of_cell? w _ hx109_3)).trans hx109_3
     have HR109_2 := Aside0.mk hi109_2
     have HC109_2 := Aside0.mk hl109_2
     clear hi109_2 hl109_2
     have HR109_3 := Aside0.mk hi109_3
     have HC109_3 := Aside0.mk hl109_3
     clear hi109_3 hl109_3
     replace p109 := eq_true p109
     replace q109 := eq_true q109
     go_wp2_with (first | (go_at_call 25; (with_reducible refine (spec_l00In.calls a0_0 1 32 true _ A3.out).mono ?_); rintro e w' ⟨rfl, ⟨nd, rfl⟩⟩; (try first | exact ⟨rfl, _, dN⟩ | exact ⟨rfl, _, dM⟩)) | (go_at_call 25; (with_reducible refine (spec_l00In.calls a0_1 0 (wrap64 (a0_0 - 1)) true _ A5.out).mono ?_); rintro e w' ⟨rfl, ⟨nd, rfl⟩⟩; (try first | exact ⟨rfl, _, dN⟩ | exact ⟨rfl, _, dM⟩)) | (go_at_call 57; (with_reducible refine (spec_l00Rises.calls k _ _ l0_2 0 (wrap64 (a0_0 - 1)) true _ ?side1 ?side2 A7.out).mono ?_); (case side1 => repeat (first | exact (cB HR109_2.out (hQ HB)) | (with_reducible refine cA ?_ _) | (with_reducible refine cN ?_ _) | (with_reducible refine cD ?_))); (case side2 => exact HC109_2.out); rintro e w' ⟨rfl, ⟨nd, rfl⟩⟩; (try first | exact ⟨rfl, _, dN⟩ | exact ⟨rfl, _, dM⟩)))
     repeat (go_quiet (first | (go_at_call 25; (try simp only [iW]); (with_reducible refine (spec_l00In.calls a0_0 1 32 true _ A3.out).mono ?_); rintro e w' ⟨rfl, ⟨nd, rfl⟩⟩; (try first | exact ⟨rfl, _, dN⟩ | exact ⟨rfl, _, dM⟩)) | (go_at_call 25; (try simp only [iW]); (with_reducible refine (spec_l00In.calls a0_1 0 (wrap64 (a0_0 - 1)) true _ A5.out).mono ?_); rintro e w' ⟨rfl, ⟨nd, rfl⟩⟩; (try first | exact ⟨rfl, _, dN⟩ | exact ⟨rfl, _, dM⟩)) | (go_at_call 57; (try simp only [iW]); (with_reducible refine (spec_l00Rises.calls k _ _ l0_2 0 (wrap64 (a0_0 - 1)) true _ ?side1 ?side2 A7.out).mono ?_); (case side1 => repeat (first | exact (cB HR109_2.out (hQ HB)) | (with_reducible refine cA ?_ _) | (with_reducible refine cN ?_ _) | (with_reducible refine cD ?_))); (case side2 => exact HC109_2.out); rintro e w' ⟨rfl, ⟨nd, rfl⟩⟩; (try first | exact ⟨rfl, _, dN⟩ | exact ⟨rfl, _, dM⟩))); try go_wp2_with (first | (go_at_call 25; (try simp only [iW]); (with_reducible refine (spec_l00In.calls a0_0 1 32 true _ A3.out).mono ?_); rintro e w' ⟨rfl, ⟨nd, rfl⟩⟩; (try first | exact ⟨rfl, _, dN⟩ | exact ⟨rfl, _, dM⟩)) | (go_at_call 25; (try simp only [iW]); (with_reducible refine (spec_l00In.calls a0_1 0 (wrap64 (a0_0 - 1)) true _ A5.out).mono ?_); rintro e w' ⟨rfl, ⟨nd, rfl⟩⟩; (try first | exact ⟨rfl, _, dN⟩ | exact ⟨rfl, _, dM⟩)) | (go_at_call 57; (try simp only [iW]); (with_reducible refine (spec_l00Rises.calls k _ _ l0_2 0 (wrap64 (a0_0 - 1)) true _ ?side1 ?side2 A7.out).mono ?_); (case side1 => repeat (first | exact (cB HR109_2.out (hQ HB)) | (with_reducible refine cA ?_ _) | (with_reducible refine cN ?_ _) | (with_reducible refine cD ?_))); (case side2 => exact HC109_2.out); rintro e w' ⟨rfl, ⟨nd, rfl⟩⟩; (try first | exact ⟨rfl, _, dN⟩ | exact ⟨rfl, _, dM⟩))))
     go_meet
     case rel => exact ⟨_, (decide ((l0_3.length : Int) > 256)), eT, H', ⟨by first | omega | exact Nat.le_refl _⟩, ⟨hQ HB⟩⟩
    ·replace c8 := Bool.eq_false_iff.mpr c8
     subst c8
     have H1 : (spec_l07Ok.j0 k true a0_0 a0_1 l0_2 l0_3) = some r := by rw [if_neg (show ¬ (false = true) by decide)] at H; exact H
     clear H
     have H := H1
     clear H1
     have H' := Aside0.mk H
     clear H
     have p109 : 0 ≤ (0 : Int) := (by omega)
     have q109 : 0 < ([(⟨a0_0, a0_1, l0_2, l0_3⟩ : S39)].length : Int) := (by simp)
     obtain ⟨ad109, A109_2, c109_2, A109_3, c109_3, e109, hx109_0, hx109_1, hx109_2, hx109_3, hl109_2, hi109_2, hl109_3, hi109_3⟩ := at_T39 HRp0.out 0 p109 q109
     replace hx109_0 : _ = (some (.int .i64 a0_0) : Option Value) := hx109_0
     replace hx109_1 : _ = (some (.int .i64 a0_1) : Option Value) := hx109_1
     replace hx109_2 : _ = (some (.slice A109_2 l0_2.length c109_2) : Option Value) := hx109_2
     replace hi109_2 : Kd.C (Kd.int .i64) _ _ l0_2.length l0_2 := hi109_2
     replace hl109_2 : l0_2.length ≤ _ := hl109_2
     replace hx109_3 : _ = (some (.slice A109_3 l0_3.length c109_3) : Option Value) := hx109_3
     replace hi109_3 : Kd.C k68 _ _ l0_3.length l0_3 := hi109_3
     replace hl109_3 : l0_3.length ≤ _ := hl109_3
     obtain rfl : adp0 = ad109 := (by injection e109)
     have qi109 : (0 < [(⟨a0_0, a0_1, l0_2, l0_3⟩ : S39)].length) = True := eq_true (by simp)
     (try rw [t00] at hx109_0)
     (try rw [Nat.zero_mul] at hx109_0)
     (try rw [Addr.add_zero'] at hx109_0)
     (try rw [t00] at hx109_1)
     (try rw [Nat.zero_mul] at hx109_1)
     (try rw [Addr.add_zero'] at hx109_1)
     (try rw [t00] at hx109_2)
     (try rw [Nat.zero_mul] at hx109_2)
     (try rw [Addr.add_zero'] at hx109_2)
     (try rw [t00] at hx109_3)
     (try rw [Nat.zero_mul] at hx109_3)
     (try rw [Addr.add_zero'] at hx109_3)
     replace hx109_0 := (HB.out.cell (World.block_lt_of_cell? w _ hx109_0)).trans hx109_0
     replace hx109_1 := (HB.out.cell (World.block_lt_of_cell? w _ hx109_1)).trans hx109_1
     replace hx109_2 := (HB.out.cell (World.block_lt_of_cell? w _ hx109_2)).trans hx109_2
     replace hx109_3 := (HB.out.cell (World.block_lt_of_cell? w _ hx109_3)).trans hx109_3
     have HR109_2 := Aside0.mk hi109_2
     have HC109_2 := Aside0.mk hl109_2
     clear hi109_2 hl109_2
     have HR109_3 := Aside0.mk hi109_3
     have HC109_3 := Aside0.mk hl109_3
     clear hi109_3 hl109_3
     replace p109 := eq_true p109
     replace q109 := eq_true q109
     go_wp2_with (first | (go_at_call 25; (with_reducible refine (spec_l00In.calls a0_0 1 32 true _ A3.out).mono ?_); rintro e w' ⟨rfl, ⟨nd, rfl⟩⟩; (try first | exact ⟨rfl, _, dN⟩ | exact ⟨rfl, _, dM⟩)) | (go_at_call 25; (with_reducible refine (spec_l00In.calls a0_1 0 (wrap64 (a0_0 - 1)) true _ A5.out).mono ?_); rintro e w' ⟨rfl, ⟨nd, rfl⟩⟩; (try first | exact ⟨rfl, _, dN⟩ | exact ⟨rfl, _, dM⟩)) | (go_at_call 57; (with_reducible refine (spec_l00Rises.calls k _ _ l0_2 0 (wrap64 (a0_0 - 1)) false _ ?side1 ?side2 A7.out).mono ?_); (case side1 => repeat (first | exact (cB HR109_2.out (hQ HB)) | (with_reducible refine cA ?_ _) | (with_reducible refine cN ?_ _) | (with_reducible refine cD ?_))); (case side2 => exact HC109_2.out); rintro e w' ⟨rfl, ⟨nd, rfl⟩⟩; (try first | exact ⟨rfl, _, dN⟩ | exact ⟨rfl, _, dM⟩)))
     repeat (go_quiet (first | (go_at_call 25; (try simp only [iW]); (with_reducible refine (spec_l00In.calls a0_0 1 32 true _ A3.out).mono ?_); rintro e w' ⟨rfl, ⟨nd, rfl⟩⟩; (try first | exact ⟨rfl, _, dN⟩ | exact ⟨rfl, _, dM⟩)) | (go_at_call 25; (try simp only [iW]); (with_reducible refine (spec_l00In.calls a0_1 0 (wrap64 (a0_0 - 1)) true _ A5.out).mono ?_); rintro e w' ⟨rfl, ⟨nd, rfl⟩⟩; (try first | exact ⟨rfl, _, dN⟩ | exact ⟨rfl, _, dM⟩)) | (go_at_call 57; (try simp only [iW]); (with_reducible refine (spec_l00Rises.calls k _ _ l0_2 0 (wrap64 (a0_0 - 1)) false _ ?side1 ?side2 A7.out).mono ?_); (case side1 => repeat (first | exact (cB HR109_2.out (hQ HB)) | (with_reducible refine cA ?_ _) | (with_reducible refine cN ?_ _) | (with_reducible refine cD ?_))); (case side2 => exact HC109_2.out); rintro e w' ⟨rfl, ⟨nd, rfl⟩⟩; (try first | exact ⟨rfl, _, dN⟩ | exact ⟨rfl, _, dM⟩))); try go_wp2_with (first | (go_at_call 25; (try simp only [iW]); (with_reducible refine (spec_l00In.calls a0_0 1 32 true _ A3.out).mono ?_); rintro e w' ⟨rfl, ⟨nd, rfl⟩⟩; (try first | exact ⟨rfl, _, dN⟩ | exact ⟨rfl, _, dM⟩)) | (go_at_call 25; (try simp only [iW]); (with_reducible refine (spec_l00In.calls a0_1 0 (wrap64 (a0_0 - 1)) true _ A5.out).mono ?_); rintro e w' ⟨rfl, ⟨nd, rfl⟩⟩; (try first | exact ⟨rfl, _, dN⟩ | exact ⟨rfl, _, dM⟩)) | (go_at_call 57; (try simp only [iW]); (with_reducible refine (spec_l00Rises.calls k _ _ l0_2 0 (wrap64 (a0_0 - 1)) false _ ?side1 ?side2 A7.out).mono ?_); (case side1 => repeat (first | exact (cB HR109_2.out (hQ HB)) | (with_reducible refine cA ?_ _) | (with_reducible refine cN ?_ _) | (with_reducible refine cD ?_))); (case side2 => exact HC109_2.out); rintro e w' ⟨rfl, ⟨nd, rfl⟩⟩; (try first | exact ⟨rfl, _, dN⟩ | exact ⟨rfl, _, dM⟩))))
     go_meet
     case rel => exact ⟨_, (true), eT, H', ⟨by first | omega | exact Nat.le_refl _⟩, ⟨hQ HB⟩⟩
   ·replace c6 := Bool.eq_false_iff.mpr c6
    subst c6
    have H1 : (spec_l07Ok.j0 k true a0_0 a0_1 l0_2 l0_3) = some r := by rw [if_neg (show ¬ (false = true) by decide)] at H; exact H
    clear H
    have H := H1
    clear H1
    have H' := Aside0.mk H
    clear H
    have p109 : 0 ≤ (0 : Int) := (by omega)
    have q109 : 0 < ([(⟨a0_0, a0_1, l0_2, l0_3⟩ : S39)].length : Int) := (by simp)
    obtain ⟨ad109, A109_2, c109_2, A109_3, c109_3, e109, hx109_0, hx109_1, hx109_2, hx109_3, hl109_2, hi109_2, hl109_3, hi109_3⟩ := at_T39 HRp0.out 0 p109 q109
    replace hx109_0 : _ = (some (.int .i64 a0_0) : Option Value) := hx109_0
    replace hx109_1 : _ = (some (.int .i64 a0_1) : Option Value) := hx109_1
    replace hx109_2 : _ = (some (.slice A109_2 l0_2.length c109_2) : Option Value) := hx109_2
    replace hi109_2 : Kd.C (Kd.int .i64) _ _ l0_2.length l0_2 := hi109_2
    replace hl109_2 : l0_2.length ≤ _ := hl109_2
    replace hx109_3 : _ = (some (.slice A109_3 l0_3.length c109_3) : Option Value) := hx109_3
    replace hi109_3 : Kd.C k68 _ _ l0_3.length l0_3 := hi109_3
    replace hl109_3 : l0_3.length ≤ _ := hl109_3
    obtain rfl : adp0 = ad109 := (by injection e109)
    have qi109 : (0 < [(⟨a0_0, a0_1, l0_2, l0_3⟩ : S39)].length) = True := eq_true (by simp)
    (try rw [t00] at hx109_0)
    (try rw [Nat.zero_mul] at hx109_0)
    (try rw [Addr.add_zero'] at hx109_0)
    (try rw [t00] at hx109_1)
    (try rw [Nat.zero_mul] at hx109_1)
    (try rw [Addr.add_zero'] at hx109_1)
    (try rw [t00] at hx109_2)
    (try rw [Nat.zero_mul] at hx109_2)
    (try rw [Addr.add_zero'] at hx109_2)
    (try rw [t00] at hx109_3)
    (try rw [Nat.zero_mul] at hx109_3)
    (try rw [Addr.add_zero'] at hx109_3)
    replace hx109_0 := (HB.out.cell (World.block_lt_of_cell? w _ hx109_0)).trans hx109_0
    replace hx109_1 := (HB.out.cell (World.block_lt_of_cell? w _ hx109_1)).trans hx109_1
    replace hx109_2 := (HB.out.cell (World.block_lt_of_cell? w _ hx109_2)).trans hx109_2
    replace hx109_3 := (HB.out.cell (World.block_lt_of_cell? w _ hx109_3)).trans hx109_3
    have HR109_2 := Aside0.mk hi109_2
    have HC109_2 := Aside0.mk hl109_2
    clear hi109_2 hl109_2
    have HR109_3 := Aside0.mk hi109_3
    have HC109_3 := Aside0.mk hl109_3
    clear hi109_3 hl109_3
    replace p109 := eq_true p109
    replace q109 := eq_true q109
    go_wp2_with (first | (go_at_call 25; (with_reducible refine (spec_l00In.calls a0_0 1 32 true _ A3.out).mono ?_); rintro e w' ⟨rfl, ⟨nd, rfl⟩⟩; (try first | exact ⟨rfl, _, dN⟩ | exact ⟨rfl, _, dM⟩)) | (go_at_call 25; (with_reducible refine (spec_l00In.calls a0_1 0 (wrap64 (a0_0 - 1)) false _ A5.out).mono ?_); rintro e w' ⟨rfl, ⟨nd, rfl⟩⟩; (try first | exact ⟨rfl, _, dN⟩ | exact ⟨rfl, _, dM⟩)))
    repeat (go_quiet (first | (go_at_call 25; (try simp only [iW]); (with_reducible refine (spec_l00In.calls a0_0 1 32 true _ A3.out).mono ?_); rintro e w' ⟨rfl, ⟨nd, rfl⟩⟩; (try first | exact ⟨rfl, _, dN⟩ | exact ⟨rfl, _, dM⟩)) | (go_at_call 25; (try simp only [iW]); (with_reducible refine (spec_l00In.calls a0_1 0 (wrap64 (a0_0 - 1)) false _ A5.out).mono ?_); rintro e w' ⟨rfl, ⟨nd, rfl⟩⟩; (try first | exact ⟨rfl, _, dN⟩ | exact ⟨rfl, _, dM⟩))); try go_wp2_with (first | (go_at_call 25; (try simp only [iW]); (with_reducible refine (spec_l00In.calls a0_0 1 32 true _ A3.out).mono ?_); rintro e w' ⟨rfl, ⟨nd, rfl⟩⟩; (try first | exact ⟨rfl, _, dN⟩ | exact ⟨rfl, _, dM⟩)) | (go_at_call 25; (try simp only [iW]); (with_reducible refine (spec_l00In.calls a0_1 0 (wrap64 (a0_0 - 1)) false _ A5.out).mono ?_); rintro e w' ⟨rfl, ⟨nd, rfl⟩⟩; (try first | exact ⟨rfl, _, dN⟩ | exact ⟨rfl, _, dM⟩))))
    go_meet
    case rel => exact ⟨_, (true), eT, H', ⟨by first | omega | exact Nat.le_refl _⟩, ⟨hQ HB⟩⟩
  ·replace c4 := Bool.eq_false_iff.mpr c4
   subst c4
   have H1 : (spec_l07Ok.j0 k true a0_0 a0_1 l0_2 l0_3) = some r := by rw [if_neg (show ¬ (false = true) by decide)] at H; exact H
   clear H
   have H := H1
   clear H1
   have H' := Aside0.mk H
   clear H
   have p109 : 0 ≤ (0 : Int) := (by omega)
   have q109 : 0 < ([(⟨a0_0, a0_1, l0_2, l0_3⟩ : S39)].length : Int) := (by simp)
   obtain ⟨ad109, A109_2, c109_2, A109_3, c109_3, e109, hx109_0, hx109_1, hx109_2, hx109_3, hl109_2, hi109_2, hl109_3, hi109_3⟩ := at_T39 HRp0.out 0 p109 q109
   replace hx109_0 : _ = (some (.int .i64 a0_0) : Option Value) := hx109_0
   replace hx109_1 : _ = (some (.int .i64 a0_1) : Option Value) := hx109_1
   replace hx109_2 : _ = (some (.slice A109_2 l0_2.length c109_2) : Option Value) := hx109_2
   replace hi109_2 : Kd.C (Kd.int .i64) _ _ l0_2.length l0_2 := hi109_2
   replace hl109_2 : l0_2.length ≤ _ := hl109_2
   replace hx109_3 : _ = (some (.slice A109_3 l0_3.length c109_3) : Option Value) := hx109_3
   replace hi109_3 : Kd.C k68 _ _ l0_3.length l0_3 := hi109_3
   replace hl109_3 : l0_3.length ≤ _ := hl109_3
   obtain rfl : adp0 = ad109 := (by injection e109)
   have qi109 : (0 < [(⟨a0_0, a0_1, l0_2, l0_3⟩ : S39)].length) = True := eq_true (by simp)
   (try rw [t00] at hx109_0)
   (try rw [Nat.zero_mul] at hx109_0)
   (try rw [Addr.add_zero'] at hx109_0)
   (try rw [t00] at hx109_1)
   (try rw [Nat.zero_mul] at hx109_1)
   (try rw [Addr.add_zero'] at hx109_1)
   (try rw [t00] at hx109_2)
   (try rw [Nat.zero_mul] at hx109_2)
   (try rw [Addr.add_zero'] at hx109_2)
   (try rw [t00] at hx109_3)
   (try rw [Nat.zero_mul] at hx109_3)
   (try rw [Addr.add_zero'] at hx109_3)
   replace hx109_0 := (HB.out.cell (World.block_lt_of_cell? w _ hx109_0)).trans hx109_0
   replace hx109_1 := (HB.out.cell (World.block_lt_of_cell? w _ hx109_1)).trans hx109_1
   replace hx109_2 := (HB.out.cell (World.block_lt_of_cell? w _ hx109_2)).trans hx109_2
   replace hx109_3 := (HB.out.cell (World.block_lt_of_cell? w _ hx109_3)).trans hx109_3
   have HR109_2 := Aside0.mk hi109_2
   have HC109_2 := Aside0.mk hl109_2
   clear hi109_2 hl109_2
   have HR109_3 := Aside0.mk hi109_3
   have HC109_3 := Aside0.mk hl109_3
   clear hi109_3 hl109_3
   replace p109 := eq_true p109
   replace q109 := eq_true q109
   go_wp2_with (first | (go_at_call 25; (with_reducible refine (spec_l00In.calls a0_0 1 32 false _ A3.out).mono ?_); rintro e w' ⟨rfl, ⟨nd, rfl⟩⟩; (try first | exact ⟨rfl, _, dN⟩ | exact ⟨rfl, _, dM⟩)))
   repeat (go_quiet (first | (go_at_call 25; (try simp only [iW]); (with_reducible refine (spec_l00In.calls a0_0 1 32 false _ A3.out).mono ?_); rintro e w' ⟨rfl, ⟨nd, rfl⟩⟩; (try first | exact ⟨rfl, _, dN⟩ | exact ⟨rfl, _, dM⟩))); try go_wp2_with (first | (go_at_call 25; (try simp only [iW]); (with_reducible refine (spec_l00In.calls a0_0 1 32 false _ A3.out).mono ?_); rintro e w' ⟨rfl, ⟨nd, rfl⟩⟩; (try first | exact ⟨rfl, _, dN⟩ | exact ⟨rfl, _, dM⟩))))
   go_meet
   case rel => exact ⟨_, (true), eT, H', ⟨by first | omega | exact Nat.le_refl _⟩, ⟨hQ HB⟩⟩
 case rest =>
  clear HC2
  try clear c1
  try clear p1
  try clear q1
  try clear hx1
  try clear qi1
  try clear p2
  try clear c3
  try clear c4
  try clear c6
  try clear p6
  try clear c8
  try clear hx109_0
  try clear hx109_1
  try clear hx109_2
  try clear hx109_3
  try clear p109
  try clear q109
  obtain ⟨kq, x44_1, rfl, HA, HJ1, HB⟩ := hcut
  cases kq with
  | zero => exact absurd HA.out (by simp [spec_l07Ok.j0])
  | succ kj1 =>
   have H := HA.out
   clear HA
   simp only [spec_l07Ok.j0] at H
   by_cases c9 : x44_1 = true
   ·subst c9
    have H1 : (some false) = some r := by rw [if_pos rfl] at H; exact H
    clear H
    have H := H1
    clear H1
    obtain rfl := Option.some.inj H
    go_wp2
    repeat (go_quiet (fail); try go_wp2)
    go_ret
    exact ⟨by first | rfl | (simp [errW_none, errW_some] <;> rfl) | (simp [*, errW_none, errW_some] <;> rfl), hQ HB⟩
   ·replace c9 := Bool.eq_false_iff.mpr c9
    subst c9
    have H1 : (spec_l07Ok.l0 kj1 0 a0_0 a0_1 l0_2 l0_3) = some r := by rw [if_neg (show ¬ (false = true) by decide)] at H; exact H
    clear H
    have H := H1
    clear H1
    have H' := Aside0.mk H
    clear H
    go_wp2
    repeat (go_quiet (fail); try go_wp2)
    go_loopg [3] kj1 (fun kq v3 w' => ∃ (x3_2 : Int), v3 = .int .i64 x3_2 ∧ Aside0 (spec_l07Ok.l0 kq x3_2 a0_0 a0_1 l0_2 l0_3 = some r) ∧ Aside0 (kq ≤ kj1) ∧ Aside0 (Below w.heap.size w w'))
    case atStart => exact ⟨(0), eT, H', ⟨Nat.le_refl _⟩, ⟨hQ HB⟩⟩
    case round =>
     clear H'
     try clear c1
     try clear p1
     try clear q1
     try clear hx1
     try clear qi1
     try clear p2
     try clear c3
     try clear c4
     try clear c6
     try clear p6
     try clear c8
     try clear c9
     try clear hx109_0
     try clear hx109_1
     try clear hx109_2
     try clear hx109_3
     try clear p1
     try clear p109
     try clear p2
     try clear p6
     try clear q1
     try clear q109
     obtain ⟨x3_2, rfl, HA, HK2, HB⟩ := hrel
     cases gk with
     | zero => exact absurd HA.out (by simp [spec_l07Ok.l0])
     | succ k2 =>
      have H := HA.out
      clear HA
      simp only [spec_l07Ok.l0] at H
      by_cases c10 : x3_2 < (l0_3.length : Int)
      ·rw [if_pos c10] at H
       have c10b0 : decide (x3_2 < (l0_3.length : Int)) = true := decide_eq_true c10
       clear c10
       by_cases c11 : 0 ≤ x3_2
       ·rw [if_pos c11] at H
        have c11b0 : decide (0 ≤ x3_2) = true := decide_eq_true c11
        clear c11
        have HC12 := Aside0.mk H
        clear H
        have p113 : 0 ≤ (0 : Int) := (by omega)
        have q113 : 0 < ([(⟨a0_0, a0_1, l0_2, l0_3⟩ : S39)].length : Int) := (by simp)
        obtain ⟨ad113, A113_2, c113_2, A113_3, c113_3, e113, hx113_0, hx113_1, hx113_2, hx113_3, hl113_2, hi113_2, hl113_3, hi113_3⟩ := at_T39 HRp0.out 0 p113 q113
        replace hx113_0 : _ = (some (.int .i64 a0_0) : Option Value) := hx113_0
        replace hx113_1 : _ = (some (.int .i64 a0_1) : Option Value) := hx113_1
        replace hx113_2 : _ = (some (.slice A113_2 l0_2.length c113_2) : Option Value) := hx113_2
        replace hi113_2 : Kd.C (Kd.int .i64) _ _ l0_2.length l0_2 := hi113_2
        replace hl113_2 : l0_2.length ≤ _ := hl113_2
        replace hx113_3 : _ = (some (.slice A113_3 l0_3.length c113_3) : Option Value) := hx113_3
        replace hi113_3 : Kd.C k68 _ _ l0_3.length l0_3 := hi113_3
        replace hl113_3 : l0_3.length ≤ _ := hl113_3
        obtain rfl : adp0 = ad113 := (by injection e113)
        have qi113 : (0 < [(⟨a0_0, a0_1, l0_2, l0_3⟩ : S39)].length) = True := eq_true (by simp)
        (try rw [t00] at hx113_0)
        (try rw [Nat.zero_mul] at hx113_0)
        (try rw [Addr.add_zero'] at hx113_0)
        (try rw [t00] at hx113_1)
        (try rw [Nat.zero_mul] at hx113_1)
        (try rw [Addr.add_zero'] at hx113_1)
        (try rw [t00] at hx113_2)
        (try rw [Nat.zero_mul] at hx113_2)
        (try rw [Addr.add_zero'] at hx113_2)
        (try rw [t00] at hx113_3)
        (try rw [Nat.zero_mul] at hx113_3)
        (try rw [Addr.add_zero'] at hx113_3)
        replace hx113_0 := (HB.out.cell (World.block_lt_of_cell? w _ hx113_0)).trans hx113_0
        replace hx113_1 := (HB.out.cell (World.block_lt_of_cell? w _ hx113_1)).trans hx113_1
        replace hx113_2 := (HB.out.cell (World.block_lt_of_cell? w _ hx113_2)).trans hx113_2
        replace hx113_3 := (HB.out.cell (World.block_lt_of_cell? w _ hx113_3)).trans hx113_3
        have HR113_2 := Aside0.mk hi113_2
        have HC113_2 := Aside0.mk hl113_2
        clear hi113_2 hl113_2
        have HR113_3 := Aside0.mk hi113_3
        have HC113_3 := Aside0.mk hl113_3
        clear hi113_3 hl113_3
        replace p113 := eq_true p113
        replace q113 := eq_true q113
        have p114 : 0 ≤ (x3_2 : Int) := oT
        have q114 : x3_2 < (l0_3.length : Int) := oT
        obtain ⟨ad114, e114, hx114_0, hx114_1, hx114_2⟩ := at_T68 HR113_3.out x3_2 p114 q114
        cases e114
        replace hx114_0 := (HB.out.cell (World.block_lt_of_cell? w _ hx114_0)).trans hx114_0
        replace hx114_1 := (HB.out.cell (World.block_lt_of_cell? w _ hx114_1)).trans hx114_1
        replace hx114_2 := (HB.out.cell (World.block_lt_of_cell? w _ hx114_2)).trans hx114_2
        replace p114 := eq_true p114
        replace q114 := eq_true q114
        go_upto_region 7 with (first | ((with_reducible refine gate_dst (N := 4) rfl ?_); (try (refine gate_guard (by rfl) ?_; dsimp only)); refine bE ?hg (N := 4) ?hd (cs := #[.int .i64 0, .int .i64 0, .int .i64 0]) (t := 68) ?hr ?_; (case hd => rfl); (case hg => rfl); (case hr => first | (go_simp; done) | (go_simp; rfl)); intro gb115 hg w13 hbox hb; have z_ := bX hb (hQ HB); have n0_ := Aside0.mk (bP z_ hb); have n1_ := Aside0.mk (hbox); have n2_ := Aside0.mk ((by rw [hg]; exact (bZ z_) : w.heap.size ≤ gb115)); have n3_ := Aside0.mk ((by rw [hg]; exact (bZ z_) : w.heap.size ≤ gb115)); clear HB; have HB := n0_; have BK115 := n1_; have GW115 := n2_; have GE115 := n3_; clear z_ n0_ n1_ n2_ n3_; clear hb hbox hg; obtain ⟨hcz14_0, hcz14_1, hcz14_2⟩ := cZ3 BK115.out; obtain ⟨hfz14_0, hfz14_1, hfz14_2⟩ := fZ3 BK115.out))
        repeat (go_quiet (first | ((with_reducible refine gate_dst (N := 4) rfl ?_); (try (refine gate_guard (by rfl) ?_; dsimp only)); refine bE ?hg (N := 4) ?hd (cs := #[.int .i64 0, .int .i64 0, .int .i64 0]) (t := 68) ?hr ?_; (case hd => rfl); (case hg => rfl); (case hr => first | (go_simp; done) | (go_simp; rfl)); intro gb115 hg w13 hbox hb; have z_ := bX hb (hQ HB); have n0_ := Aside0.mk (bP z_ hb); have n1_ := Aside0.mk (hbox); have n2_ := Aside0.mk ((by rw [hg]; exact (bZ z_) : w.heap.size ≤ gb115)); have n3_ := Aside0.mk ((by rw [hg]; exact (bZ z_) : w.heap.size ≤ gb115)); clear HB; have HB := n0_; have BK115 := n1_; have GW115 := n2_; have GE115 := n3_; clear z_ n0_ n1_ n2_ n3_; clear hb hbox hg; obtain ⟨hcz14_0, hcz14_1, hcz14_2⟩ := cZ3 BK115.out; obtain ⟨hfz14_0, hfz14_1, hfz14_2⟩ := fZ3 BK115.out)); go_upto_region 7 with (first | ((with_reducible refine gate_dst (N := 4) rfl ?_); (try (refine gate_guard (by rfl) ?_; dsimp only)); refine bE ?hg (N := 4) ?hd (cs := #[.int .i64 0, .int .i64 0, .int .i64 0]) (t := 68) ?hr ?_; (case hd => rfl); (case hg => rfl); (case hr => first | (go_simp; done) | (go_simp; rfl)); intro gb115 hg w13 hbox hb; have z_ := bX hb (hQ HB); have n0_ := Aside0.mk (bP z_ hb); have n1_ := Aside0.mk (hbox); have n2_ := Aside0.mk ((by rw [hg]; exact (bZ z_) : w.heap.size ≤ gb115)); have n3_ := Aside0.mk ((by rw [hg]; exact (bZ z_) : w.heap.size ≤ gb115)); clear HB; have HB := n0_; have BK115 := n1_; have GW115 := n2_; have GE115 := n3_; clear z_ n0_ n1_ n2_ n3_; clear hb hbox hg; obtain ⟨hcz14_0, hcz14_1, hcz14_2⟩ := cZ3 BK115.out; obtain ⟨hfz14_0, hfz14_1, hfz14_2⟩ := fZ3 BK115.out)))
        (try simp only [Act.put, sI, sZ, sS])
        go_cut [86] (fun v86 wc => ∃ (kq : Nat) (x86_11 : Bool), v86 = .bool x86_11 ∧ Aside0 (spec_l07Ok.j2 kq x3_2 x86_11 a0_0 a0_1 l0_2 l0_3 ((rd_T68 l0_3 x3_2).f0) ((rd_T68 l0_3 x3_2).f1) ((rd_T68 l0_3 x3_2).f2) = some r) ∧ Aside0 (kq ≤ k2) ∧ Aside0 (wc.heap[gb115]? = some (.cells #[.int .i64 ((rd_T68 l0_3 x3_2).f0), .int .i64 ((rd_T68 l0_3 x3_2).f1), .int .i64 ((rd_T68 l0_3 x3_2).f2)] 68 (0, 0))) ∧ Aside0 (Below w.heap.size w wc))
        case first =>
         have H := HC12.out
         clear HC12
         replace H := Option.bind_eq_some_iff.mp H
         obtain ⟨t116, A150, H⟩ := H
         replace H : (if t116 = true then ((spec_l03Pitch.f ((rd_T68 l0_3 x3_2).f1)).bind fun t117 => (if t117 = true then ((spec_l00In.f ((rd_T68 l0_3 x3_2).f2) 0 (wrap64 (a0_0 - 1))).bind fun t118 => (spec_l07Ok.j2 k2 x3_2 (!t118) a0_0 a0_1 l0_2 l0_3 ((rd_T68 l0_3 x3_2).f0) ((rd_T68 l0_3 x3_2).f1) ((rd_T68 l0_3 x3_2).f2))) else (spec_l07Ok.j2 k2 x3_2 true a0_0 a0_1 l0_2 l0_3 ((rd_T68 l0_3 x3_2).f0) ((rd_T68 l0_3 x3_2).f1) ((rd_T68 l0_3 x3_2).f2)))) else (spec_l07Ok.j2 k2 x3_2 true a0_0 a0_1 l0_2 l0_3 ((rd_T68 l0_3 x3_2).f0) ((rd_T68 l0_3 x3_2).f1) ((rd_T68 l0_3 x3_2).f2))) = some r := H
         have A15 := Aside0.mk A150
         clear A150
         by_cases c16 : t116 = true
         ·subst c16
          have H1 : ((spec_l03Pitch.f ((rd_T68 l0_3 x3_2).f1)).bind fun t117 => (if t117 = true then ((spec_l00In.f ((rd_T68 l0_3 x3_2).f2) 0 (wrap64 (a0_0 - 1))).bind fun t118 => (spec_l07Ok.j2 k2 x3_2 (!t118) a0_0 a0_1 l0_2 l0_3 ((rd_T68 l0_3 x3_2).f0) ((rd_T68 l0_3 x3_2).f1) ((rd_T68 l0_3 x3_2).f2))) else (spec_l07Ok.j2 k2 x3_2 true a0_0 a0_1 l0_2 l0_3 ((rd_T68 l0_3 x3_2).f0) ((rd_T68 l0_3 x3_2).f1) ((rd_T68 l0_3 x3_2).f2)))) = some r := by rw [if_pos rfl] at H; exact H
          clear H
          have H := H1
          clear H1
          replace H := Option.bind_eq_some_iff.mp H
          obtain ⟨t117, A170, H⟩ := H
          replace H : (if t117 = true then ((spec_l00In.f ((rd_T68 l0_3 x3_2).f2) 0 (wrap64 (a0_0 - 1))).bind fun t118 => (spec_l07Ok.j2 k2 x3_2 (!t118) a0_0 a0_1 l0_2 l0_3 ((rd_T68 l0_3 x3_2).f0) ((rd_T68 l0_3 x3_2).f1) ((rd_T68 l0_3 x3_2).f2))) else (spec_l07Ok.j2 k2 x3_2 true a0_0 a0_1 l0_2 l0_3 ((rd_T68 l0_3 x3_2).f0) ((rd_T68 l0_3 x3_2).f1) ((rd_T68 l0_3 x3_2).f2))) = some r := H
          have A17 := Aside0.mk A170
          clear A170
          by_cases c18 : t117 = true
          ·subst c18
           have H1 : ((spec_l00In.f ((rd_T68 l0_3 x3_2).f2) 0 (wrap64 (a0_0 - 1))).bind fun t118 => (spec_l07Ok.j2 k2 x3_2 (!t118) a0_0 a0_1 l0_2 l0_3 ((rd_T68 l0_3 x3_2).f0) ((rd_T68 l0_3 x3_2).f1) ((rd_T68 l0_3 x3_2).f2))) = some r := by rw [if_pos rfl] at H; exact H
           clear H
           have H := H1
           clear H1
           replace H := Option.bind_eq_some_iff.mp H
           obtain ⟨t118, A190, H⟩ := H
           replace H : (spec_l07Ok.j2 k2 x3_2 (!t118) a0_0 a0_1 l0_2 l0_3 ((rd_T68 l0_3 x3_2).f0) ((rd_T68 l0_3 x3_2).f1) ((rd_T68 l0_3 x3_2).f2)) = some r := H
           have A19 := Aside0.mk A190
           clear A190
           have H' := Aside0.mk H
           clear H
           obtain ⟨hcz20_0, hcz20_1, hcz20_2⟩ := cZ3 BK115.out
           obtain ⟨hfz20_0, hfz20_1, hfz20_2⟩ := fZ3 BK115.out
           go_wp2_with (first | (go_at_call 25; (with_reducible refine (spec_l00In.calls ((rd_T68 l0_3 x3_2).f0) 0 (wrap64 (a0_0 - 1)) true _ A15.out).mono ?_); rintro e w' ⟨rfl, ⟨nd, rfl⟩⟩; (try first | exact ⟨rfl, _, dN⟩ | exact ⟨rfl, _, dM⟩)) | (go_at_call 50; (with_reducible refine (spec_l03Pitch.calls ((rd_T68 l0_3 x3_2).f1) true _ A17.out).mono ?_); rintro e w' ⟨rfl, ⟨nd, rfl⟩⟩; (try first | exact ⟨rfl, _, dN⟩ | exact ⟨rfl, _, dM⟩)) | (go_at_call 25; (with_reducible refine (spec_l00In.calls ((rd_T68 l0_3 x3_2).f2) 0 (wrap64 (a0_0 - 1)) t118 _ A19.out).mono ?_); rintro e w' ⟨rfl, ⟨nd, rfl⟩⟩; (try first | exact ⟨rfl, _, dN⟩ | exact ⟨rfl, _, dM⟩)))
           have pz_ : 0 ≤ (0 : Int) := (by omega)
           have qz_ : 0 < ([(⟨a0_0, a0_1, l0_2, l0_3⟩ : S39)].length : Int) := (by simp)
           obtain ⟨adz_, Az2_, cz2_, Az3_, cz3_, ez_, hz0_, hz1_, hz2_, hz3_, _, _, _, _⟩ := at_T39 HRp0.out 0 pz_ qz_
           obtain rfl : adp0 = adz_ := (by injection ez_)
           replace hz0_ : _ = (some (.int .i64 a0_0) : Option Value) := hz0_
           (try rw [t00] at hz0_)
           (try rw [Nat.zero_mul] at hz0_)
           (try rw [Addr.add_zero'] at hz0_)
           have hne_ : ∀ o : Nat, ((⟨gb115, o, none⟩ : Addr) = adp0) = False := fun o => eq_false (by rintro rfl; exact absurd (World.block_lt_of_cell? w _ hz0_) (Nat.not_lt.2 GE115.out))
           have hy0_ := (HB.out.cell (World.block_lt_of_cell? w _ hz0_)).trans hz0_
           clear hz0_ hz1_ hz2_ hz3_ pz_ qz_ ez_
           repeat (go_quiet (first | (go_at_call 25; (try simp only [iW]); (with_reducible refine (spec_l00In.calls ((rd_T68 l0_3 x3_2).f0) 0 (wrap64 (a0_0 - 1)) true _ A15.out).mono ?_); rintro e w' ⟨rfl, ⟨nd, rfl⟩⟩; (try first | exact ⟨rfl, _, dN⟩ | exact ⟨rfl, _, dM⟩)) | (go_at_call 50; (try simp only [iW]); (with_reducible refine (spec_l03Pitch.calls ((rd_T68 l0_3 x3_2).f1) true _ A17.out).mono ?_); rintro e w' ⟨rfl, ⟨nd, rfl⟩⟩; (try first | exact ⟨rfl, _, dN⟩ | exact ⟨rfl, _, dM⟩)) | (go_at_call 25; (try simp only [iW]); (with_reducible refine (spec_l00In.calls ((rd_T68 l0_3 x3_2).f2) 0 (wrap64 (a0_0 - 1)) t118 _ A19.out).mono ?_); rintro e w' ⟨rfl, ⟨nd, rfl⟩⟩; (try first | exact ⟨rfl, _, dN⟩ | exact ⟨rfl, _, dM⟩))); try go_wp2_with (first | (go_at_call 25; (try simp only [iW]); (with_reducible refine (spec_l00In.calls ((rd_T68 l0_3 x3_2).f0) 0 (wrap64 (a0_0 - 1)) true _ A15.out).mono ?_); rintro e w' ⟨rfl, ⟨nd, rfl⟩⟩; (try first | exact ⟨rfl, _, dN⟩ | exact ⟨rfl, _, dM⟩)) | (go_at_call 50; (try simp only [iW]); (with_reducible refine (spec_l03Pitch.calls ((rd_T68 l0_3 x3_2).f1) true _ A17.out).mono ?_); rintro e w' ⟨rfl, ⟨nd, rfl⟩⟩; (try first | exact ⟨rfl, _, dN⟩ | exact ⟨rfl, _, dM⟩)) | (go_at_call 25; (try simp only [iW]); (with_reducible refine (spec_l00In.calls ((rd_T68 l0_3 x3_2).f2) 0 (wrap64 (a0_0 - 1)) t118 _ A19.out).mono ?_); rintro e w' ⟨rfl, ⟨nd, rfl⟩⟩; (try first | exact ⟨rfl, _, dN⟩ | exact ⟨rfl, _, dM⟩))))
           go_meet
           case rel => exact ⟨_, (!t118), eT, H', ⟨by have := HJ1.out; have := HK2.out; first | omega | exact Nat.le_refl _⟩, ⟨by (with_reducible repeat (first | refine kN ?_ _ | refine kD ?_ | refine kA ?_ _)); refine blk_put (cs := #[.int .i64 ((rd_T68 l0_3 x3_2).f0), .int .i64 ((rd_T68 l0_3 x3_2).f1), .int .i64 0]) ?_ 2 _ rfl; (with_reducible repeat (first | refine kN ?_ _ | refine kD ?_ | refine kA ?_ _)); refine blk_put (cs := #[.int .i64 ((rd_T68 l0_3 x3_2).f0), .int .i64 0, .int .i64 0]) ?_ 1 _ rfl; (with_reducible repeat (first | refine kN ?_ _ | refine kD ?_ | refine kA ?_ _)); refine blk_put (cs := #[.int .i64 0, .int .i64 0, .int .i64 0]) ?_ 0 _ rfl; (with_reducible repeat (first | refine kN ?_ _ | refine kD ?_ | refine kA ?_ _)); exact BK115.out⟩, ⟨by repeat (first | (with_reducible first | exact HB.out | apply bA | apply bN | apply bD | refine bS ?_ GE115.out) | exact HB.out)⟩⟩
          ·replace c18 := Bool.eq_false_iff.mpr c18
           subst c18
           have H1 : (spec_l07Ok.j2 k2 x3_2 true a0_0 a0_1 l0_2 l0_3 ((rd_T68 l0_3 x3_2).f0) ((rd_T68 l0_3 x3_2).f1) ((rd_T68 l0_3 x3_2).f2)) = some r := by rw [if_neg (show ¬ (false = true) by decide)] at H; exact H
           clear H
           have H := H1
           clear H1
           have H' := Aside0.mk H
           clear H
           obtain ⟨hcz21_0, hcz21_1, hcz21_2⟩ := cZ3 BK115.out
           obtain ⟨hfz21_0, hfz21_1, hfz21_2⟩ := fZ3 BK115.out
           go_wp2_with (first | (go_at_call 25; (with_reducible refine (spec_l00In.calls ((rd_T68 l0_3 x3_2).f0) 0 (wrap64 (a0_0 - 1)) true _ A15.out).mono ?_); rintro e w' ⟨rfl, ⟨nd, rfl⟩⟩; (try first | exact ⟨rfl, _, dN⟩ | exact ⟨rfl, _, dM⟩)) | (go_at_call 50; (with_reducible refine (spec_l03Pitch.calls ((rd_T68 l0_3 x3_2).f1) false _ A17.out).mono ?_); rintro e w' ⟨rfl, ⟨nd, rfl⟩⟩; (try first | exact ⟨rfl, _, dN⟩ | exact ⟨rfl, _, dM⟩)))
           have pz_ : 0 ≤ (0 : Int) := (by omega)
           have qz_ : 0 < ([(⟨a0_0, a0_1, l0_2, l0_3⟩ : S39)].length : Int) := (by simp)
           obtain ⟨adz_, Az2_, cz2_, Az3_, cz3_, ez_, hz0_, hz1_, hz2_, hz3_, _, _, _, _⟩ := at_T39 HRp0.out 0 pz_ qz_
           obtain rfl : adp0 = adz_ := (by injection ez_)
           replace hz0_ : _ = (some (.int .i64 a0_0) : Option Value) := hz0_
           (try rw [t00] at hz0_)
           (try rw [Nat.zero_mul] at hz0_)
           (try rw [Addr.add_zero'] at hz0_)
           have hne_ : ∀ o : Nat, ((⟨gb115, o, none⟩ : Addr) = adp0) = False := fun o => eq_false (by rintro rfl; exact absurd (World.block_lt_of_cell? w _ hz0_) (Nat.not_lt.2 GE115.out))
           have hy0_ := (HB.out.cell (World.block_lt_of_cell? w _ hz0_)).trans hz0_
           clear hz0_ hz1_ hz2_ hz3_ pz_ qz_ ez_
           repeat (go_quiet (first | (go_at_call 25; (try simp only [iW]); (with_reducible refine (spec_l00In.calls ((rd_T68 l0_3 x3_2).f0) 0 (wrap64 (a0_0 - 1)) true _ A15.out).mono ?_); rintro e w' ⟨rfl, ⟨nd, rfl⟩⟩; (try first | exact ⟨rfl, _, dN⟩ | exact ⟨rfl, _, dM⟩)) | (go_at_call 50; (try simp only [iW]); (with_reducible refine (spec_l03Pitch.calls ((rd_T68 l0_3 x3_2).f1) false _ A17.out).mono ?_); rintro e w' ⟨rfl, ⟨nd, rfl⟩⟩; (try first | exact ⟨rfl, _, dN⟩ | exact ⟨rfl, _, dM⟩))); try go_wp2_with (first | (go_at_call 25; (try simp only [iW]); (with_reducible refine (spec_l00In.calls ((rd_T68 l0_3 x3_2).f0) 0 (wrap64 (a0_0 - 1)) true _ A15.out).mono ?_); rintro e w' ⟨rfl, ⟨nd, rfl⟩⟩; (try first | exact ⟨rfl, _, dN⟩ | exact ⟨rfl, _, dM⟩)) | (go_at_call 50; (try simp only [iW]); (with_reducible refine (spec_l03Pitch.calls ((rd_T68 l0_3 x3_2).f1) false _ A17.out).mono ?_); rintro e w' ⟨rfl, ⟨nd, rfl⟩⟩; (try first | exact ⟨rfl, _, dN⟩ | exact ⟨rfl, _, dM⟩))))
           go_meet
           case rel => exact ⟨_, (true), eT, H', ⟨by have := HJ1.out; have := HK2.out; first | omega | exact Nat.le_refl _⟩, ⟨by (with_reducible repeat (first | refine kN ?_ _ | refine kD ?_ | refine kA ?_ _)); refine blk_put (cs := #[.int .i64 ((rd_T68 l0_3 x3_2).f0), .int .i64 ((rd_T68 l0_3 x3_2).f1), .int .i64 0]) ?_ 2 _ rfl; (with_reducible repeat (first | refine kN ?_ _ | refine kD ?_ | refine kA ?_ _)); refine blk_put (cs := #[.int .i64 ((rd_T68 l0_3 x3_2).f0), .int .i64 0, .int .i64 0]) ?_ 1 _ rfl; (with_reducible repeat (first | refine kN ?_ _ | refine kD ?_ | refine kA ?_ _)); refine blk_put (cs := #[.int .i64 0, .int .i64 0, .int .i64 0]) ?_ 0 _ rfl; (with_reducible repeat (first | refine kN ?_ _ | refine kD ?_ | refine kA ?_ _)); exact BK115.out⟩, ⟨by repeat (first | (with_reducible first | exact HB.out | apply bA | apply bN | apply bD | refine bS ?_ GE115.out) | exact HB.out)⟩⟩
         ·replace c16 := Bool.eq_false_iff.mpr c16
          subst c16
          have H1 : (spec_l07Ok.j2 k2 x3_2 true a0_0 a0_1 l0_2 l0_3 ((rd_T68 l0_3 x3_2).f0) ((rd_T68 l0_3 x3_2).f1) ((rd_T68 l0_3 x3_2).f2)) = some r := by rw [if_neg (show ¬ (false = true) by decide)] at H; exact H
          clear H
          have H := H1
          clear H1
          have H' := Aside0.mk H
          clear H
          obtain ⟨hcz22_0, hcz22_1, hcz22_2⟩ := cZ3 BK115.out
          obtain ⟨hfz22_0, hfz22_1, hfz22_2⟩ := fZ3 BK115.out
          go_wp2_with (first | (go_at_call 25; (with_reducible refine (spec_l00In.calls ((rd_T68 l0_3 x3_2).f0) 0 (wrap64 (a0_0 - 1)) false _ A15.out).mono ?_); rintro e w' ⟨rfl, ⟨nd, rfl⟩⟩; (try first | exact ⟨rfl, _, dN⟩ | exact ⟨rfl, _, dM⟩)))
          have pz_ : 0 ≤ (0 : Int) := (by omega)
          have qz_ : 0 < ([(⟨a0_0, a0_1, l0_2, l0_3⟩ : S39)].length : Int) := (by simp)
          obtain ⟨adz_, Az2_, cz2_, Az3_, cz3_, ez_, hz0_, hz1_, hz2_, hz3_, _, _, _, _⟩ := at_T39 HRp0.out 0 pz_ qz_
          obtain rfl : adp0 = adz_ := (by injection ez_)
          replace hz0_ : _ = (some (.int .i64 a0_0) : Option Value) := hz0_
          (try rw [t00] at hz0_)
          (try rw [Nat.zero_mul] at hz0_)
          (try rw [Addr.add_zero'] at hz0_)
          have hne_ : ∀ o : Nat, ((⟨gb115, o, none⟩ : Addr) = adp0) = False := fun o => eq_false (by rintro rfl; exact absurd (World.block_lt_of_cell? w _ hz0_) (Nat.not_lt.2 GE115.out))
          have hy0_ := (HB.out.cell (World.block_lt_of_cell? w _ hz0_)).trans hz0_
          clear hz0_ hz1_ hz2_ hz3_ pz_ qz_ ez_
          repeat (go_quiet (first | (go_at_call 25; (try simp only [iW]); (with_reducible refine (spec_l00In.calls ((rd_T68 l0_3 x3_2).f0) 0 (wrap64 (a0_0 - 1)) false _ A15.out).mono ?_); rintro e w' ⟨rfl, ⟨nd, rfl⟩⟩; (try first | exact ⟨rfl, _, dN⟩ | exact ⟨rfl, _, dM⟩))); try go_wp2_with (first | (go_at_call 25; (try simp only [iW]); (with_reducible refine (spec_l00In.calls ((rd_T68 l0_3 x3_2).f0) 0 (wrap64 (a0_0 - 1)) false _ A15.out).mono ?_); rintro e w' ⟨rfl, ⟨nd, rfl⟩⟩; (try first | exact ⟨rfl, _, dN⟩ | exact ⟨rfl, _, dM⟩))))
          go_meet
          case rel => exact ⟨_, (true), eT, H', ⟨by have := HJ1.out; have := HK2.out; first | omega | exact Nat.le_refl _⟩, ⟨by (with_reducible repeat (first | refine kN ?_ _ | refine kD ?_ | refine kA ?_ _)); refine blk_put (cs := #[.int .i64 ((rd_T68 l0_3 x3_2).f0), .int .i64 ((rd_T68 l0_3 x3_2).f1), .int .i64 0]) ?_ 2 _ rfl; (with_reducible repeat (first | refine kN ?_ _ | refine kD ?_ | refine kA ?_ _)); refine blk_put (cs := #[.int .i64 ((rd_T68 l0_3 x3_2).f0), .int .i64 0, .int .i64 0]) ?_ 1 _ rfl; (with_reducible repeat (first | refine kN ?_ _ | refine kD ?_ | refine kA ?_ _)); refine blk_put (cs := #[.int .i64 0, .int .i64 0, .int .i64 0]) ?_ 0 _ rfl; (with_reducible repeat (first | refine kN ?_ _ | refine kD ?_ | refine kA ?_ _)); exact BK115.out⟩, ⟨by repeat (first | (with_reducible first | exact HB.out | apply bA | apply bN | apply bD | refine bS ?_ GE115.out) | exact HB.out)⟩⟩
        case rest =>
         clear HC12
         try clear c1
         try clear p1
         try clear q1
         try clear hx1
         try clear qi1
         try clear p2
         try clear c3
         try clear c4
         try clear c6
         try clear p6
         try clear c8
         try clear c9
         try clear c10
         try clear c10b0
         try clear p10
         try clear q10
         try clear hx10
         try clear qi10
         try clear c11
         try clear c11b0
         try clear p11
         try clear q11
         try clear hx11
         try clear qi11
         try clear c16
         try clear c18
         try clear hcz14_0
         try clear hcz14_1
         try clear hcz14_2
         try clear hcz20_0
         try clear hcz20_1
         try clear hcz20_2
         try clear hcz21_0
         try clear hcz21_1
         try clear hcz21_2
         try clear hcz22_0
         try clear hcz22_1
         try clear hcz22_2
         try clear hfz14_0
         try clear hfz14_1
         try clear hfz14_2
         try clear hfz20_0
         try clear hfz20_1
         try clear hfz20_2
         try clear hfz21_0
         try clear hfz21_1
         try clear hfz21_2
         try clear hfz22_0
         try clear hfz22_1
         try clear hfz22_2
         try clear hx109_0
         try clear hx109_1
         try clear hx109_2
         try clear hx109_3
         try clear hx113_0
         try clear hx113_1
         try clear hx113_2
         try clear hx113_3
         try clear hx114_0
         try clear hx114_1
         try clear hx114_2
         try clear p1
         try clear p109
         try clear p113
         try clear p114
         try clear p2
         try clear p6
         try clear q1
         try clear q109
         try clear q113
         try clear q114
         obtain ⟨kq, x86_11, rfl, HA, HJ11, BK115, HB⟩ := hcut
         cases kq with
         | zero => exact absurd HA.out (by simp [spec_l07Ok.j2])
         | succ kj11 =>
          have H := HA.out
          clear HA
          simp only [spec_l07Ok.j2] at H
          by_cases c23 : x86_11 = true
          ·subst c23
           have H1 : (some false) = some r := by rw [if_pos rfl] at H; exact H
           clear H
           have H := H1
           clear H1
           obtain rfl := Option.some.inj H
           go_wp2
           repeat (go_quiet (fail); try go_wp2)
           go_ret
           exact ⟨by first | rfl | (simp [errW_none, errW_some] <;> rfl) | (simp [*, errW_none, errW_some] <;> rfl), by repeat (first | (with_reducible first | exact HB.out | apply bA | apply bN | apply bD | refine bS ?_ GE115.out) | exact HB.out)⟩
          ·replace c23 := Bool.eq_false_iff.mpr c23
           subst c23
           have H1 : (if x3_2 > 0 then (if 0 ≤ (wrap64 (x3_2 - 1)) then (if (wrap64 (x3_2 - 1)) < (l0_3.length : Int) then (if ((rd_T68 l0_3 (wrap64 (x3_2 - 1))).f0) > ((rd_T68 l0_3 x3_2).f0) then (some false) else (if ((rd_T68 l0_3 (wrap64 (x3_2 - 1))).f0) = ((rd_T68 l0_3 x3_2).f0) then (if ((rd_T68 l0_3 (wrap64 (x3_2 - 1))).f1) ≥ ((rd_T68 l0_3 x3_2).f1) then (some false) else (spec_l07Ok.l0 kj11 (wrap64 (x3_2 + 1)) a0_0 a0_1 l0_2 l0_3)) else (spec_l07Ok.l0 kj11 (wrap64 (x3_2 + 1)) a0_0 a0_1 l0_2 l0_3))) else (none)) else (none)) else (spec_l07Ok.l0 kj11 (wrap64 (x3_2 + 1)) a0_0 a0_1 l0_2 l0_3)) = some r := by rw [if_neg (show ¬ (false = true) by decide)] at H; exact H
           clear H
           have H := H1
           clear H1
           by_cases c24 : x3_2 > 0
           ·rw [if_pos c24] at H
            have c24b0 : decide (0 < x3_2) = true := decide_eq_true c24
            clear c24
            obtain ⟨ji25, hji25⟩ : ∃ j_ : Int, (wrap64 (x3_2 - 1)) = j_ := ⟨_, rfl⟩
            replace H : (if 0 ≤ (ji25) then (if (ji25) < (l0_3.length : Int) then (if ((rd_T68 l0_3 (ji25)).f0) > ((rd_T68 l0_3 x3_2).f0) then (some false) else (if ((rd_T68 l0_3 (ji25)).f0) = ((rd_T68 l0_3 x3_2).f0) then (if ((rd_T68 l0_3 (ji25)).f1) ≥ ((rd_T68 l0_3 x3_2).f1) then (some false) else (spec_l07Ok.l0 kj11 (wrap64 (x3_2 + 1)) a0_0 a0_1 l0_2 l0_3)) else (spec_l07Ok.l0 kj11 (wrap64 (x3_2 + 1)) a0_0 a0_1 l0_2 l0_3))) else (none)) else (none)) = some r := by first | (rw [hji25] at H; exact H) | (simp only [hji25] at H ⊢; exact H)
            have hji25w : (IntKind.i64.wrap (x3_2 - 1)) = ji25 := (iW _).trans hji25
            by_cases c26 : 0 ≤ (ji25)
            ·rw [if_pos c26] at H
             have c26b0 : decide (0 ≤ (ji25)) = true := decide_eq_true c26
             clear c26
             by_cases c27 : (ji25) < (l0_3.length : Int)
             ·rw [if_pos c27] at H
              have c27b0 : decide ((ji25) < (l0_3.length : Int)) = true := decide_eq_true c27
              clear c27
              by_cases c28 : ((rd_T68 l0_3 (ji25)).f0) > ((rd_T68 l0_3 x3_2).f0)
              ·rw [if_pos c28] at H
               have c28b0 : decide (((rd_T68 l0_3 x3_2).f0) < ((rd_T68 l0_3 (ji25)).f0)) = true := decide_eq_true c28
               clear c28
               obtain rfl := Option.some.inj H
               have p119 : 0 ≤ (0 : Int) := (by omega)
               have q119 : 0 < ([(⟨a0_0, a0_1, l0_2, l0_3⟩ : S39)].length : Int) := (by simp)
               obtain ⟨ad119, A119_2, c119_2, A119_3, c119_3, e119, hx119_0, hx119_1, hx119_2, hx119_3, hl119_2, hi119_2, hl119_3, hi119_3⟩ := at_T39 HRp0.out 0 p119 q119
               replace hx119_0 : _ = (some (.int .i64 a0_0) : Option Value) := hx119_0
               replace hx119_1 : _ = (some (.int .i64 a0_1) : Option Value) := hx119_1
               replace hx119_2 : _ = (some (.slice A119_2 l0_2.length c119_2) : Option Value) := hx119_2
               replace hi119_2 : Kd.C (Kd.int .i64) _ _ l0_2.length l0_2 := hi119_2
               replace hl119_2 : l0_2.length ≤ _ := hl119_2
               replace hx119_3 : _ = (some (.slice A119_3 l0_3.length c119_3) : Option Value) := hx119_3
               replace hi119_3 : Kd.C k68 _ _ l0_3.length l0_3 := hi119_3
               replace hl119_3 : l0_3.length ≤ _ := hl119_3
               obtain rfl : adp0 = ad119 := (by injection e119)
               have qi119 : (0 < [(⟨a0_0, a0_1, l0_2, l0_3⟩ : S39)].length) = True := eq_true (by simp)
               (try rw [t00] at hx119_0)
               (try rw [Nat.zero_mul] at hx119_0)
               (try rw [Addr.add_zero'] at hx119_0)
               (try rw [t00] at hx119_1)
               (try rw [Nat.zero_mul] at hx119_1)
               (try rw [Addr.add_zero'] at hx119_1)
               (try rw [t00] at hx119_2)
               (try rw [Nat.zero_mul] at hx119_2)
               (try rw [Addr.add_zero'] at hx119_2)
               (try rw [t00] at hx119_3)
               (try rw [Nat.zero_mul] at hx119_3)
               (try rw [Addr.add_zero'] at hx119_3)
               replace hx119_0 := (HB.out.cell (World.block_lt_of_cell? w _ hx119_0)).trans hx119_0
               replace hx119_1 := (HB.out.cell (World.block_lt_of_cell? w _ hx119_1)).trans hx119_1
               replace hx119_2 := (HB.out.cell (World.block_lt_of_cell? w _ hx119_2)).trans hx119_2
               replace hx119_3 := (HB.out.cell (World.block_lt_of_cell? w _ hx119_3)).trans hx119_3
               have HR119_2 := Aside0.mk hi119_2
               have HC119_2 := Aside0.mk hl119_2
               clear hi119_2 hl119_2
               have HR119_3 := Aside0.mk hi119_3
               have HC119_3 := Aside0.mk hl119_3
               clear hi119_3 hl119_3
               replace p119 := eq_true p119
               replace q119 := eq_true q119
               have p120 : 0 ≤ ((ji25) : Int) := oT
               have q120 : (ji25) < (l0_3.length : Int) := oT
               obtain ⟨ad120, e120, hx120_0, hx120_1, hx120_2⟩ := at_T68 HR119_3.out (ji25) p120 q120
               cases e120
               replace hx120_0 := (HB.out.cell (World.block_lt_of_cell? w _ hx120_0)).trans hx120_0
               replace hx120_1 := (HB.out.cell (World.block_lt_of_cell? w _ hx120_1)).trans hx120_1
               replace hx120_2 := (HB.out.cell (World.block_lt_of_cell? w _ hx120_2)).trans hx120_2
               replace p120 := eq_true p120
               replace q120 := eq_true q120
               have hcz29_0 : wc.cell? ⟨gb115, 0, none⟩ = some (.int .i64 ((rd_T68 l0_3 x3_2).f0)) := (kC BK115.out 0).trans rfl
               have hcz29_1 : wc.cell? ⟨gb115, 1, none⟩ = some (.int .i64 ((rd_T68 l0_3 x3_2).f1)) := (kC BK115.out 1).trans rfl
               have hcz29_2 : wc.cell? ⟨gb115, 2, none⟩ = some (.int .i64 ((rd_T68 l0_3 x3_2).f2)) := (kC BK115.out 2).trans rfl
               obtain ⟨hfz29_0, hfz29_1, hfz29_2⟩ := fZ3 BK115.out
               go_wp2
               repeat (go_quiet (fail); try go_wp2)
               go_ret
               exact ⟨by first | rfl | (simp [errW_none, errW_some] <;> rfl) | (simp only [← hji25]; first | rfl | (simp [errW_none, errW_some] <;> rfl)) | (simp [*, errW_none, errW_some] <;> rfl), by repeat (first | (with_reducible first | exact HB.out | apply bA | apply bN | apply bD | refine bS ?_ GE115.out) | exact HB.out)⟩
              ·rw [if_neg c28] at H
               have c28b0 : decide (((rd_T68 l0_3 x3_2).f0) < ((rd_T68 l0_3 (ji25)).f0)) = false := decide_eq_false c28
               clear c28
               by_cases c30 : ((rd_T68 l0_3 (ji25)).f0) = ((rd_T68 l0_3 x3_2).f0)
               ·rw [if_pos c30] at H
                have c30b0 : (((rd_T68 l0_3 (ji25)).f0) == ((rd_T68 l0_3 x3_2).f0)) = true := beq_iff_eq.mpr c30
                have c30b1 : (((rd_T68 l0_3 (ji25)).f0) != ((rd_T68 l0_3 x3_2).f0)) = false := bne_eq_false_iff_eq.mpr c30
                clear c30
                by_cases c31 : ((rd_T68 l0_3 (ji25)).f1) ≥ ((rd_T68 l0_3 x3_2).f1)
                ·rw [if_pos c31] at H
                 have c31b0 : decide (((rd_T68 l0_3 x3_2).f1) ≤ ((rd_T68 l0_3 (ji25)).f1)) = true := decide_eq_true c31
                 clear c31
                 obtain rfl := Option.some.inj H
                 have p119 : 0 ≤ (0 : Int) := (by omega)
                 have q119 : 0 < ([(⟨a0_0, a0_1, l0_2, l0_3⟩ : S39)].length : Int) := (by simp)
                 obtain ⟨ad119, A119_2, c119_2, A119_3, c119_3, e119, hx119_0, hx119_1, hx119_2, hx119_3, hl119_2, hi119_2, hl119_3, hi119_3⟩ := at_T39 HRp0.out 0 p119 q119
                 replace hx119_0 : _ = (some (.int .i64 a0_0) : Option Value) := hx119_0
                 replace hx119_1 : _ = (some (.int .i64 a0_1) : Option Value) := hx119_1
                 replace hx119_2 : _ = (some (.slice A119_2 l0_2.length c119_2) : Option Value) := hx119_2
                 replace hi119_2 : Kd.C (Kd.int .i64) _ _ l0_2.length l0_2 := hi119_2
                 replace hl119_2 : l0_2.length ≤ _ := hl119_2
                 replace hx119_3 : _ = (some (.slice A119_3 l0_3.length c119_3) : Option Value) := hx119_3
                 replace hi119_3 : Kd.C k68 _ _ l0_3.length l0_3 := hi119_3
                 replace hl119_3 : l0_3.length ≤ _ := hl119_3
                 obtain rfl : adp0 = ad119 := (by injection e119)
                 have qi119 : (0 < [(⟨a0_0, a0_1, l0_2, l0_3⟩ : S39)].length) = True := eq_true (by simp)
                 (try rw [t00] at hx119_0)
                 (try rw [Nat.zero_mul] at hx119_0)
                 (try rw [Addr.add_zero'] at hx119_0)
                 (try rw [t00] at hx119_1)
                 (try rw [Nat.zero_mul] at hx119_1)
                 (try rw [Addr.add_zero'] at hx119_1)
                 (try rw [t00] at hx119_2)
                 (try rw [Nat.zero_mul] at hx119_2)
                 (try rw [Addr.add_zero'] at hx119_2)
                 (try rw [t00] at hx119_3)
                 (try rw [Nat.zero_mul] at hx119_3)
                 (try rw [Addr.add_zero'] at hx119_3)
                 replace hx119_0 := (HB.out.cell (World.block_lt_of_cell? w _ hx119_0)).trans hx119_0
                 replace hx119_1 := (HB.out.cell (World.block_lt_of_cell? w _ hx119_1)).trans hx119_1
                 replace hx119_2 := (HB.out.cell (World.block_lt_of_cell? w _ hx119_2)).trans hx119_2
                 replace hx119_3 := (HB.out.cell (World.block_lt_of_cell? w _ hx119_3)).trans hx119_3
                 have HR119_2 := Aside0.mk hi119_2
                 have HC119_2 := Aside0.mk hl119_2
                 clear hi119_2 hl119_2
                 have HR119_3 := Aside0.mk hi119_3
                 have HC119_3 := Aside0.mk hl119_3
                 clear hi119_3 hl119_3
                 replace p119 := eq_true p119
                 replace q119 := eq_true q119
                 have p120 : 0 ≤ ((ji25) : Int) := oT
                 have q120 : (ji25) < (l0_3.length : Int) := oT
                 obtain ⟨ad120, e120, hx120_0, hx120_1, hx120_2⟩ := at_T68 HR119_3.out (ji25) p120 q120
                 cases e120
                 replace hx120_0 := (HB.out.cell (World.block_lt_of_cell? w _ hx120_0)).trans hx120_0
                 replace hx120_1 := (HB.out.cell (World.block_lt_of_cell? w _ hx120_1)).trans hx120_1
                 replace hx120_2 := (HB.out.cell (World.block_lt_of_cell? w _ hx120_2)).trans hx120_2
                 replace p120 := eq_true p120
                 replace q120 := eq_true q120
                 have hcz32_0 : wc.cell? ⟨gb115, 0, none⟩ = some (.int .i64 ((rd_T68 l0_3 x3_2).f0)) := (kC BK115.out 0).trans rfl
                 have hcz32_1 : wc.cell? ⟨gb115, 1, none⟩ = some (.int .i64 ((rd_T68 l0_3 x3_2).f1)) := (kC BK115.out 1).trans rfl
                 have hcz32_2 : wc.cell? ⟨gb115, 2, none⟩ = some (.int .i64 ((rd_T68 l0_3 x3_2).f2)) := (kC BK115.out 2).trans rfl
                 obtain ⟨hfz32_0, hfz32_1, hfz32_2⟩ := fZ3 BK115.out
                 have p121 : 0 ≤ ((ji25) : Int) := oT
                 have q121 : (ji25) < (l0_3.length : Int) := oT
                 obtain ⟨ad121, e121, hx121_0, hx121_1, hx121_2⟩ := at_T68 HR119_3.out (ji25) p121 q121
                 obtain rfl : ad120 = ad121 := (by injection e121)
                 replace hx121_0 := (HB.out.cell (World.block_lt_of_cell? w _ hx121_0)).trans hx121_0
                 replace hx121_1 := (HB.out.cell (World.block_lt_of_cell? w _ hx121_1)).trans hx121_1
                 replace hx121_2 := (HB.out.cell (World.block_lt_of_cell? w _ hx121_2)).trans hx121_2
                 replace p121 := eq_true p121
                 replace q121 := eq_true q121
                 have p122 : 0 ≤ ((ji25) : Int) := oT
                 have q122 : (ji25) < (l0_3.length : Int) := oT
                 obtain ⟨ad122, e122, hx122_0, hx122_1, hx122_2⟩ := at_T68 HR119_3.out (ji25) p122 q122
                 obtain rfl : ad120 = ad122 := (by injection e122)
                 replace hx122_0 := (HB.out.cell (World.block_lt_of_cell? w _ hx122_0)).trans hx122_0
                 replace hx122_1 := (HB.out.cell (World.block_lt_of_cell? w _ hx122_1)).trans hx122_1
                 replace hx122_2 := (HB.out.cell (World.block_lt_of_cell? w _ hx122_2)).trans hx122_2
                 replace p122 := eq_true p122
                 replace q122 := eq_true q122
                 go_wp2
                 repeat (go_quiet (fail); try go_wp2)
                 go_ret
                 exact ⟨by first | rfl | (simp [errW_none, errW_some] <;> rfl) | (simp only [← hji25]; first | rfl | (simp [errW_none, errW_some] <;> rfl)) | (simp [*, errW_none, errW_some] <;> rfl), by repeat (first | (with_reducible first | exact HB.out | apply bA | apply bN | apply bD | refine bS ?_ GE115.out) | exact HB.out)⟩
                ·rw [if_neg c31] at H
                 have c31b0 : decide (((rd_T68 l0_3 x3_2).f1) ≤ ((rd_T68 l0_3 (ji25)).f1)) = false := decide_eq_false c31
                 clear c31
                 have H' := Aside0.mk H
                 clear H
                 have p119 : 0 ≤ (0 : Int) := (by omega)
                 have q119 : 0 < ([(⟨a0_0, a0_1, l0_2, l0_3⟩ : S39)].length : Int) := (by simp)
                 obtain ⟨ad119, A119_2, c119_2, A119_3, c119_3, e119, hx119_0, hx119_1, hx119_2, hx119_3, hl119_2, hi119_2, hl119_3, hi119_3⟩ := at_T39 HRp0.out 0 p119 q119
                 replace hx119_0 : _ = (some (.int .i64 a0_0) : Option Value) := hx119_0
                 replace hx119_1 : _ = (some (.int .i64 a0_1) : Option Value) := hx119_1
                 replace hx119_2 : _ = (some (.slice A119_2 l0_2.length c119_2) : Option Value) := hx119_2
                 replace hi119_2 : Kd.C (Kd.int .i64) _ _ l0_2.length l0_2 := hi119_2
                 replace hl119_2 : l0_2.length ≤ _ := hl119_2
                 replace hx119_3 : _ = (some (.slice A119_3 l0_3.length c119_3) : Option Value) := hx119_3
                 replace hi119_3 : Kd.C k68 _ _ l0_3.length l0_3 := hi119_3
                 replace hl119_3 : l0_3.length ≤ _ := hl119_3
                 obtain rfl : adp0 = ad119 := (by injection e119)
                 have qi119 : (0 < [(⟨a0_0, a0_1, l0_2, l0_3⟩ : S39)].length) = True := eq_true (by simp)
                 (try rw [t00] at hx119_0)
                 (try rw [Nat.zero_mul] at hx119_0)
                 (try rw [Addr.add_zero'] at hx119_0)
                 (try rw [t00] at hx119_1)
                 (try rw [Nat.zero_mul] at hx119_1)
                 (try rw [Addr.add_zero'] at hx119_1)
                 (try rw [t00] at hx119_2)
                 (try rw [Nat.zero_mul] at hx119_2)
                 (try rw [Addr.add_zero'] at hx119_2)
                 (try rw [t00] at hx119_3)
                 (try rw [Nat.zero_mul] at hx119_3)
                 (try rw [Addr.add_zero'] at hx119_3)
                 replace hx119_0 := (HB.out.cell (World.block_lt_of_cell? w _ hx119_0)).trans hx119_0
                 replace hx119_1 := (HB.out.cell (World.block_lt_of_cell? w _ hx119_1)).trans hx119_1
                 replace hx119_2 := (HB.out.cell (World.block_lt_of_cell? w _ hx119_2)).trans hx119_2
                 replace hx119_3 := (HB.out.cell (World.block_lt_of_cell? w _ hx119_3)).trans hx119_3
                 have HR119_2 := Aside0.mk hi119_2
                 have HC119_2 := Aside0.mk hl119_2
                 clear hi119_2 hl119_2
                 have HR119_3 := Aside0.mk hi119_3
                 have HC119_3 := Aside0.mk hl119_3
                 clear hi119_3 hl119_3
                 replace p119 := eq_true p119
                 replace q119 := eq_true q119
                 have p120 : 0 ≤ ((ji25) : Int) := oT
                 have q120 : (ji25) < (l0_3.length : Int) := oT
                 obtain ⟨ad120, e120, hx120_0, hx120_1, hx120_2⟩ := at_T68 HR119_3.out (ji25) p120 q120
                 cases e120
                 replace hx120_0 := (HB.out.cell (World.block_lt_of_cell? w _ hx120_0)).trans hx120_0
                 replace hx120_1 := (HB.out.cell (World.block_lt_of_cell? w _ hx120_1)).trans hx120_1
                 replace hx120_2 := (HB.out.cell (World.block_lt_of_cell? w _ hx120_2)).trans hx120_2
                 replace p120 := eq_true p120
                 replace q120 := eq_true q120
                 have hcz33_0 : wc.cell? ⟨gb115, 0, none⟩ = some (.int .i64 ((rd_T68 l0_3 x3_2).f0)) := (kC BK115.out 0).trans rfl
                 have hcz33_1 : wc.cell? ⟨gb115, 1, none⟩ = some (.int .i64 ((rd_T68 l0_3 x3_2).f1)) := (kC BK115.out 1).trans rfl
                 have hcz33_2 : wc.cell? ⟨gb115, 2, none⟩ = some (.int .i64 ((rd_T68 l0_3 x3_2).f2)) := (kC BK115.out 2).trans rfl
                 obtain ⟨hfz33_0, hfz33_1, hfz33_2⟩ := fZ3 BK115.out
                 have p121 : 0 ≤ ((ji25) : Int) := oT
                 have q121 : (ji25) < (l0_3.length : Int) := oT
                 obtain ⟨ad121, e121, hx121_0, hx121_1, hx121_2⟩ := at_T68 HR119_3.out (ji25) p121 q121
                 obtain rfl : ad120 = ad121 := (by injection e121)
                 replace hx121_0 := (HB.out.cell (World.block_lt_of_cell? w _ hx121_0)).trans hx121_0
                 replace hx121_1 := (HB.out.cell (World.block_lt_of_cell? w _ hx121_1)).trans hx121_1
                 replace hx121_2 := (HB.out.cell (World.block_lt_of_cell? w _ hx121_2)).trans hx121_2
                 replace p121 := eq_true p121
                 replace q121 := eq_true q121
                 have p122 : 0 ≤ ((ji25) : Int) := oT
                 have q122 : (ji25) < (l0_3.length : Int) := oT
                 obtain ⟨ad122, e122, hx122_0, hx122_1, hx122_2⟩ := at_T68 HR119_3.out (ji25) p122 q122
                 obtain rfl : ad120 = ad122 := (by injection e122)
                 replace hx122_0 := (HB.out.cell (World.block_lt_of_cell? w _ hx122_0)).trans hx122_0
                 replace hx122_1 := (HB.out.cell (World.block_lt_of_cell? w _ hx122_1)).trans hx122_1
                 replace hx122_2 := (HB.out.cell (World.block_lt_of_cell? w _ hx122_2)).trans hx122_2
                 replace p122 := eq_true p122
                 replace q122 := eq_true q122
                 go_wp2
                 repeat (go_quiet (fail); try go_wp2)
                 go_roundg kj11
                 case measure => have := HJ1.out; have := HK2.out; have := HJ11.out; omega
                 case rel => exact ⟨(wrap64 (x3_2 + 1)), eT, H', ⟨by have := HJ1.out; have := HK2.out; have := HJ11.out; omega⟩, ⟨by repeat (first | (with_reducible first | exact HB.out | apply bA | apply bN | apply bD | refine bS ?_ GE115.out) | exact HB.out)⟩⟩
               ·rw [if_neg c30] at H
                have c30b0 : (((rd_T68 l0_3 (ji25)).f0) == ((rd_T68 l0_3 x3_2).f0)) = false := beq_eq_false_iff_ne.mpr c30
                have c30b1 : (((rd_T68 l0_3 (ji25)).f0) != ((rd_T68 l0_3 x3_2).f0)) = true := bne_iff_ne.mpr c30
                have H' := Aside0.mk H
                clear H
                have p119 : 0 ≤ (0 : Int) := (by omega)
                have q119 : 0 < ([(⟨a0_0, a0_1, l0_2, l0_3⟩ : S39)].length : Int) := (by simp)
                obtain ⟨ad119, A119_2, c119_2, A119_3, c119_3, e119, hx119_0, hx119_1, hx119_2, hx119_3, hl119_2, hi119_2, hl119_3, hi119_3⟩ := at_T39 HRp0.out 0 p119 q119
                replace hx119_0 : _ = (some (.int .i64 a0_0) : Option Value) := hx119_0
                replace hx119_1 : _ = (some (.int .i64 a0_1) : Option Value) := hx119_1
                replace hx119_2 : _ = (some (.slice A119_2 l0_2.length c119_2) : Option Value) := hx119_2
                replace hi119_2 : Kd.C (Kd.int .i64) _ _ l0_2.length l0_2 := hi119_2
                replace hl119_2 : l0_2.length ≤ _ := hl119_2
                replace hx119_3 : _ = (some (.slice A119_3 l0_3.length c119_3) : Option Value) := hx119_3
                replace hi119_3 : Kd.C k68 _ _ l0_3.length l0_3 := hi119_3
                replace hl119_3 : l0_3.length ≤ _ := hl119_3
                obtain rfl : adp0 = ad119 := (by injection e119)
                have qi119 : (0 < [(⟨a0_0, a0_1, l0_2, l0_3⟩ : S39)].length) = True := eq_true (by simp)
                (try rw [t00] at hx119_0)
                (try rw [Nat.zero_mul] at hx119_0)
                (try rw [Addr.add_zero'] at hx119_0)
                (try rw [t00] at hx119_1)
                (try rw [Nat.zero_mul] at hx119_1)
                (try rw [Addr.add_zero'] at hx119_1)
                (try rw [t00] at hx119_2)
                (try rw [Nat.zero_mul] at hx119_2)
                (try rw [Addr.add_zero'] at hx119_2)
                (try rw [t00] at hx119_3)
                (try rw [Nat.zero_mul] at hx119_3)
                (try rw [Addr.add_zero'] at hx119_3)
                replace hx119_0 := (HB.out.cell (World.block_lt_of_cell? w _ hx119_0)).trans hx119_0
                replace hx119_1 := (HB.out.cell (World.block_lt_of_cell? w _ hx119_1)).trans hx119_1
                replace hx119_2 := (HB.out.cell (World.block_lt_of_cell? w _ hx119_2)).trans hx119_2
                replace hx119_3 := (HB.out.cell (World.block_lt_of_cell? w _ hx119_3)).trans hx119_3
                have HR119_2 := Aside0.mk hi119_2
                have HC119_2 := Aside0.mk hl119_2
                clear hi119_2 hl119_2
                have HR119_3 := Aside0.mk hi119_3
                have HC119_3 := Aside0.mk hl119_3
                clear hi119_3 hl119_3
                replace p119 := eq_true p119
                replace q119 := eq_true q119
                have p120 : 0 ≤ ((ji25) : Int) := oT
                have q120 : (ji25) < (l0_3.length : Int) := oT
                obtain ⟨ad120, e120, hx120_0, hx120_1, hx120_2⟩ := at_T68 HR119_3.out (ji25) p120 q120
                cases e120
                replace hx120_0 := (HB.out.cell (World.block_lt_of_cell? w _ hx120_0)).trans hx120_0
                replace hx120_1 := (HB.out.cell (World.block_lt_of_cell? w _ hx120_1)).trans hx120_1
                replace hx120_2 := (HB.out.cell (World.block_lt_of_cell? w _ hx120_2)).trans hx120_2
                replace p120 := eq_true p120
                replace q120 := eq_true q120
                have hcz34_0 : wc.cell? ⟨gb115, 0, none⟩ = some (.int .i64 ((rd_T68 l0_3 x3_2).f0)) := (kC BK115.out 0).trans rfl
                have hcz34_1 : wc.cell? ⟨gb115, 1, none⟩ = some (.int .i64 ((rd_T68 l0_3 x3_2).f1)) := (kC BK115.out 1).trans rfl
                have hcz34_2 : wc.cell? ⟨gb115, 2, none⟩ = some (.int .i64 ((rd_T68 l0_3 x3_2).f2)) := (kC BK115.out 2).trans rfl
                obtain ⟨hfz34_0, hfz34_1, hfz34_2⟩ := fZ3 BK115.out
                have p121 : 0 ≤ ((ji25) : Int) := oT
                have q121 : (ji25) < (l0_3.length : Int) := oT
                obtain ⟨ad121, e121, hx121_0, hx121_1, hx121_2⟩ := at_T68 HR119_3.out (ji25) p121 q121
                obtain rfl : ad120 = ad121 := (by injection e121)
                replace hx121_0 := (HB.out.cell (World.block_lt_of_cell? w _ hx121_0)).trans hx121_0
                replace hx121_1 := (HB.out.cell (World.block_lt_of_cell? w _ hx121_1)).trans hx121_1
                replace hx121_2 := (HB.out.cell (World.block_lt_of_cell? w _ hx121_2)).trans hx121_2
                replace p121 := eq_true p121
                replace q121 := eq_true q121
                go_wp2
                repeat (go_quiet (fail); try go_wp2)
                go_roundg kj11
                case measure => have := HJ1.out; have := HK2.out; have := HJ11.out; omega
                case rel => exact ⟨(wrap64 (x3_2 + 1)), eT, H', ⟨by have := HJ1.out; have := HK2.out; have := HJ11.out; omega⟩, ⟨by repeat (first | (with_reducible first | exact HB.out | apply bA | apply bN | apply bD | refine bS ?_ GE115.out) | exact HB.out)⟩⟩
             ·rw [if_neg c27] at H
              exact absurd H (by simp)
            ·rw [if_neg c26] at H
             exact absurd H (by simp)
           ·rw [if_neg c24] at H
            have c24b0 : decide (0 < x3_2) = false := decide_eq_false c24
            clear c24
            have H' := Aside0.mk H
            clear H
            go_wp2
            repeat (go_quiet (fail); try go_wp2)
            go_roundg kj11
            case measure => have := HJ1.out; have := HK2.out; have := HJ11.out; omega
            case rel => exact ⟨(wrap64 (x3_2 + 1)), eT, H', ⟨by have := HJ1.out; have := HK2.out; have := HJ11.out; omega⟩, ⟨by repeat (first | (with_reducible first | exact HB.out | apply bA | apply bN | apply bD | refine bS ?_ GE115.out) | exact HB.out)⟩⟩
       ·rw [if_neg c11] at H
        exact absurd H (by simp)
      ·rw [if_neg c10] at H
       have c10b0 : decide (x3_2 < (l0_3.length : Int)) = false := decide_eq_false c10
       clear c10
       obtain rfl := Option.some.inj H
       have p113 : 0 ≤ (0 : Int) := (by omega)
       have q113 : 0 < ([(⟨a0_0, a0_1, l0_2, l0_3⟩ : S39)].length : Int) := (by simp)
       obtain ⟨ad113, A113_2, c113_2, A113_3, c113_3, e113, hx113_0, hx113_1, hx113_2, hx113_3, hl113_2, hi113_2, hl113_3, hi113_3⟩ := at_T39 HRp0.out 0 p113 q113
       replace hx113_0 : _ = (some (.int .i64 a0_0) : Option Value) := hx113_0
       replace hx113_1 : _ = (some (.int .i64 a0_1) : Option Value) := hx113_1
       replace hx113_2 : _ = (some (.slice A113_2 l0_2.length c113_2) : Option Value) := hx113_2
       replace hi113_2 : Kd.C (Kd.int .i64) _ _ l0_2.length l0_2 := hi113_2
       replace hl113_2 : l0_2.length ≤ _ := hl113_2
       replace hx113_3 : _ = (some (.slice A113_3 l0_3.length c113_3) : Option Value) := hx113_3
       replace hi113_3 : Kd.C k68 _ _ l0_3.length l0_3 := hi113_3
       replace hl113_3 : l0_3.length ≤ _ := hl113_3
       obtain rfl : adp0 = ad113 := (by injection e113)
       have qi113 : (0 < [(⟨a0_0, a0_1, l0_2, l0_3⟩ : S39)].length) = True := eq_true (by simp)
       (try rw [t00] at hx113_0)
       (try rw [Nat.zero_mul] at hx113_0)
       (try rw [Addr.add_zero'] at hx113_0)
       (try rw [t00] at hx113_1)
       (try rw [Nat.zero_mul] at hx113_1)
       (try rw [Addr.add_zero'] at hx113_1)
       (try rw [t00] at hx113_2)
       (try rw [Nat.zero_mul] at hx113_2)
       (try rw [Addr.add_zero'] at hx113_2)
       (try rw [t00] at hx113_3)
       (try rw [Nat.zero_mul] at hx113_3)
       (try rw [Addr.add_zero'] at hx113_3)
       replace hx113_0 := (HB.out.cell (World.block_lt_of_cell? w _ hx113_0)).trans hx113_0
       replace hx113_1 := (HB.out.cell (World.block_lt_of_cell? w _ hx113_1)).trans hx113_1
       replace hx113_2 := (HB.out.cell (World.block_lt_of_cell? w _ hx113_2)).trans hx113_2
       replace hx113_3 := (HB.out.cell (World.block_lt_of_cell? w _ hx113_3)).trans hx113_3
       have HR113_2 := Aside0.mk hi113_2
       have HC113_2 := Aside0.mk hl113_2
       clear hi113_2 hl113_2
       have HR113_3 := Aside0.mk hi113_3
       have HC113_3 := Aside0.mk hl113_3
       clear hi113_3 hl113_3
       replace p113 := eq_true p113
       replace q113 := eq_true q113
       go_wp2
       repeat (go_quiet (fail); try go_wp2)
       go_ret
       exact ⟨by first | rfl | (simp [errW_none, errW_some] <;> rfl) | (simp [*, errW_none, errW_some] <;> rfl), hQ HB⟩

end Go.Proofs.Yteljnbhbpidjpaa.G
-- shrunk
-- tight
-- tight2
-- tight3
