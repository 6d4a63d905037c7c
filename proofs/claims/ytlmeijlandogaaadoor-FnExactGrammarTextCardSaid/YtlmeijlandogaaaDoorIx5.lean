/- What functions of the given program compute, as plain Lean functions, and that the code comes to just that; by a program of this session over the kit's print. No condition. -/
import Derived.Test.YtlmeijlandogaaaDoorIx0
namespace Go.Proofs.YtlmeijlandogaaaDoor.I
open Go.RowKit Go.Proofs.YtlmeijlandogaaaDoorW.PrintWords Go.Proofs.YtlmeijlandogaaaDoorW.PrintLast Go.Proofs.YtlmeijlandogaaaDoorW.PrintMore
open Go.Proofs.YtlmeijlandogaaaDoorW.PrintWords renaming below_alloc → bA, pw_below_drewN → bN, below_drew1 → bD, below_set → bS, blk_drewN → kN, blk_drew → kD, blk_alloc → kA, below_size → bZ, below_step → bP, box_event → bE, blk_cell → kC
open Go.Proofs.YtlmeijlandogaaaDoorW.PrintLast renaming i64_w → iW
open Go.Proofs.YtlmeijlandogaaaDoorW.PrintWords.Kd renaming C_alloc → cA, C_drewN → cN, C_drew → cD, C_below → cB
open List renaming setIfInBounds_toArray → sI, set_cons_zero → sZ, set_cons_succ → sS
attribute [local go_sem] max2_int min2_int max_two min_two max_three min_three max_four min_four   -- for this text's walks alone
set_option linter.unusedVariables false
set_option linter.unusedSimpArgs false

/-! ### spec_l07Ok: function 39 -/
mutual
def spec_l07Ok.j0 : Nat → Bool → Int → Int → List Int → List (S63) → Option (Bool)
 | 0, _, _, _, _, _ => none
 | k + 1, x44, x1000, x1001, x1002, x1003 => if x44 = true then (some false) else (spec_l07Ok.l0 k 0 x1000 x1001 x1002 x1003)
def spec_l07Ok.l0 : Nat → Int → Int → Int → List Int → List (S63) → Option (Bool)
 | 0, _, _, _, _, _ => none
 | k + 1, x3, x1000, x1001, x1002, x1003 => if x3 < (x1003.length : Int) then (if 0 ≤ x3 then ((spec_l00In.f ((rd_T63 x1003 x3).f0) 0 (wrap64 (x1000 - 1))).bind fun t127 => (if t127 = true then ((spec_l03Pitch.f ((rd_T63 x1003 x3).f1)).bind fun t128 => (if t128 = true then ((spec_l00In.f ((rd_T63 x1003 x3).f2) 0 (wrap64 (x1000 - 1))).bind fun t129 => (spec_l07Ok.j2 k x3 (!t129) x1000 x1001 x1002 x1003 ((rd_T63 x1003 x3).f0) ((rd_T63 x1003 x3).f1) ((rd_T63 x1003 x3).f2))) else (spec_l07Ok.j2 k x3 true x1000 x1001 x1002 x1003 ((rd_T63 x1003 x3).f0) ((rd_T63 x1003 x3).f1) ((rd_T63 x1003 x3).f2)))) else (spec_l07Ok.j2 k x3 true x1000 x1001 x1002 x1003 ((rd_T63 x1003 x3).f0) ((rd_T63 x1003 x3).f1) ((rd_T63 x1003 x3).f2)))) else (none)) else (some true)
def spec_l07Ok.j2 : Nat → Int → Bool → Int → Int → List Int → List (S63) → Int → Int → Int → Option (Bool)
 | 0, _, _, _, _, _, _, _, _, _ => none
 | k + 1, x3, x86, x1000, x1001, x1002, x1003, x127000, x127001, x127002 => if x86 = true then (some false) else (if x3 > 0 then (if 0 ≤ (wrap64 (x3 - 1)) then (if (wrap64 (x3 - 1)) < (x1003.length : Int) then (if ((rd_T63 x1003 (wrap64 (x3 - 1))).f0) > x127000 then (some false) else (if ((rd_T63 x1003 (wrap64 (x3 - 1))).f0) = x127000 then (if ((rd_T63 x1003 (wrap64 (x3 - 1))).f1) ≥ x127001 then (some false) else (spec_l07Ok.l0 k (wrap64 (x3 + 1)) x1000 x1001 x1002 x1003)) else (spec_l07Ok.l0 k (wrap64 (x3 + 1)) x1000 x1001 x1002 x1003))) else (none)) else (none)) else (spec_l07Ok.l0 k (wrap64 (x3 + 1)) x1000 x1001 x1002 x1003))
end
def spec_l07Ok.f (k : Nat) (a0_0 : Int) (a0_1 : Int) (l0_2 : List Int) (l0_3 : List (S63)) : Option (Bool) := (spec_l00In.f a0_0 1 32).bind fun t121 => (if t121 = true then ((spec_l00In.f a0_1 0 (wrap64 (a0_0 - 1))).bind fun t122 => (if t122 = true then ((spec_l00Rises.f k l0_2 0 (wrap64 (a0_0 - 1))).bind fun t123 => (if t123 = true then (spec_l07Ok.j0 k (decide ((l0_3.length : Int) > 256)) a0_0 a0_1 l0_2 l0_3) else (spec_l07Ok.j0 k true a0_0 a0_1 l0_2 l0_3))) else (spec_l07Ok.j0 k true a0_0 a0_1 l0_2 l0_3))) else (spec_l07Ok.j0 k true a0_0 a0_1 l0_2 l0_3))
theorem spec_l07Ok.mono_l : ∀ k, (∀ y0 y1 y2 y3 y4, LeO (spec_l07Ok.j0 k y0 y1 y2 y3 y4) (spec_l07Ok.j0 (k + 1) y0 y1 y2 y3 y4)) ∧ (∀ y0 y1 y2 y3 y4, LeO (spec_l07Ok.l0 k y0 y1 y2 y3 y4) (spec_l07Ok.l0 (k + 1) y0 y1 y2 y3 y4)) ∧ (∀ y0 y1 y2 y3 y4 y5 y6 y7 y8, LeO (spec_l07Ok.j2 k y0 y1 y2 y3 y4 y5 y6 y7 y8) (spec_l07Ok.j2 (k + 1) y0 y1 y2 y3 y4 y5 y6 y7 y8))
 | 0 => ⟨fun _ _ _ _ _ r h => by simp [spec_l07Ok.j0] at h, fun _ _ _ _ _ r h => by simp [spec_l07Ok.l0] at h, fun _ _ _ _ _ _ _ _ _ r h => by simp [spec_l07Ok.j2] at h⟩
 | k + 1 => by
  obtain ⟨ih0, ih1, ih2⟩ := spec_l07Ok.mono_l k
  refine ⟨?_, ?_, ?_⟩
  ·intro y0 y1 y2 y3 y4
   unfold spec_l07Ok.j0
   repeat' first
   | (with_reducible exact ih0 _ _ _ _ _)
   | (with_reducible exact ih1 _ _ _ _ _)
   | (with_reducible exact ih2 _ _ _ _ _ _ _ _ _)
   | (with_reducible exact spec_l00Rises.mono _ _ _ _)
   | (with_reducible exact LeO.refl _)
   | (with_reducible exact LeO.none _)
   | (with_reducible refine LeO.ite ?_ ?_)
   | (with_reducible refine LeO.bind ?_ (fun _ => ?_))
   | exact ih0 _ _ _ _ _
   | exact ih1 _ _ _ _ _
   | exact ih2 _ _ _ _ _ _ _ _ _
   | exact spec_l00Rises.mono _ _ _ _
   | exact LeO.none _
   | refine LeO.ite ?_ ?_
   | refine LeO.bind ?_ (fun _ => ?_)
  ·intro y0 y1 y2 y3 y4
   unfold spec_l07Ok.l0
   repeat' first
   | (with_reducible exact ih0 _ _ _ _ _)
   | (with_reducible exact ih1 _ _ _ _ _)
   | (with_reducible exact ih2 _ _ _ _ _ _ _ _ _)
   | (with_reducible exact spec_l00Rises.mono _ _ _ _)
   | (with_reducible exact LeO.refl _)
   | (with_reducible exact LeO.none _)
   | (with_reducible refine LeO.ite ?_ ?_)
   | (with_reducible refine LeO.bind ?_ (fun _ => ?_))
   | exact ih0 _ _ _ _ _
   | exact ih1 _ _ _ _ _
   | exact ih2 _ _ _ _ _ _ _ _ _
   | exact spec_l00Rises.mono _ _ _ _
   | exact LeO.none _
   | refine LeO.ite ?_ ?_
   | refine LeO.bind ?_ (fun _ => ?_)
  ·intro y0 y1 y2 y3 y4 y5 y6 y7 y8
   unfold spec_l07Ok.j2
   repeat' first
   | (with_reducible exact ih0 _ _ _ _ _)
   | (with_reducible exact ih1 _ _ _ _ _)
   | (with_reducible exact ih2 _ _ _ _ _ _ _ _ _)
   | (with_reducible exact spec_l00Rises.mono _ _ _ _)
   | (with_reducible exact LeO.refl _)
   | (with_reducible exact LeO.none _)
   | (with_reducible refine LeO.ite ?_ ?_)
   | (with_reducible refine LeO.bind ?_ (fun _ => ?_))
   | exact ih0 _ _ _ _ _
   | exact ih1 _ _ _ _ _
   | exact ih2 _ _ _ _ _ _ _ _ _
   | exact spec_l00Rises.mono _ _ _ _
   | exact LeO.none _
   | refine LeO.ite ?_ ?_
   | refine LeO.bind ?_ (fun _ => ?_)
theorem spec_l07Ok.mono : ∀ a0 a1 a2 a3 k, LeO (spec_l07Ok.f k a0 a1 a2 a3) (spec_l07Ok.f (k + 1) a0 a1 a2 a3) := by
 intro a0 a1 a2 a3 k
 obtain ⟨ih0, ih1, ih2⟩ := spec_l07Ok.mono_l k
 unfold spec_l07Ok.f
 repeat' first
   | (with_reducible exact ih0 _ _ _ _ _)
   | (with_reducible exact ih1 _ _ _ _ _)
   | (with_reducible exact ih2 _ _ _ _ _ _ _ _ _)
   | (with_reducible exact spec_l00Rises.mono _ _ _ _)
   | (with_reducible exact LeO.refl _)
   | (with_reducible exact LeO.none _)
   | (with_reducible refine LeO.ite ?_ ?_)
   | (with_reducible refine LeO.bind ?_ (fun _ => ?_))
   | exact ih0 _ _ _ _ _
   | exact ih1 _ _ _ _ _
   | exact ih2 _ _ _ _ _ _ _ _ _
   | exact spec_l00Rises.mono _ _ _ _
   | exact LeO.none _
   | refine LeO.ite ?_ ?_
   | refine LeO.bind ?_ (fun _ => ?_)
set_option maxHeartbeats 8000000 in
set_option maxRecDepth 100000 in
theorem spec_l07Ok.calls (k : Nat) (adp0 : Addr) (a0_0 : Int) (a0_1 : Int) (l0_2 : List Int) (l0_3 : List (S63)) (r : Bool) (w : World) (hp0 : Kd.C k31 w (some adp0) 1 [(⟨a0_0, a0_1, l0_2, l0_3⟩ : S31)]) (h : spec_l07Ok.f k a0_0 a0_1 l0_2 l0_3 = some r) :
  Calls Tryd.prog 39 #[.pointer (some adp0)] w fun e w' => e = .returned (.bool r) ∧ Below w.heap.size w w' := by
 have hu63 := Tryd.underlying63
 have HRp0 := Aside0.mk hp0
 clear hp0
 have HB := Aside0.mk (Below.refl w.heap.size w)
 have H : ((spec_l00In.f a0_0 1 32).bind fun t121 => (if t121 = true then ((spec_l00In.f a0_1 0 (wrap64 (a0_0 - 1))).bind fun t122 => (if t122 = true then ((spec_l00Rises.f k l0_2 0 (wrap64 (a0_0 - 1))).bind fun t123 => (if t123 = true then (spec_l07Ok.j0 k (decide ((l0_3.length : Int) > 256)) a0_0 a0_1 l0_2 l0_3) else (spec_l07Ok.j0 k true a0_0 a0_1 l0_2 l0_3))) else (spec_l07Ok.j0 k true a0_0 a0_1 l0_2 l0_3))) else (spec_l07Ok.j0 k true a0_0 a0_1 l0_2 l0_3))) = some r := h
 clear h
 have HC2 := Aside0.mk H
 clear H
 go_enter Tryd.func39, Tryd.ntmps39
 go_upto_region 1 with (fail)
 repeat (go_quiet (fail); go_upto_region 1 with (fail))
 go_cut [44] (fun v44 wc => ∃ (kq : Nat) (x44_1 : Bool), v44 = .bool x44_1 ∧ Aside0 (spec_l07Ok.j0 kq x44_1 a0_0 a0_1 l0_2 l0_3 = some r) ∧ Aside0 (kq ≤ k) ∧ Aside0 (Below w.heap.size w wc))
 case first =>
  have H := HC2.out
  clear HC2
  replace H := Option.bind_eq_some_iff.mp H
  obtain ⟨t121, A30, H⟩ := H
  replace H : (if t121 = true then ((spec_l00In.f a0_1 0 (wrap64 (a0_0 - 1))).bind fun t122 => (if t122 = true then ((spec_l00Rises.f k l0_2 0 (wrap64 (a0_0 - 1))).bind fun t123 => (if t123 = true then (spec_l07Ok.j0 k (decide ((l0_3.length : Int) > 256)) a0_0 a0_1 l0_2 l0_3) else (spec_l07Ok.j0 k true a0_0 a0_1 l0_2 l0_3))) else (spec_l07Ok.j0 k true a0_0 a0_1 l0_2 l0_3))) else (spec_l07Ok.j0 k true a0_0 a0_1 l0_2 l0_3)) = some r := H
  have A3 := Aside0.mk A30
  clear A30
  by_cases c4 : t121 = true
  ·subst c4
   have H1 : ((spec_l00In.f a0_1 0 (wrap64 (a0_0 - 1))).bind fun t122 => (if t122 = true then ((spec_l00Rises.f k l0_2 0 (wrap64 (a0_0 - 1))).bind fun t123 => (if t123 = true then (spec_l07Ok.j0 k (decide ((l0_3.length : Int) > 256)) a0_0 a0_1 l0_2 l0_3) else (spec_l07Ok.j0 k true a0_0 a0_1 l0_2 l0_3))) else (spec_l07Ok.j0 k true a0_0 a0_1 l0_2 l0_3))) = some r := by rw [if_pos rfl] at H; exact H
   clear H
   have H := H1
   clear H1
   replace H := Option.bind_eq_some_iff.mp H
   obtain ⟨t122, A50, H⟩ := H
   replace H : (if t122 = true then ((spec_l00Rises.f k l0_2 0 (wrap64 (a0_0 - 1))).bind fun t123 => (if t123 = true then (spec_l07Ok.j0 k (decide ((l0_3.length : Int) > 256)) a0_0 a0_1 l0_2 l0_3) else (spec_l07Ok.j0 k true a0_0 a0_1 l0_2 l0_3))) else (spec_l07Ok.j0 k true a0_0 a0_1 l0_2 l0_3)) = some r := H
   have A5 := Aside0.mk A50
   clear A50
   by_cases c6 : t122 = true
   ·subst c6
    have H1 : ((spec_l00Rises.f k l0_2 0 (wrap64 (a0_0 - 1))).bind fun t123 => (if t123 = true then (spec_l07Ok.j0 k (decide ((l0_3.length : Int) > 256)) a0_0 a0_1 l0_2 l0_3) else (spec_l07Ok.j0 k true a0_0 a0_1 l0_2 l0_3))) = some r := by rw [if_pos rfl] at H; exact H
    clear H
    have H := H1
    clear H1
    replace H := Option.bind_eq_some_iff.mp H
    obtain ⟨t123, A70, H⟩ := H
    replace H : (if t123 = true then (spec_l07Ok.j0 k (decide ((l0_3.length : Int) > 256)) a0_0 a0_1 l0_2 l0_3) else (spec_l07Ok.j0 k true a0_0 a0_1 l0_2 l0_3)) = some r := H
    have A7 := Aside0.mk A70
    clear A70
    by_cases c8 : t123 = true
    ·subst c8
     have H1 : (spec_l07Ok.j0 k (decide ((l0_3.length : Int) > 256)) a0_0 a0_1 l0_2 l0_3) = some r := by rw [if_pos rfl] at H; exact H
     clear H
     have H := H1
     clear H1
     have H' := Aside0.mk H
     clear H
     have p120 : 0 ≤ (0 : Int) := (by omega)
     have q120 : 0 < ([(⟨a0_0, a0_1, l0_2, l0_3⟩ : S31)].length : Int) := (by simp)
     obtain ⟨ad120, A120_2, c120_2, A120_3, c120_3, e120, hx120_0, hx120_1, hx120_2, hx120_3, hl120_2, hi120_2, hl120_3, hi120_3⟩ := at_T31 HRp0.out 0 p120 q120
     replace hx120_0 : _ = (some (.int .i64 a0_0) : Option Value) := hx120_0
     replace hx120_1 : _ = (some (.int .i64 a0_1) : Option Value) := hx120_1
     replace hx120_2 : _ = (some (.slice A120_2 l0_2.length c120_2) : Option Value) := hx120_2
     replace hi120_2 : Kd.C (Kd.int .i64) _ _ l0_2.length l0_2 := hi120_2
     replace hl120_2 : l0_2.length ≤ _ := hl120_2
     replace hx120_3 : _ = (some (.slice A120_3 l0_3.length c120_3) : Option Value) := hx120_3
     replace hi120_3 : Kd.C k63 _ _ l0_3.length l0_3 := hi120_3
     replace hl120_3 : l0_3.length ≤ _ := hl120_3
     obtain rfl : adp0 = ad120 := (by injection e120)
     have qi120 : (0 < [(⟨a0_0, a0_1, l0_2, l0_3⟩ : S31)].length) = True := eq_true (by simp)
     (try rw [show ((0 : Int)).toNat = 0 from rfl] at hx120_0)
     (try rw [show 0 * 4 = 0 from rfl] at hx120_0)
     (try rw [Addr.add_zero'] at hx120_0)
     (try rw [show ((0 : Int)).toNat = 0 from rfl] at hx120_1)
     (try rw [show 0 * 4 = 0 from rfl] at hx120_1)
     (try rw [Addr.add_zero'] at hx120_1)
     (try rw [show ((0 : Int)).toNat = 0 from rfl] at hx120_2)
     (try rw [show 0 * 4 = 0 from rfl] at hx120_2)
     (try rw [Addr.add_zero'] at hx120_2)
     (try rw [show ((0 : Int)).toNat = 0 from rfl] at hx120_3)
     (try rw [show 0 * 4 = 0 from rfl] at hx120_3)
     (try rw [Addr.add_zero'] at hx120_3)
     replace hx120_0 := (HB.out.cell (World.block_lt_of_cell? w _ hx120_0)).trans hx120_0
     replace hx120_1 := (HB.out.cell (World.block_lt_of_cell? w _ hx120_1)).trans hx120_1
     replace hx120_2 := (HB.out.cell (World.block_lt_of_cell? w _ hx120_2)).trans hx120_2
     replace hx120_3 := (HB.out.cell (World.block_lt_of_cell? w _ hx120_3)).trans hx120_3
     have HR120_2 := Aside0.mk hi120_2
     have HC120_2 := Aside0.mk hl120_2
     clear hi120_2 hl120_2
     have HR120_3 := Aside0.mk hi120_3
     have HC120_3 := Aside0.mk hl120_3
     clear hi120_3 hl120_3
     replace p120 := eq_true p120
     replace q120 := eq_true q120
     go_wp2_with (first | (go_at_call 66; (with_reducible refine (spec_l00In.calls a0_0 1 32 true _ A3.out).mono ?_); rintro e w' ⟨rfl, ⟨nd, rfl⟩⟩; (try first | exact ⟨rfl, _, World.drewN_drewN _ _ _⟩ | exact ⟨rfl, _, Eq.trans (World.drewN_drewN _ _ _) (congrArg (World.drewN _) (Nat.add_assoc _ _ _))⟩)) | (go_at_call 66; (with_reducible refine (spec_l00In.calls a0_1 0 (wrap64 (a0_0 - 1)) true _ A5.out).mono ?_); rintro e w' ⟨rfl, ⟨nd, rfl⟩⟩; (try first | exact ⟨rfl, _, World.drewN_drewN _ _ _⟩ | exact ⟨rfl, _, Eq.trans (World.drewN_drewN _ _ _) (congrArg (World.drewN _) (Nat.add_assoc _ _ _))⟩)) | (go_at_call 67; (with_reducible refine (spec_l00Rises.calls k _ _ l0_2 0 (wrap64 (a0_0 - 1)) true _ ?side1 ?side2 A7.out).mono ?_); (case side1 => repeat (first | exact (cB HR120_2.out (by repeat (first | (with_reducible first | exact HB.out | apply bA | apply bN | apply bD) | exact HB.out))) | (with_reducible refine cA ?_ _) | (with_reducible refine cN ?_ _) | (with_reducible refine cD ?_))); (case side2 => exact HC120_2.out); rintro e w' ⟨rfl, ⟨nd, rfl⟩⟩; (try first | exact ⟨rfl, _, World.drewN_drewN _ _ _⟩ | exact ⟨rfl, _, Eq.trans (World.drewN_drewN _ _ _) (congrArg (World.drewN _) (Nat.add_assoc _ _ _))⟩)))
     repeat (go_quiet (first | (go_at_call 66; (try simp only [iW]); (with_reducible refine (spec_l00In.calls a0_0 1 32 true _ A3.out).mono ?_); rintro e w' ⟨rfl, ⟨nd, rfl⟩⟩; (try first | exact ⟨rfl, _, World.drewN_drewN _ _ _⟩ | exact ⟨rfl, _, Eq.trans (World.drewN_drewN _ _ _) (congrArg (World.drewN _) (Nat.add_assoc _ _ _))⟩)) | (go_at_call 66; (try simp only [iW]); (with_reducible refine (spec_l00In.calls a0_1 0 (wrap64 (a0_0 - 1)) true _ A5.out).mono ?_); rintro e w' ⟨rfl, ⟨nd, rfl⟩⟩; (try first | exact ⟨rfl, _, World.drewN_drewN _ _ _⟩ | exact ⟨rfl, _, Eq.trans (World.drewN_drewN _ _ _) (congrArg (World.drewN _) (Nat.add_assoc _ _ _))⟩)) | (go_at_call 67; (try simp only [iW]); (with_reducible refine (spec_l00Rises.calls k _ _ l0_2 0 (wrap64 (a0_0 - 1)) true _ ?side1 ?side2 A7.out).mono ?_); (case side1 => repeat (first | exact (cB HR120_2.out (by repeat (first | (with_reducible first | exact HB.out | apply bA | apply bN | apply bD) | exact HB.out))) | (with_reducible refine cA ?_ _) | (with_reducible refine cN ?_ _) | (with_reducible refine cD ?_))); (case side2 => exact HC120_2.out); rintro e w' ⟨rfl, ⟨nd, rfl⟩⟩; (try first | exact ⟨rfl, _, World.drewN_drewN _ _ _⟩ | exact ⟨rfl, _, Eq.trans (World.drewN_drewN _ _ _) (congrArg (World.drewN _) (Nat.add_assoc _ _ _))⟩))); try go_wp2_with (first | (go_at_call 66; (try simp only [iW]); (with_reducible refine (spec_l00In.calls a0_0 1 32 true _ A3.out).mono ?_); rintro e w' ⟨rfl, ⟨nd, rfl⟩⟩; (try first | exact ⟨rfl, _, World.drewN_drewN _ _ _⟩ | exact ⟨rfl, _, Eq.trans (World.drewN_drewN _ _ _) (congrArg (World.drewN _) (Nat.add_assoc _ _ _))⟩)) | (go_at_call 66; (try simp only [iW]); (with_reducible refine (spec_l00In.calls a0_1 0 (wrap64 (a0_0 - 1)) true _ A5.out).mono ?_); rintro e w' ⟨rfl, ⟨nd, rfl⟩⟩; (try first | exact ⟨rfl, _, World.drewN_drewN _ _ _⟩ | exact ⟨rfl, _, Eq.trans (World.drewN_drewN _ _ _) (congrArg (World.drewN _) (Nat.add_assoc _ _ _))⟩)) | (go_at_call 67; (try simp only [iW]); (with_reducible refine (spec_l00Rises.calls k _ _ l0_2 0 (wrap64 (a0_0 - 1)) true _ ?side1 ?side2 A7.out).mono ?_); (case side1 => repeat (first | exact (cB HR120_2.out (by repeat (first | (with_reducible first | exact HB.out | apply bA | apply bN | apply bD) | exact HB.out))) | (with_reducible refine cA ?_ _) | (with_reducible refine cN ?_ _) | (with_reducible refine cD ?_))); (case side2 => exact HC120_2.out); rintro e w' ⟨rfl, ⟨nd, rfl⟩⟩; (try first | exact ⟨rfl, _, World.drewN_drewN _ _ _⟩ | exact ⟨rfl, _, Eq.trans (World.drewN_drewN _ _ _) (congrArg (World.drewN _) (Nat.add_assoc _ _ _))⟩))))
     go_meet
     case rel => exact ⟨_, (decide ((l0_3.length : Int) > 256)), (by first | rfl | (simp; done) | (simp [*]; done)), H', ⟨by first | omega | exact Nat.le_refl _⟩, ⟨by repeat (first | (with_reducible first | exact HB.out | apply bA | apply bN | apply bD) | exact HB.out)⟩⟩
    ·replace c8 := Bool.eq_false_iff.mpr c8
     subst c8
     have H1 : (spec_l07Ok.j0 k true a0_0 a0_1 l0_2 l0_3) = some r := by rw [if_neg (show ¬ (false = true) by decide)] at H; exact H
     clear H
     have H := H1
     clear H1
     have H' := Aside0.mk H
     clear H
     have p120 : 0 ≤ (0 : Int) := (by omega)
     have q120 : 0 < ([(⟨a0_0, a0_1, l0_2, l0_3⟩ : S31)].length : Int) := (by simp)
     obtain ⟨ad120, A120_2, c120_2, A120_3, c120_3, e120, hx120_0, hx120_1, hx120_2, hx120_3, hl120_2, hi120_2, hl120_3, hi120_3⟩ := at_T31 HRp0.out 0 p120 q120
     replace hx120_0 : _ = (some (.int .i64 a0_0) : Option Value) := hx120_0
     replace hx120_1 : _ = (some (.int .i64 a0_1) : Option Value) := hx120_1
     replace hx120_2 : _ = (some (.slice A120_2 l0_2.length c120_2) : Option Value) := hx120_2
     replace hi120_2 : Kd.C (Kd.int .i64) _ _ l0_2.length l0_2 := hi120_2
     replace hl120_2 : l0_2.length ≤ _ := hl120_2
     replace hx120_3 : _ = (some (.slice A120_3 l0_3.length c120_3) : Option Value) := hx120_3
     replace hi120_3 : Kd.C k63 _ _ l0_3.length l0_3 := hi120_3
     replace hl120_3 : l0_3.length ≤ _ := hl120_3
     obtain rfl : adp0 = ad120 := (by injection e120)
     have qi120 : (0 < [(⟨a0_0, a0_1, l0_2, l0_3⟩ : S31)].length) = True := eq_true (by simp)
     (try rw [show ((0 : Int)).toNat = 0 from rfl] at hx120_0)
     (try rw [show 0 * 4 = 0 from rfl] at hx120_0)
     (try rw [Addr.add_zero'] at hx120_0)
     (try rw [show ((0 : Int)).toNat = 0 from rfl] at hx120_1)
     (try rw [show 0 * 4 = 0 from rfl] at hx120_1)
     (try rw [Addr.add_zero'] at hx120_1)
     (try rw [show ((0 : Int)).toNat = 0 from rfl] at hx120_2)
     (try rw [show 0 * 4 = 0 from rfl] at hx120_2)
     (try rw [Addr.add_zero'] at hx120_2)
     (try rw [show ((0 : Int)).toNat = 0 from rfl] at hx120_3)
     (try rw [show 0 * 4 = 0 from rfl] at hx120_3)
     (try rw [Addr.add_zero'] at hx120_3)
     replace hx120_0 := (HB.out.cell (World.block_lt_of_cell? w _ hx120_0)).trans hx120_0
     replace hx120_1 := (HB.out.cell (World.block_lt_of_cell? w _ hx120_1)).trans hx120_1
     replace hx120_2 := (HB.out.cell (World.block_lt_of_cell? w _ hx120_2)).trans hx120_2
     replace hx120_3 := (HB.out.cell (World.block_lt_of_cell? w _ hx120_3)).trans hx120_3
     have HR120_2 := Aside0.mk hi120_2
     have HC120_2 := Aside0.mk hl120_2
     clear hi120_2 hl120_2
     have HR120_3 := Aside0.mk hi120_3
     have HC120_3 := Aside0.mk hl120_3
     clear hi120_3 hl120_3
     replace p120 := eq_true p120
     replace q120 := eq_true q120
     go_wp2_with (first | (go_at_call 66; (with_reducible refine (spec_l00In.calls a0_0 1 32 true _ A3.out).mono ?_); rintro e w' ⟨rfl, ⟨nd, rfl⟩⟩; (try first | exact ⟨rfl, _, World.drewN_drewN _ _ _⟩ | exact ⟨rfl, _, Eq.trans (World.drewN_drewN _ _ _) (congrArg (World.drewN _) (Nat.add_assoc _ _ _))⟩)) | (go_at_call 66; (with_reducible refine (spec_l00In.calls a0_1 0 (wrap64 (a0_0 - 1)) true _ A5.out).mono ?_); rintro e w' ⟨rfl, ⟨nd, rfl⟩⟩; (try first | exact ⟨rfl, _, World.drewN_drewN _ _ _⟩ | exact ⟨rfl, _, Eq.trans (World.drewN_drewN _ _ _) (congrArg (World.drewN _) (Nat.add_assoc _ _ _))⟩)) | (go_at_call 67; (with_reducible refine (spec_l00Rises.calls k _ _ l0_2 0 (wrap64 (a0_0 - 1)) false _ ?side1 ?side2 A7.out).mono ?_); (case side1 => repeat (first | exact (cB HR120_2.out (by repeat (first | (with_reducible first | exact HB.out | apply bA | apply bN | apply bD) | exact HB.out))) | (with_reducible refine cA ?_ _) | (with_reducible refine cN ?_ _) | (with_reducible refine cD ?_))); (case side2 => exact HC120_2.out); rintro e w' ⟨rfl, ⟨nd, rfl⟩⟩; (try first | exact ⟨rfl, _, World.drewN_drewN _ _ _⟩ | exact ⟨rfl, _, Eq.trans (World.drewN_drewN _ _ _) (congrArg (World.drewN _) (Nat.add_assoc _ _ _))⟩)))
     repeat (go_quiet (first | (go_at_call 66; (try simp only [iW]); (with_reducible refine (spec_l00In.calls a0_0 1 32 true _ A3.out).mono ?_); rintro e w' ⟨rfl, ⟨nd, rfl⟩⟩; (try first | exact ⟨rfl, _, World.drewN_drewN _ _ _⟩ | exact ⟨rfl, _, Eq.trans (World.drewN_drewN _ _ _) (congrArg (World.drewN _) (Nat.add_assoc _ _ _))⟩)) | (go_at_call 66; (try simp only [iW]); (with_reducible refine (spec_l00In.calls a0_1 0 (wrap64 (a0_0 - 1)) true _ A5.out).mono ?_); rintro e w' ⟨rfl, ⟨nd, rfl⟩⟩; (try first | exact ⟨rfl, _, World.drewN_drewN _ _ _⟩ | exact ⟨rfl, _, Eq.trans (World.drewN_drewN _ _ _) (congrArg (World.drewN _) (Nat.add_assoc _ _ _))⟩)) | (go_at_call 67; (try simp only [iW]); (with_reducible refine (spec_l00Rises.calls k _ _ l0_2 0 (wrap64 (a0_0 - 1)) false _ ?side1 ?side2 A7.out).mono ?_); (case side1 => repeat (first | exact (cB HR120_2.out (by repeat (first | (with_reducible first | exact HB.out | apply bA | apply bN | apply bD) | exact HB.out))) | (with_reducible refine cA ?_ _) | (with_reducible refine cN ?_ _) | (with_reducible refine cD ?_))); (case side2 => exact HC120_2.out); rintro e w' ⟨rfl, ⟨nd, rfl⟩⟩; (try first | exact ⟨rfl, _, World.drewN_drewN _ _ _⟩ | exact ⟨rfl, _, Eq.trans (World.drewN_drewN _ _ _) (congrArg (World.drewN _) (Nat.add_assoc _ _ _))⟩))); try go_wp2_with (first | (go_at_call 66; (try simp only [iW]); (with_reducible refine (spec_l00In.calls a0_0 1 32 true _ A3.out).mono ?_); rintro e w' ⟨rfl, ⟨nd, rfl⟩⟩; (try first | exact ⟨rfl, _, World.drewN_drewN _ _ _⟩ | exact ⟨rfl, _, Eq.trans (World.drewN_drewN _ _ _) (congrArg (World.drewN _) (Nat.add_assoc _ _ _))⟩)) | (go_at_call 66; (try simp only [iW]); (with_reducible refine (spec_l00In.calls a0_1 0 (wrap64 (a0_0 - 1)) true _ A5.out).mono ?_); rintro e w' ⟨rfl, ⟨nd, rfl⟩⟩; (try first | exact ⟨rfl, _, World.drewN_drewN _ _ _⟩ | exact ⟨rfl, _, Eq.trans (World.drewN_drewN _ _ _) (congrArg (World.drewN _) (Nat.add_assoc _ _ _))⟩)) | (go_at_call 67; (try simp only [iW]); (with_reducible refine (spec_l00Rises.calls k _ _ l0_2 0 (wrap64 (a0_0 - 1)) false _ ?side1 ?side2 A7.out).mono ?_); (case side1 => repeat (first | exact (cB HR120_2.out (by repeat (first | (with_reducible first | exact HB.out | apply bA | apply bN | apply bD) | exact HB.out))) | (with_reducible refine cA ?_ _) | (with_reducible refine cN ?_ _) | (with_reducible refine cD ?_))); (case side2 => exact HC120_2.out); rintro e w' ⟨rfl, ⟨nd, rfl⟩⟩; (try first | exact ⟨rfl, _, World.drewN_drewN _ _ _⟩ | exact ⟨rfl, _, Eq.trans (World.drewN_drewN _ _ _) (congrArg (World.drewN _) (Nat.add_assoc _ _ _))⟩))))
     go_meet
     case rel => exact ⟨_, (true), (by first | rfl | (simp; done) | (simp [*]; done)), H', ⟨by first | omega | exact Nat.le_refl _⟩, ⟨by repeat (first | (with_reducible first | exact HB.out | apply bA | apply bN | apply bD) | exact HB.out)⟩⟩
   ·replace c6 := Bool.eq_false_iff.mpr c6
    subst c6
    have H1 : (spec_l07Ok.j0 k true a0_0 a0_1 l0_2 l0_3) = some r := by rw [if_neg (show ¬ (false = true) by decide)] at H; exact H
    clear H
    have H := H1
    clear H1
    have H' := Aside0.mk H
    clear H
    have p120 : 0 ≤ (0 : Int) := (by omega)
    have q120 : 0 < ([(⟨a0_0, a0_1, l0_2, l0_3⟩ : S31)].length : Int) := (by simp)
    obtain ⟨ad120, A120_2, c120_2, A120_3, c120_3, e120, hx120_0, hx120_1, hx120_2, hx120_3, hl120_2, hi120_2, hl120_3, hi120_3⟩ := at_T31 HRp0.out 0 p120 q120
    replace hx120_0 : _ = (some (.int .i64 a0_0) : Option Value) := hx120_0
    replace hx120_1 : _ = (some (.int .i64 a0_1) : Option Value) := hx120_1
    replace hx120_2 : _ = (some (.slice A120_2 l0_2.length c120_2) : Option Value) := hx120_2
    replace hi120_2 : Kd.C (Kd.int .i64) _ _ l0_2.length l0_2 := hi120_2
    replace hl120_2 : l0_2.length ≤ _ := hl120_2
    replace hx120_3 : _ = (some (.slice A120_3 l0_3.length c120_3) : Option Value) := hx120_3
    replace hi120_3 : Kd.C k63 _ _ l0_3.length l0_3 := hi120_3
    replace hl120_3 : l0_3.length ≤ _ := hl120_3
    obtain rfl : adp0 = ad120 := (by injection e120)
    have qi120 : (0 < [(⟨a0_0, a0_1, l0_2, l0_3⟩ : S31)].length) = True := eq_true (by simp)
    (try rw [show ((0 : Int)).toNat = 0 from rfl] at hx120_0)
    (try rw [show 0 * 4 = 0 from rfl] at hx120_0)
    (try rw [Addr.add_zero'] at hx120_0)
    (try rw [show ((0 : Int)).toNat = 0 from rfl] at hx120_1)
    (try rw [show 0 * 4 = 0 from rfl] at hx120_1)
    (try rw [Addr.add_zero'] at hx120_1)
    (try rw [show ((0 : Int)).toNat = 0 from rfl] at hx120_2)
    (try rw [show 0 * 4 = 0 from rfl] at hx120_2)
    (try rw [Addr.add_zero'] at hx120_2)
    (try rw [show ((0 : Int)).toNat = 0 from rfl] at hx120_3)
    (try rw [show 0 * 4 = 0 from rfl] at hx120_3)
    (try rw [Addr.add_zero'] at hx120_3)
    replace hx120_0 := (HB.out.cell (World.block_lt_of_cell? w _ hx120_0)).trans hx120_0
    replace hx120_1 := (HB.out.cell (World.block_lt_of_cell? w _ hx120_1)).trans hx120_1
    replace hx120_2 := (HB.out.cell (World.block_lt_of_cell? w _ hx120_2)).trans hx120_2
    replace hx120_3 := (HB.out.cell (World.block_lt_of_cell? w _ hx120_3)).trans hx120_3
    have HR120_2 := Aside0.mk hi120_2
    have HC120_2 := Aside0.mk hl120_2
    clear hi120_2 hl120_2
    have HR120_3 := Aside0.mk hi120_3
    have HC120_3 := Aside0.mk hl120_3
    clear hi120_3 hl120_3
    replace p120 := eq_true p120
    replace q120 := eq_true q120
    go_wp2_with (first | (go_at_call 66; (with_reducible refine (spec_l00In.calls a0_0 1 32 true _ A3.out).mono ?_); rintro e w' ⟨rfl, ⟨nd, rfl⟩⟩; (try first | exact ⟨rfl, _, World.drewN_drewN _ _ _⟩ | exact ⟨rfl, _, Eq.trans (World.drewN_drewN _ _ _) (congrArg (World.drewN _) (Nat.add_assoc _ _ _))⟩)) | (go_at_call 66; (with_reducible refine (spec_l00In.calls a0_1 0 (wrap64 (a0_0 - 1)) false _ A5.out).mono ?_); rintro e w' ⟨rfl, ⟨nd, rfl⟩⟩; (try first | exact ⟨rfl, _, World.drewN_drewN _ _ _⟩ | exact ⟨rfl, _, Eq.trans (World.drewN_drewN _ _ _) (congrArg (World.drewN _) (Nat.add_assoc _ _ _))⟩)))
    repeat (go_quiet (first | (go_at_call 66; (try simp only [iW]); (with_reducible refine (spec_l00In.calls a0_0 1 32 true _ A3.out).mono ?_); rintro e w' ⟨rfl, ⟨nd, rfl⟩⟩; (try first | exact ⟨rfl, _, World.drewN_drewN _ _ _⟩ | exact ⟨rfl, _, Eq.trans (World.drewN_drewN _ _ _) (congrArg (World.drewN _) (Nat.add_assoc _ _ _))⟩)) | (go_at_call 66; (try simp only [iW]); (with_reducible refine (spec_l00In.calls a0_1 0 (wrap64 (a0_0 - 1)) false _ A5.out).mono ?_); rintro e w' ⟨rfl, ⟨nd, rfl⟩⟩; (try first | exact ⟨rfl, _, World.drewN_drewN _ _ _⟩ | exact ⟨rfl, _, Eq.trans (World.drewN_drewN _ _ _) (congrArg (World.drewN _) (Nat.add_assoc _ _ _))⟩))); try go_wp2_with (first | (go_at_call 66; (try simp only [iW]); (with_reducible refine (spec_l00In.calls a0_0 1 32 true _ A3.out).mono ?_); rintro e w' ⟨rfl, ⟨nd, rfl⟩⟩; (try first | exact ⟨rfl, _, World.drewN_drewN _ _ _⟩ | exact ⟨rfl, _, Eq.trans (World.drewN_drewN _ _ _) (congrArg (World.drewN _) (Nat.add_assoc _ _ _))⟩)) | (go_at_call 66; (try simp only [iW]); (with_reducible refine (spec_l00In.calls a0_1 0 (wrap64 (a0_0 - 1)) false _ A5.out).mono ?_); rintro e w' ⟨rfl, ⟨nd, rfl⟩⟩; (try first | exact ⟨rfl, _, World.drewN_drewN _ _ _⟩ | exact ⟨rfl, _, Eq.trans (World.drewN_drewN _ _ _) (congrArg (World.drewN _) (Nat.add_assoc _ _ _))⟩))))
    go_meet
    case rel => exact ⟨_, (true), (by first | rfl | (simp; done) | (simp [*]; done)), H', ⟨by first | omega | exact Nat.le_refl _⟩, ⟨by repeat (first | (with_reducible first | exact HB.out | apply bA | apply bN | apply bD) | exact HB.out)⟩⟩
  ·replace c4 := Bool.eq_false_iff.mpr c4
   subst c4
   have H1 : (spec_l07Ok.j0 k true a0_0 a0_1 l0_2 l0_3) = some r := by rw [if_neg (show ¬ (false = true) by decide)] at H; exact H
   clear H
   have H := H1
   clear H1
   have H' := Aside0.mk H
   clear H
   have p120 : 0 ≤ (0 : Int) := (by omega)
   have q120 : 0 < ([(⟨a0_0, a0_1, l0_2, l0_3⟩ : S31)].length : Int) := (by simp)
   obtain ⟨ad120, A120_2, c120_2, A120_3, c120_3, e120, hx120_0, hx120_1, hx120_2, hx120_3, hl120_2, hi120_2, hl120_3, hi120_3⟩ := at_T31 HRp0.out 0 p120 q120
   replace hx120_0 : _ = (some (.int .i64 a0_0) : Option Value) := hx120_0
   replace hx120_1 : _ = (some (.int .i64 a0_1) : Option Value) := hx120_1
   replace hx120_2 : _ = (some (.slice A120_2 l0_2.length c120_2) : Option Value) := hx120_2
   replace hi120_2 : Kd.C (Kd.int .i64) _ _ l0_2.length l0_2 := hi120_2
   replace hl120_2 : l0_2.length ≤ _ := hl120_2
   replace hx120_3 : _ = (some (.slice A120_3 l0_3.length c120_3) : Option Value) := hx120_3
   replace hi120_3 : Kd.C k63 _ _ l0_3.length l0_3 := hi120_3
   replace hl120_3 : l0_3.length ≤ _ := hl120_3
   obtain rfl : adp0 = ad120 := (by injection e120)
   have qi120 : (0 < [(⟨a0_0, a0_1, l0_2, l0_3⟩ : S31)].length) = True := eq_true (by simp)
   (try rw [show ((0 : Int)).toNat = 0 from rfl] at hx120_0)
   (try rw [show 0 * 4 = 0 from rfl] at hx120_0)
   (try rw [Addr.add_zero'] at hx120_0)
   (try rw [show ((0 : Int)).toNat = 0 from rfl] at hx120_1)
   (try rw [show 0 * 4 = 0 from rfl] at hx120_1)
   (try rw [Addr.add_zero'] at hx120_1)
   (try rw [show ((0 : Int)).toNat = 0 from rfl] at hx120_2)
   (try rw [show 0 * 4 = 0 from rfl] at hx120_2)
   (try rw [Addr.add_zero'] at hx120_2)
   (try rw [show ((0 : Int)).toNat = 0 from rfl] at hx120_3)
   (try rw [show 0 * 4 = 0 from rfl] at hx120_3)
   (try rw [Addr.add_zero'] at hx120_3)
   replace hx120_0 := (HB.out.cell (World.block_lt_of_cell? w _ hx120_0)).trans hx120_0
   replace hx120_1 := (HB.out.cell (World.block_lt_of_cell? w _ hx120_1)).trans hx120_1
   replace hx120_2 := (HB.out.cell (World.block_lt_of_cell? w _ hx120_2)).trans hx120_2
   replace hx120_3 := (HB.out.cell (World.block_lt_of_cell? w _ hx120_3)).trans hx120_3
   have HR120_2 := Aside0.mk hi120_2
   have HC120_2 := Aside0.mk hl120_2
   clear hi120_2 hl120_2
   have HR120_3 := Aside0.mk hi120_3
   have HC120_3 := Aside0.mk hl120_3
   clear hi120_3 hl120_3
   replace p120 := eq_true p120
   replace q120 := eq_true q120
   go_wp2_with (first | (go_at_call 66; (with_reducible refine (spec_l00In.calls a0_0 1 32 false _ A3.out).mono ?_); rintro e w' ⟨rfl, ⟨nd, rfl⟩⟩; (try first | exact ⟨rfl, _, World.drewN_drewN _ _ _⟩ | exact ⟨rfl, _, Eq.trans (World.drewN_drewN _ _ _) (congrArg (World.drewN _) (Nat.add_assoc _ _ _))⟩)))
   repeat (go_quiet (first | (go_at_call 66; (try simp only [iW]); (with_reducible refine (spec_l00In.calls a0_0 1 32 false _ A3.out).mono ?_); rintro e w' ⟨rfl, ⟨nd, rfl⟩⟩; (try first | exact ⟨rfl, _, World.drewN_drewN _ _ _⟩ | exact ⟨rfl, _, Eq.trans (World.drewN_drewN _ _ _) (congrArg (World.drewN _) (Nat.add_assoc _ _ _))⟩))); try go_wp2_with (first | (go_at_call 66; (try simp only [iW]); (with_reducible refine (spec_l00In.calls a0_0 1 32 false _ A3.out).mono ?_); rintro e w' ⟨rfl, ⟨nd, rfl⟩⟩; (try first | exact ⟨rfl, _, World.drewN_drewN _ _ _⟩ | exact ⟨rfl, _, Eq.trans (World.drewN_drewN _ _ _) (congrArg (World.drewN _) (Nat.add_assoc _ _ _))⟩))))
   go_meet
   case rel => exact ⟨_, (true), (by first | rfl | (simp; done) | (simp [*]; done)), H', ⟨by first | omega | exact Nat.le_refl _⟩, ⟨by repeat (first | (with_reducible first | exact HB.out | apply bA | apply bN | apply bD) | exact HB.out)⟩⟩
 case rest =>
  clear HC2
  try clear c1
  try clear p1
  try clear q1
  try clear hx1
  try clear qi1
  try clear p2
  try clear c3
  try clear c4
  try clear c6
  try clear p6
  try clear c8
  try clear hx120_0
  try clear hx120_1
  try clear hx120_2
  try clear hx120_3
  try clear p120
  try clear q120
  obtain ⟨kq, x44_1, rfl, HA, HJ1, HB⟩ := hcut
  cases kq with
  | zero => exact absurd HA.out (by simp [spec_l07Ok.j0])
  | succ kj1 =>
   have H := HA.out
   clear HA
   simp only [spec_l07Ok.j0] at H
   by_cases c9 : x44_1 = true
   ·subst c9
    have H1 : (some false) = some r := by rw [if_pos rfl] at H; exact H
    clear H
    have H := H1
    clear H1
    obtain rfl := Option.some.inj H
    go_wp2
    repeat (go_quiet (fail); try go_wp2)
    go_ret
    exact ⟨by first | rfl | (simp [errW_none, errW_some] <;> rfl) | (simp [*, errW_none, errW_some] <;> rfl), by repeat (first | (with_reducible first | exact HB.out | apply bA | apply bN | apply bD) | exact HB.out)⟩
   ·replace c9 := Bool.eq_false_iff.mpr c9
    subst c9
    have H1 : (spec_l07Ok.l0 kj1 0 a0_0 a0_1 l0_2 l0_3) = some r := by rw [if_neg (show ¬ (false = true) by decide)] at H; exact H
    clear H
    have H := H1
    clear H1
    have H' := Aside0.mk H
    clear H
    go_wp2
    repeat (go_quiet (fail); try go_wp2)
    go_loopg [3] kj1 (fun kq v3 w' => ∃ (x3_2 : Int), v3 = .int .i64 x3_2 ∧ Aside0 (spec_l07Ok.l0 kq x3_2 a0_0 a0_1 l0_2 l0_3 = some r) ∧ Aside0 (kq ≤ kj1) ∧ Aside0 (Below w.heap.size w w'))
    case atStart => exact ⟨(0), (by first | rfl | (simp; done) | (simp [*]; done)), H', ⟨Nat.le_refl _⟩, ⟨by repeat (first | (with_reducible first | exact HB.out | apply bA | apply bN | apply bD) | exact HB.out)⟩⟩
    case round =>
     clear H'
     try clear c1
     try clear p1
     try clear q1
     try clear hx1
     try clear qi1
     try clear p2
     try clear c3
     try clear c4
     try clear c6
     try clear p6
     try clear c8
     try clear c9
     try clear hx120_0
     try clear hx120_1
     try clear hx120_2
     try clear hx120_3
     try clear p1
     try clear p120
     try clear p2
     try clear p6
     try clear q1
     try clear q120
     obtain ⟨x3_2, rfl, HA, HK2, HB⟩ := hrel
     cases gk with
     | zero => exact absurd HA.out (by simp [spec_l07Ok.l0])
     | succ k2 =>
      have H := HA.out
      clear HA
      simp only [spec_l07Ok.l0] at H
      by_cases c10 : x3_2 < (l0_3.length : Int)
      ·rw [if_pos c10] at H
       have c10b0 : decide (x3_2 < (l0_3.length : Int)) = true := decide_eq_true c10
       clear c10
       by_cases c11 : 0 ≤ x3_2
       ·rw [if_pos c11] at H
        have c11b0 : decide (0 ≤ x3_2) = true := decide_eq_true c11
        clear c11
        have HC12 := Aside0.mk H
        clear H
        have p124 : 0 ≤ (0 : Int) := (by omega)
        have q124 : 0 < ([(⟨a0_0, a0_1, l0_2, l0_3⟩ : S31)].length : Int) := (by simp)
        obtain ⟨ad124, A124_2, c124_2, A124_3, c124_3, e124, hx124_0, hx124_1, hx124_2, hx124_3, hl124_2, hi124_2, hl124_3, hi124_3⟩ := at_T31 HRp0.out 0 p124 q124
        replace hx124_0 : _ = (some (.int .i64 a0_0) : Option Value) := hx124_0
        replace hx124_1 : _ = (some (.int .i64 a0_1) : Option Value) := hx124_1
        replace hx124_2 : _ = (some (.slice A124_2 l0_2.length c124_2) : Option Value) := hx124_2
        replace hi124_2 : Kd.C (Kd.int .i64) _ _ l0_2.length l0_2 := hi124_2
        replace hl124_2 : l0_2.length ≤ _ := hl124_2
        replace hx124_3 : _ = (some (.slice A124_3 l0_3.length c124_3) : Option Value) := hx124_3
        replace hi124_3 : Kd.C k63 _ _ l0_3.length l0_3 := hi124_3
        replace hl124_3 : l0_3.length ≤ _ := hl124_3
        obtain rfl : adp0 = ad124 := (by injection e124)
        have qi124 : (0 < [(⟨a0_0, a0_1, l0_2, l0_3⟩ : S31)].length) = True := eq_true (by simp)
        (try rw [show ((0 : Int)).toNat = 0 from rfl] at hx124_0)
        (try rw [show 0 * 4 = 0 from rfl] at hx124_0)
        (try rw [Addr.add_zero'] at hx124_0)
        (try rw [show ((0 : Int)).toNat = 0 from rfl] at hx124_1)
        (try rw [show 0 * 4 = 0 from rfl] at hx124_1)
        (try rw [Addr.add_zero'] at hx124_1)
        (try rw [show ((0 : Int)).toNat = 0 from rfl] at hx124_2)
        (try rw [show 0 * 4 = 0 from rfl] at hx124_2)
        (try rw [Addr.add_zero'] at hx124_2)
        (try rw [show ((0 : Int)).toNat = 0 from rfl] at hx124_3)
        (try rw [show 0 * 4 = 0 from rfl] at hx124_3)
        (try rw [Addr.add_zero'] at hx124_3)
        replace hx124_0 := (HB.out.cell (World.block_lt_of_cell? w _ hx124_0)).trans hx124_0
        replace hx124_1 := (HB.out.cell (World.block_lt_of_cell? w _ hx124_1)).trans hx124_1
        replace hx124_2 := (HB.out.cell (World.block_lt_of_cell? w _ hx124_2)).trans hx124_2
        replace hx124_3 := (HB.out.cell (World.block_lt_of_cell? w _ hx124_3)).trans hx124_3
        have HR124_2 := Aside0.mk hi124_2
        have HC124_2 := Aside0.mk hl124_2
        clear hi124_2 hl124_2
        have HR124_3 := Aside0.mk hi124_3
        have HC124_3 := Aside0.mk hl124_3
        clear hi124_3 hl124_3
        replace p124 := eq_true p124
        replace q124 := eq_true q124
        have p125 : 0 ≤ (x3_2 : Int) := of_decide_eq_true (by first | (with_reducible assumption) | assumption)
        have q125 : x3_2 < (l0_3.length : Int) := of_decide_eq_true (by first | (with_reducible assumption) | assumption)
        obtain ⟨ad125, e125, hx125_0, hx125_1, hx125_2⟩ := at_T63 HR124_3.out x3_2 p125 q125
        cases e125
        replace hx125_0 := (HB.out.cell (World.block_lt_of_cell? w _ hx125_0)).trans hx125_0
        replace hx125_1 := (HB.out.cell (World.block_lt_of_cell? w _ hx125_1)).trans hx125_1
        replace hx125_2 := (HB.out.cell (World.block_lt_of_cell? w _ hx125_2)).trans hx125_2
        replace p125 := eq_true p125
        replace q125 := eq_true q125
        go_upto_region 7 with (first | ((with_reducible refine gate_dst (N := 4) rfl ?_); (try (refine gate_guard (by rfl) ?_; dsimp only)); refine bE ?hg (N := 4) ?hd (cs := #[.int .i64 0, .int .i64 0, .int .i64 0]) (t := 63) ?hr ?_; (case hd => rfl); (case hg => rfl); (case hr => first | (go_simp; done) | (go_simp; rfl)); intro gb126 hg w13 hbox hb; have n0_ := Aside0.mk (bP (by repeat (first | (with_reducible first | exact HB.out | apply bA | apply bN | apply bD) | exact HB.out)) hb); have n1_ := Aside0.mk (hbox); have n2_ := Aside0.mk ((by rw [hg]; exact (bZ (by repeat (first | (with_reducible first | exact HB.out | apply bA | apply bN | apply bD) | exact HB.out))) : w.heap.size ≤ gb126)); have n3_ := Aside0.mk ((by rw [hg]; exact (bZ (by repeat (first | (with_reducible first | exact HB.out | apply bA | apply bN | apply bD) | exact HB.out))) : w.heap.size ≤ gb126)); clear HB; have HB := n0_; have BK126 := n1_; have GW126 := n2_; have GE126 := n3_; clear n0_ n1_ n2_ n3_; clear hb hbox hg; have hcz14_0 : w13.cell? ⟨gb126, 0, none⟩ = some (.int .i64 0) := (kC BK126.out 0).trans rfl; have hcz14_1 : w13.cell? ⟨gb126, 1, none⟩ = some (.int .i64 0) := (kC BK126.out 1).trans rfl; have hcz14_2 : w13.cell? ⟨gb126, 2, none⟩ = some (.int .i64 0) := (kC BK126.out 2).trans rfl; have hfz14_0 := blk_frozen BK126.out 0; have hfz14_1 := blk_frozen BK126.out 1; have hfz14_2 := blk_frozen BK126.out 2))
        repeat (go_quiet (first | ((with_reducible refine gate_dst (N := 4) rfl ?_); (try (refine gate_guard (by rfl) ?_; dsimp only)); refine bE ?hg (N := 4) ?hd (cs := #[.int .i64 0, .int .i64 0, .int .i64 0]) (t := 63) ?hr ?_; (case hd => rfl); (case hg => rfl); (case hr => first | (go_simp; done) | (go_simp; rfl)); intro gb126 hg w13 hbox hb; have n0_ := Aside0.mk (bP (by repeat (first | (with_reducible first | exact HB.out | apply bA | apply bN | apply bD) | exact HB.out)) hb); have n1_ := Aside0.mk (hbox); have n2_ := Aside0.mk ((by rw [hg]; exact (bZ (by repeat (first | (with_reducible first | exact HB.out | apply bA | apply bN | apply bD) | exact HB.out))) : w.heap.size ≤ gb126)); have n3_ := Aside0.mk ((by rw [hg]; exact (bZ (by repeat (first | (with_reducible first | exact HB.out | apply bA | apply bN | apply bD) | exact HB.out))) : w.heap.size ≤ gb126)); clear HB; have HB := n0_; have BK126 := n1_; have GW126 := n2_; have GE126 := n3_; clear n0_ n1_ n2_ n3_; clear hb hbox hg; have hcz14_0 : w13.cell? ⟨gb126, 0, none⟩ = some (.int .i64 0) := (kC BK126.out 0).trans rfl; have hcz14_1 : w13.cell? ⟨gb126, 1, none⟩ = some (.int .i64 0) := (kC BK126.out 1).trans rfl; have hcz14_2 : w13.cell? ⟨gb126, 2, none⟩ = some (.int .i64 0) := (kC BK126.out 2).trans rfl; have hfz14_0 := blk_frozen BK126.out 0; have hfz14_1 := blk_frozen BK126.out 1; have hfz14_2 := blk_frozen BK126.out 2)); go_upto_region 7 with (first | ((with_reducible refine gate_dst (N := 4) rfl ?_); (try (refine gate_guard (by rfl) ?_; dsimp only)); refine bE ?hg (N := 4) ?hd (cs := #[.int .i64 0, .int .i64 0, .int .i64 0]) (t := 63) ?hr ?_; (case hd => rfl); (case hg => rfl); (case hr => first | (go_simp; done) | (go_simp; rfl)); intro gb126 hg w13 hbox hb; have n0_ := Aside0.mk (bP (by repeat (first | (with_reducible first | exact HB.out | apply bA | apply bN | apply bD) | exact HB.out)) hb); have n1_ := Aside0.mk (hbox); have n2_ := Aside0.mk ((by rw [hg]; exact (bZ (by repeat (first | (with_reducible first | exact HB.out | apply bA | apply bN | apply bD) | exact HB.out))) : w.heap.size ≤ gb126)); have n3_ := Aside0.mk ((by rw [hg]; exact (bZ (by repeat (first | (with_reducible first | exact HB.out | apply bA | apply bN | apply bD) | exact HB.out))) : w.heap.size ≤ gb126)); clear HB; have HB := n0_; have BK126 := n1_; have GW126 := n2_; have GE126 := n3_; clear n0_ n1_ n2_ n3_; clear hb hbox hg; have hcz14_0 : w13.cell? ⟨gb126, 0, none⟩ = some (.int .i64 0) := (kC BK126.out 0).trans rfl; have hcz14_1 : w13.cell? ⟨gb126, 1, none⟩ = some (.int .i64 0) := (kC BK126.out 1).trans rfl; have hcz14_2 : w13.cell? ⟨gb126, 2, none⟩ = some (.int .i64 0) := (kC BK126.out 2).trans rfl; have hfz14_0 := blk_frozen BK126.out 0; have hfz14_1 := blk_frozen BK126.out 1; have hfz14_2 := blk_frozen BK126.out 2)))
        (try simp only [Act.put, sI, sZ, sS])
        go_cut [86] (fun v86 wc => ∃ (kq : Nat) (x86_11 : Bool), v86 = .bool x86_11 ∧ Aside0 (spec_l07Ok.j2 kq x3_2 x86_11 a0_0 a0_1 l0_2 l0_3 ((rd_T63 l0_3 x3_2).f0) ((rd_T63 l0_3 x3_2).f1) ((rd_T63 l0_3 x3_2).f2) = some r) ∧ Aside0 (kq ≤ k2) ∧ Aside0 (wc.heap[gb126]? = some (.cells #[.int .i64 ((rd_T63 l0_3 x3_2).f0), .int .i64 ((rd_T63 l0_3 x3_2).f1), .int .i64 ((rd_T63 l0_3 x3_2).f2)] 63 (0, 0))) ∧ Aside0 (Below w.heap.size w wc))
        case first =>
         have H := HC12.out
         clear HC12
         replace H := Option.bind_eq_some_iff.mp H
         obtain ⟨t127, A150, H⟩ := H
         replace H : (if t127 = true then ((spec_l03Pitch.f ((rd_T63 l0_3 x3_2).f1)).bind fun t128 => (if t128 = true then ((spec_l00In.f ((rd_T63 l0_3 x3_2).f2) 0 (wrap64 (a0_0 - 1))).bind fun t129 => (spec_l07Ok.j2 k2 x3_2 (!t129) a0_0 a0_1 l0_2 l0_3 ((rd_T63 l0_3 x3_2).f0) ((rd_T63 l0_3 x3_2).f1) ((rd_T63 l0_3 x3_2).f2))) else (spec_l07Ok.j2 k2 x3_2 true a0_0 a0_1 l0_2 l0_3 ((rd_T63 l0_3 x3_2).f0) ((rd_T63 l0_3 x3_2).f1) ((rd_T63 l0_3 x3_2).f2)))) else (spec_l07Ok.j2 k2 x3_2 true a0_0 a0_1 l0_2 l0_3 ((rd_T63 l0_3 x3_2).f0) ((rd_T63 l0_3 x3_2).f1) ((rd_T63 l0_3 x3_2).f2))) = some r := H
         have A15 := Aside0.mk A150
         clear A150
         by_cases c16 : t127 = true
         ·subst c16
          have H1 : ((spec_l03Pitch.f ((rd_T63 l0_3 x3_2).f1)).bind fun t128 => (if t128 = true then ((spec_l00In.f ((rd_T63 l0_3 x3_2).f2) 0 (wrap64 (a0_0 - 1))).bind fun t129 => (spec_l07Ok.j2 k2 x3_2 (!t129) a0_0 a0_1 l0_2 l0_3 ((rd_T63 l0_3 x3_2).f0) ((rd_T63 l0_3 x3_2).f1) ((rd_T63 l0_3 x3_2).f2))) else (spec_l07Ok.j2 k2 x3_2 true a0_0 a0_1 l0_2 l0_3 ((rd_T63 l0_3 x3_2).f0) ((rd_T63 l0_3 x3_2).f1) ((rd_T63 l0_3 x3_2).f2)))) = some r := by rw [if_pos rfl] at H; exact H
          clear H
          have H := H1
          clear H1
          replace H := Option.bind_eq_some_iff.mp H
          obtain ⟨t128, A170, H⟩ := H
          replace H : (if t128 = true then ((spec_l00In.f ((rd_T63 l0_3 x3_2).f2) 0 (wrap64 (a0_0 - 1))).bind fun t129 => (spec_l07Ok.j2 k2 x3_2 (!t129) a0_0 a0_1 l0_2 l0_3 ((rd_T63 l0_3 x3_2).f0) ((rd_T63 l0_3 x3_2).f1) ((rd_T63 l0_3 x3_2).f2))) else (spec_l07Ok.j2 k2 x3_2 true a0_0 a0_1 l0_2 l0_3 ((rd_T63 l0_3 x3_2).f0) ((rd_T63 l0_3 x3_2).f1) ((rd_T63 l0_3 x3_2).f2))) = some r := H
          have A17 := Aside0.mk A170
          clear A170
          by_cases c18 : t128 = true
          ·subst c18
           have H1 : ((spec_l00In.f ((rd_T63 l0_3 x3_2).f2) 0 (wrap64 (a0_0 - 1))).bind fun t129 => (spec_l07Ok.j2 k2 x3_2 (!t129) a0_0 a0_1 l0_2 l0_3 ((rd_T63 l0_3 x3_2).f0) ((rd_T63 l0_3 x3_2).f1) ((rd_T63 l0_3 x3_2).f2))) = some r := by rw [if_pos rfl] at H; exact H
           clear H
           have H := H1
           clear H1
           replace H := Option.bind_eq_some_iff.mp H
           obtain ⟨t129, A190, H⟩ := H
           replace H : (spec_l07Ok.j2 k2 x3_2 (!t129) a0_0 a0_1 l0_2 l0_3 ((rd_T63 l0_3 x3_2).f0) ((rd_T63 l0_3 x3_2).f1) ((rd_T63 l0_3 x3_2).f2)) = some r := H
           have A19 := Aside0.mk A190
           clear A190
           have H' := Aside0.mk H
           clear H
           have hcz20_0 : w13.cell? ⟨gb126, 0, none⟩ = some (.int .i64 0) := (kC BK126.out 0).trans rfl
           have hcz20_1 : w13.cell? ⟨gb126, 1, none⟩ = some (.int .i64 0) := (kC BK126.out 1).trans rfl
           have hcz20_2 : w13.cell? ⟨gb126, 2, none⟩ = some (.int .i64 0) := (kC BK126.out 2).trans rfl
           have hfz20_0 := blk_frozen BK126.out 0
           have hfz20_1 := blk_frozen BK126.out 1
           have hfz20_2 := blk_frozen BK126.out 2
           go_wp2_with (first | (go_at_call 66; (with_reducible refine (spec_l00In.calls ((rd_T63 l0_3 x3_2).f0) 0 (wrap64 (a0_0 - 1)) true _ A15.out).mono ?_); rintro e w' ⟨rfl, ⟨nd, rfl⟩⟩; (try first | exact ⟨rfl, _, World.drewN_drewN _ _ _⟩ | exact ⟨rfl, _, Eq.trans (World.drewN_drewN _ _ _) (congrArg (World.drewN _) (Nat.add_assoc _ _ _))⟩)) | (go_at_call 68; (with_reducible refine (spec_l03Pitch.calls ((rd_T63 l0_3 x3_2).f1) true _ A17.out).mono ?_); rintro e w' ⟨rfl, ⟨nd, rfl⟩⟩; (try first | exact ⟨rfl, _, World.drewN_drewN _ _ _⟩ | exact ⟨rfl, _, Eq.trans (World.drewN_drewN _ _ _) (congrArg (World.drewN _) (Nat.add_assoc _ _ _))⟩)) | (go_at_call 66; (with_reducible refine (spec_l00In.calls ((rd_T63 l0_3 x3_2).f2) 0 (wrap64 (a0_0 - 1)) t129 _ A19.out).mono ?_); rintro e w' ⟨rfl, ⟨nd, rfl⟩⟩; (try first | exact ⟨rfl, _, World.drewN_drewN _ _ _⟩ | exact ⟨rfl, _, Eq.trans (World.drewN_drewN _ _ _) (congrArg (World.drewN _) (Nat.add_assoc _ _ _))⟩)))
           have pz_ : 0 ≤ (0 : Int) := (by omega)
           have qz_ : 0 < ([(⟨a0_0, a0_1, l0_2, l0_3⟩ : S31)].length : Int) := (by simp)
           obtain ⟨adz_, Az2_, cz2_, Az3_, cz3_, ez_, hz0_, hz1_, hz2_, hz3_, _, _, _, _⟩ := at_T31 HRp0.out 0 pz_ qz_
           obtain rfl : adp0 = adz_ := (by injection ez_)
           replace hz0_ : _ = (some (.int .i64 a0_0) : Option Value) := hz0_
           (try rw [show ((0 : Int)).toNat = 0 from rfl] at hz0_)
           (try rw [show 0 * 4 = 0 from rfl] at hz0_)
           (try rw [Addr.add_zero'] at hz0_)
           have hne_ : ∀ o : Nat, ((⟨gb126, o, none⟩ : Addr) = adp0) = False := fun o => eq_false (by rintro rfl; exact absurd (World.block_lt_of_cell? w _ hz0_) (Nat.not_lt.2 GE126.out))
           have hy0_ := (HB.out.cell (World.block_lt_of_cell? w _ hz0_)).trans hz0_
           clear hz0_ hz1_ hz2_ hz3_ pz_ qz_ ez_
           repeat (go_quiet (first | (go_at_call 66; (try simp only [iW]); (with_reducible refine (spec_l00In.calls ((rd_T63 l0_3 x3_2).f0) 0 (wrap64 (a0_0 - 1)) true _ A15.out).mono ?_); rintro e w' ⟨rfl, ⟨nd, rfl⟩⟩; (try first | exact ⟨rfl, _, World.drewN_drewN _ _ _⟩ | exact ⟨rfl, _, Eq.trans (World.drewN_drewN _ _ _) (congrArg (World.drewN _) (Nat.add_assoc _ _ _))⟩)) | (go_at_call 68; (try simp only [iW]); (with_reducible refine (spec_l03Pitch.calls ((rd_T63 l0_3 x3_2).f1) true _ A17.out).mono ?_); rintro e w' ⟨rfl, ⟨nd, rfl⟩⟩; (try first | exact ⟨rfl, _, World.drewN_drewN _ _ _⟩ | exact ⟨rfl, _, Eq.trans (World.drewN_drewN _ _ _) (congrArg (World.drewN _) (Nat.add_assoc _ _ _))⟩)) | (go_at_call 66; (try simp only [iW]); (with_reducible refine (spec_l00In.calls ((rd_T63 l0_3 x3_2).f2) 0 (wrap64 (a0_0 - 1)) t129 _ A19.out).mono ?_); rintro e w' ⟨rfl, ⟨nd, rfl⟩⟩; (try first | exact ⟨rfl, _, World.drewN_drewN _ _ _⟩ | exact ⟨rfl, _, Eq.trans (World.drewN_drewN _ _ _) (congrArg (World.drewN _) (Nat.add_assoc _ _ _))⟩))); try go_wp2_with (first | (go_at_call 66; (try simp only [iW]); (with_reducible refine (spec_l00In.calls ((rd_T63 l0_3 x3_2).f0) 0 (wrap64 (a0_0 - 1)) true _ A15.out).mono ?_); rintro e w' ⟨rfl, ⟨nd, rfl⟩⟩; (try first | exact ⟨rfl, _, World.drewN_drewN _ _ _⟩ | exact ⟨rfl, _, Eq.trans (World.drewN_drewN _ _ _) (congrArg (World.drewN _) (Nat.add_assoc _ _ _))⟩)) | (go_at_call 68; (try simp only [iW]); (with_reducible refine (spec_l03Pitch.calls ((rd_T63 l0_3 x3_2).f1) true _ A17.out).mono ?_); rintro e w' ⟨rfl, ⟨nd, rfl⟩⟩; (try first | exact ⟨rfl, _, World.drewN_drewN _ _ _⟩ | exact ⟨rfl, _, Eq.trans (World.drewN_drewN _ _ _) (congrArg (World.drewN _) (Nat.add_assoc _ _ _))⟩)) | (go_at_call 66; (try simp only [iW]); (with_reducible refine (spec_l00In.calls ((rd_T63 l0_3 x3_2).f2) 0 (wrap64 (a0_0 - 1)) t129 _ A19.out).mono ?_); rintro e w' ⟨rfl, ⟨nd, rfl⟩⟩; (try first | exact ⟨rfl, _, World.drewN_drewN _ _ _⟩ | exact ⟨rfl, _, Eq.trans (World.drewN_drewN _ _ _) (congrArg (World.drewN _) (Nat.add_assoc _ _ _))⟩))))
           go_meet
           case rel => exact ⟨_, (!t129), (by first | rfl | (simp; done) | (simp [*]; done)), H', ⟨by have := HJ1.out; have := HK2.out; first | omega | exact Nat.le_refl _⟩, ⟨by (with_reducible repeat (first | refine kN ?_ _ | refine kD ?_ | refine kA ?_ _)); refine blk_put (cs := #[.int .i64 ((rd_T63 l0_3 x3_2).f0), .int .i64 ((rd_T63 l0_3 x3_2).f1), .int .i64 0]) ?_ 2 _ rfl; (with_reducible repeat (first | refine kN ?_ _ | refine kD ?_ | refine kA ?_ _)); refine blk_put (cs := #[.int .i64 ((rd_T63 l0_3 x3_2).f0), .int .i64 0, .int .i64 0]) ?_ 1 _ rfl; (with_reducible repeat (first | refine kN ?_ _ | refine kD ?_ | refine kA ?_ _)); refine blk_put (cs := #[.int .i64 0, .int .i64 0, .int .i64 0]) ?_ 0 _ rfl; (with_reducible repeat (first | refine kN ?_ _ | refine kD ?_ | refine kA ?_ _)); exact BK126.out⟩, ⟨by repeat (first | (with_reducible first | exact HB.out | apply bA | apply bN | apply bD | refine bS ?_ GE126.out) | exact HB.out)⟩⟩
          ·replace c18 := Bool.eq_false_iff.mpr c18
           subst c18
           have H1 : (spec_l07Ok.j2 k2 x3_2 true a0_0 a0_1 l0_2 l0_3 ((rd_T63 l0_3 x3_2).f0) ((rd_T63 l0_3 x3_2).f1) ((rd_T63 l0_3 x3_2).f2)) = some r := by rw [if_neg (show ¬ (false = true) by decide)] at H; exact H
           clear H
           have H := H1
           clear H1
           have H' := Aside0.mk H
           clear H
           have hcz21_0 : w13.cell? ⟨gb126, 0, none⟩ = some (.int .i64 0) := (kC BK126.out 0).trans rfl
           have hcz21_1 : w13.cell? ⟨gb126, 1, none⟩ = some (.int .i64 0) := (kC BK126.out 1).trans rfl
           have hcz21_2 : w13.cell? ⟨gb126, 2, none⟩ = some (.int .i64 0) := (kC BK126.out 2).trans rfl
           have hfz21_0 := blk_frozen BK126.out 0
           have hfz21_1 := blk_frozen BK126.out 1
           have hfz21_2 := blk_frozen BK126.out 2
           go_wp2_with (first | (go_at_call 66; (with_reducible refine (spec_l00In.calls ((rd_T63 l0_3 x3_2).f0) 0 (wrap64 (a0_0 - 1)) true _ A15.out).mono ?_); rintro e w' ⟨rfl, ⟨nd, rfl⟩⟩; (try first | exact ⟨rfl, _, World.drewN_drewN _ _ _⟩ | exact ⟨rfl, _, Eq.trans (World.drewN_drewN _ _ _) (congrArg (World.drewN _) (Nat.add_assoc _ _ _))⟩)) | (go_at_call 68; (with_reducible refine (spec_l03Pitch.calls ((rd_T63 l0_3 x3_2).f1) false _ A17.out).mono ?_); rintro e w' ⟨rfl, ⟨nd, rfl⟩⟩; (try first | exact ⟨rfl, _, World.drewN_drewN _ _ _⟩ | exact ⟨rfl, _, Eq.trans (World.drewN_drewN _ _ _) (congrArg (World.drewN _) (Nat.add_assoc _ _ _))⟩)))
           have pz_ : 0 ≤ (0 : Int) := (by omega)
           have qz_ : 0 < ([(⟨a0_0, a0_1, l0_2, l0_3⟩ : S31)].length : Int) := (by simp)
           obtain ⟨adz_, Az2_, cz2_, Az3_, cz3_, ez_, hz0_, hz1_, hz2_, hz3_, _, _, _, _⟩ := at_T31 HRp0.out 0 pz_ qz_
           obtain rfl : adp0 = adz_ := (by injection ez_)
           replace hz0_ : _ = (some (.int .i64 a0_0) : Option Value) := hz0_
           (try rw [show ((0 : Int)).toNat = 0 from rfl] at hz0_)
           (try rw [show 0 * 4 = 0 from rfl] at hz0_)
           (try rw [Addr.add_zero'] at hz0_)
           have hne_ : ∀ o : Nat, ((⟨gb126, o, none⟩ : Addr) = adp0) = False := fun o => eq_false (by rintro rfl; exact absurd (World.block_lt_of_cell? w _ hz0_) (Nat.not_lt.2 GE126.out))
           have hy0_ := (HB.out.cell (World.block_lt_of_cell? w _ hz0_)).trans hz0_
           clear hz0_ hz1_ hz2_ hz3_ pz_ qz_ ez_
           repeat (go_quiet (first | (go_at_call 66; (try simp only [iW]); (with_reducible refine (spec_l00In.calls ((rd_T63 l0_3 x3_2).f0) 0 (wrap64 (a0_0 - 1)) true _ A15.out).mono ?_); rintro e w' ⟨rfl, ⟨nd, rfl⟩⟩; (try first | exact ⟨rfl, _, World.drewN_drewN _ _ _⟩ | exact ⟨rfl, _, Eq.trans (World.drewN_drewN _ _ _) (congrArg (World.drewN _) (Nat.add_assoc _ _ _))⟩)) | (go_at_call 68; (try simp only [iW]); (with_reducible refine (spec_l03Pitch.calls ((rd_T63 l0_3 x3_2).f1) false _ A17.out).mono ?_); rintro e w' ⟨rfl, ⟨nd, rfl⟩⟩; (try first | exact ⟨rfl, _, World.drewN_drewN _ _ _⟩ | exact ⟨rfl, _, Eq.trans (World.drewN_drewN _ _ _) (congrArg (World.drewN _) (Nat.add_assoc _ _ _))⟩))); try go_wp2_with (first | (go_at_call 66; (try simp only [iW]); (with_reducible refine (spec_l00In.calls ((rd_T63 l0_3 x3_2).f0) 0 (wrap64 (a0_0 - 1)) true _ A15.out).mono ?_); rintro e w' ⟨rfl, ⟨nd, rfl⟩⟩; (try first | exact ⟨rfl, _, World.drewN_drewN _ _ _⟩ | exact ⟨rfl, _, Eq.trans (World.drewN_drewN _ _ _) (congrArg (World.drewN _) (Nat.add_assoc _ _ _))⟩)) | (go_at_call 68; (try simp only [iW]); (with_reducible refine (spec_l03Pitch.calls ((rd_T63 l0_3 x3_2).f1) false _ A17.out).mono ?_); rintro e w' ⟨rfl, ⟨nd, rfl⟩⟩; (try first | exact ⟨rfl, _, World.drewN_drewN _ _ _⟩ | exact ⟨rfl, _, Eq.trans (World.drewN_drewN _ _ _) (congrArg (World.drewN _) (Nat.add_assoc _ _ _))⟩))))
           go_meet
           case rel => exact ⟨_, (true), (by first | rfl | (simp; done) | (simp [*]; done)), H', ⟨by have := HJ1.out; have := HK2.out; first | omega | exact Nat.le_refl _⟩, ⟨by (with_reducible repeat (first | refine kN ?_ _ | refine kD ?_ | refine kA ?_ _)); refine blk_put (cs := #[.int .i64 ((rd_T63 l0_3 x3_2).f0), .int .i64 ((rd_T63 l0_3 x3_2).f1), .int .i64 0]) ?_ 2 _ rfl; (with_reducible repeat (first | refine kN ?_ _ | refine kD ?_ | refine kA ?_ _)); refine blk_put (cs := #[.int .i64 ((rd_T63 l0_3 x3_2).f0), .int .i64 0, .int .i64 0]) ?_ 1 _ rfl; (with_reducible repeat (first | refine kN ?_ _ | refine kD ?_ | refine kA ?_ _)); refine blk_put (cs := #[.int .i64 0, .int .i64 0, .int .i64 0]) ?_ 0 _ rfl; (with_reducible repeat (first | refine kN ?_ _ | refine kD ?_ | refine kA ?_ _)); exact BK126.out⟩, ⟨by repeat (first | (with_reducible first | exact HB.out | apply bA | apply bN | apply bD | refine bS ?_ GE126.out) | exact HB.out)⟩⟩
         ·replace c16 := Bool.eq_false_iff.mpr c16
          subst c16
          have H1 : (spec_l07Ok.j2 k2 x3_2 true a0_0 a0_1 l0_2 l0_3 ((rd_T63 l0_3 x3_2).f0) ((rd_T63 l0_3 x3_2).f1) ((rd_T63 l0_3 x3_2).f2)) = some r := by rw [if_neg (show ¬ (false = true) by decide)] at H; exact H
          clear H
          have H := H1
          clear H1
          have H' := Aside0.mk H
          clear H
          have hcz22_0 : w13.cell? ⟨gb126, 0, none⟩ = some (.int .i64 0) := (kC BK126.out 0).trans rfl
          have hcz22_1 : w13.cell? ⟨gb126, 1, none⟩ = some (.int .i64 0) := (kC BK126.out 1).trans rfl
          have hcz22_2 : w13.cell? ⟨gb126, 2, none⟩ = some (.int .i64 0) := (kC BK126.out 2).trans rfl
          have hfz22_0 := blk_frozen BK126.out 0
          have hfz22_1 := blk_frozen BK126.out 1
          have hfz22_2 := blk_frozen BK126.out 2
          go_wp2_with (first | (go_at_call 66; (with_reducible refine (spec_l00In.calls ((rd_T63 l0_3 x3_2).f0) 0 (wrap64 (a0_0 - 1)) false _ A15.out).mono ?_); rintro e w' ⟨rfl, ⟨nd, rfl⟩⟩; (try first | exact ⟨rfl, _, World.drewN_drewN _ _ _⟩ | exact ⟨rfl, _, Eq.trans (World.drewN_drewN _ _ _) (congrArg (World.drewN _) (Nat.add_assoc _ _ _))⟩)))
          have pz_ : 0 ≤ (0 : Int) := (by omega)
          have qz_ : 0 < ([(⟨a0_0, a0_1, l0_2, l0_3⟩ : S31)].length : Int) := (by simp)
          obtain ⟨adz_, Az2_, cz2_, Az3_, cz3_, ez_, hz0_, hz1_, hz2_, hz3_, _, _, _, _⟩ := at_T31 HRp0.out 0 pz_ qz_
          obtain rfl : adp0 = adz_ := (by injection ez_)
          replace hz0_ : _ = (some (.int .i64 a0_0) : Option Value) := hz0_
          (try rw [show ((0 : Int)).toNat = 0 from rfl] at hz0_)
          (try rw [show 0 * 4 = 0 from rfl] at hz0_)
          (try rw [Addr.add_zero'] at hz0_)
          have hne_ : ∀ o : Nat, ((⟨gb126, o, none⟩ : Addr) = adp0) = False := fun o => eq_false (by rintro rfl; exact absurd (World.block_lt_of_cell? w _ hz0_) (Nat.not_lt.2 GE126.out))
          have hy0_ := (HB.out.cell (World.block_lt_of_cell? w _ hz0_)).trans hz0_
          clear hz0_ hz1_ hz2_ hz3_ pz_ qz_ ez_
          repeat (go_quiet (first | (go_at_call 66; (try simp only [iW]); (with_reducible refine (spec_l00In.calls ((rd_T63 l0_3 x3_2).f0) 0 (wrap64 (a0_0 - 1)) false _ A15.out).mono ?_); rintro e w' ⟨rfl, ⟨nd, rfl⟩⟩; (try first | exact ⟨rfl, _, World.drewN_drewN _ _ _⟩ | exact ⟨rfl, _, Eq.trans (World.drewN_drewN _ _ _) (congrArg (World.drewN _) (Nat.add_assoc _ _ _))⟩))); try go_wp2_with (first | (go_at_call 66; (try simp only [iW]); (with_reducible refine (spec_l00In.calls ((rd_T63 l0_3 x3_2).f0) 0 (wrap64 (a0_0 - 1)) false _ A15.out).mono ?_); rintro e w' ⟨rfl, ⟨nd, rfl⟩⟩; (try first | exact ⟨rfl, _, World.drewN_drewN _ _ _⟩ | exact ⟨rfl, _, Eq.trans (World.drewN_drewN _ _ _) (congrArg (World.drewN _) (Nat.add_assoc _ _ _))⟩))))
          go_meet
          case rel => exact ⟨_, (true), (by first | rfl | (simp; done) | (simp [*]; done)), H', ⟨by have := HJ1.out; have := HK2.out; first | omega | exact Nat.le_refl _⟩, ⟨by (with_reducible repeat (first | refine kN ?_ _ | refine kD ?_ | refine kA ?_ _)); refine blk_put (cs := #[.int .i64 ((rd_T63 l0_3 x3_2).f0), .int .i64 ((rd_T63 l0_3 x3_2).f1), .int .i64 0]) ?_ 2 _ rfl; (with_reducible repeat (first | refine kN ?_ _ | refine kD ?_ | refine kA ?_ _)); refine blk_put (cs := #[.int .i64 ((rd_T63 l0_3 x3_2).f0), .int .i64 0, .int .i64 0]) ?_ 1 _ rfl; (with_reducible repeat (first | refine kN ?_ _ | refine kD ?_ | refine kA ?_ _)); refine blk_put (cs := #[.int .i64 0, .int .i64 0, .int .i64 0]) ?_ 0 _ rfl; (with_reducible repeat (first | refine kN ?_ _ | refine kD ?_ | refine kA ?_ _)); exact BK126.out⟩, ⟨by repeat (first | (with_reducible first | exact HB.out | apply bA | apply bN | apply bD | refine bS ?_ GE126.out) | exact HB.out)⟩⟩
        case rest =>
         clear HC12
         try clear c1
         try clear p1
         try clear q1
         try clear hx1
         try clear qi1
         try clear p2
         try clear c3
         try clear c4
         try clear c6
         try clear p6
         try clear c8
         try clear c9
         try clear c10
         try clear c10b0
         try clear c11
         try clear c11b0
         try clear c12
         try clear p12
         try clear q12
         try clear hx12
         try clear qi12
         try clear c16
         try clear c18
         try clear hcz14_0
         try clear hcz14_1
         try clear hcz14_2
         try clear hcz20_0
         try clear hcz20_1
         try clear hcz20_2
         try clear hcz21_0
         try clear hcz21_1
         try clear hcz21_2
         try clear hcz22_0
         try clear hcz22_1
         try clear hcz22_2
         try clear hfz14_0
         try clear hfz14_1
         try clear hfz14_2
         try clear hfz20_0
         try clear hfz20_1
         try clear hfz20_2
         try clear hfz21_0
         try clear hfz21_1
         try clear hfz21_2
         try clear hfz22_0
         try clear hfz22_1
         try clear hfz22_2
         try clear hx120_0
         try clear hx120_1
         try clear hx120_2
         try clear hx120_3
         try clear hx124_0
         try clear hx124_1
         try clear hx124_2
         try clear hx124_3
         try clear hx125_0
         try clear hx125_1
         try clear hx125_2
         try clear p1
         try clear p120
         try clear p124
         try clear p125
         try clear p2
         try clear p6
         try clear q1
         try clear q120
         try clear q124
         try clear q125
         obtain ⟨kq, x86_11, rfl, HA, HJ11, BK126, HB⟩ := hcut
         cases kq with
         | zero => exact absurd HA.out (by simp [spec_l07Ok.j2])
         | succ kj11 =>
          have H := HA.out
          clear HA
          simp only [spec_l07Ok.j2] at H
          by_cases c23 : x86_11 = true
          ·subst c23
           have H1 : (some false) = some r := by rw [if_pos rfl] at H; exact H
           clear H
           have H := H1
           clear H1
           obtain rfl := Option.some.inj H
           go_wp2
           repeat (go_quiet (fail); try go_wp2)
           go_ret
           exact ⟨by first | rfl | (simp [errW_none, errW_some] <;> rfl) | (simp [*, errW_none, errW_some] <;> rfl), by repeat (first | (with_reducible first | exact HB.out | apply bA | apply bN | apply bD | refine bS ?_ GE126.out) | exact HB.out)⟩
          ·replace c23 := Bool.eq_false_iff.mpr c23
           subst c23
           have H1 : (if x3_2 > 0 then (if 0 ≤ (wrap64 (x3_2 - 1)) then (if (wrap64 (x3_2 - 1)) < (l0_3.length : Int) then (if ((rd_T63 l0_3 (wrap64 (x3_2 - 1))).f0) > ((rd_T63 l0_3 x3_2).f0) then (some false) else (if ((rd_T63 l0_3 (wrap64 (x3_2 - 1))).f0) = ((rd_T63 l0_3 x3_2).f0) then (if ((rd_T63 l0_3 (wrap64 (x3_2 - 1))).f1) ≥ ((rd_T63 l0_3 x3_2).f1) then (some false) else (spec_l07Ok.l0 kj11 (wrap64 (x3_2 + 1)) a0_0 a0_1 l0_2 l0_3)) else (spec_l07Ok.l0 kj11 (wrap64 (x3_2 + 1)) a0_0 a0_1 l0_2 l0_3))) else (none)) else (none)) else (spec_l07Ok.l0 kj11 (wrap64 (x3_2 + 1)) a0_0 a0_1 l0_2 l0_3)) = some r := by rw [if_neg (show ¬ (false = true) by decide)] at H; exact H
           clear H
           have H := H1
           clear H1
           by_cases c24 : x3_2 > 0
           ·rw [if_pos c24] at H
            have c24b0 : decide (0 < x3_2) = true := decide_eq_true c24
            clear c24
            obtain ⟨ji25, hji25⟩ : ∃ j_ : Int, (wrap64 (x3_2 - 1)) = j_ := ⟨_, rfl⟩
            replace H : (if 0 ≤ (ji25) then (if (ji25) < (l0_3.length : Int) then (if ((rd_T63 l0_3 (ji25)).f0) > ((rd_T63 l0_3 x3_2).f0) then (some false) else (if ((rd_T63 l0_3 (ji25)).f0) = ((rd_T63 l0_3 x3_2).f0) then (if ((rd_T63 l0_3 (ji25)).f1) ≥ ((rd_T63 l0_3 x3_2).f1) then (some false) else (spec_l07Ok.l0 kj11 (wrap64 (x3_2 + 1)) a0_0 a0_1 l0_2 l0_3)) else (spec_l07Ok.l0 kj11 (wrap64 (x3_2 + 1)) a0_0 a0_1 l0_2 l0_3))) else (none)) else (none)) = some r := by first | (rw [hji25] at H; exact H) | (simp only [hji25] at H ⊢; exact H)
            have hji25w : (IntKind.i64.wrap (x3_2 - 1)) = ji25 := (iW _).trans hji25
            by_cases c26 : 0 ≤ (ji25)
            ·rw [if_pos c26] at H
             have c26b0 : decide (0 ≤ (ji25)) = true := decide_eq_true c26
             clear c26
             by_cases c27 : (ji25) < (l0_3.length : Int)
             ·rw [if_pos c27] at H
              have c27b0 : decide ((ji25) < (l0_3.length : Int)) = true := decide_eq_true c27
              clear c27
              by_cases c28 : ((rd_T63 l0_3 (ji25)).f0) > ((rd_T63 l0_3 x3_2).f0)
              ·rw [if_pos c28] at H
               have c28b0 : decide (((rd_T63 l0_3 x3_2).f0) < ((rd_T63 l0_3 (ji25)).f0)) = true := decide_eq_true c28
               clear c28
               obtain rfl := Option.some.inj H
               have p130 : 0 ≤ (0 : Int) := (by omega)
               have q130 : 0 < ([(⟨a0_0, a0_1, l0_2, l0_3⟩ : S31)].length : Int) := (by simp)
               obtain ⟨ad130, A130_2, c130_2, A130_3, c130_3, e130, hx130_0, hx130_1, hx130_2, hx130_3, hl130_2, hi130_2, hl130_3, hi130_3⟩ := at_T31 HRp0.out 0 p130 q130
               replace hx130_0 : _ = (some (.int .i64 a0_0) : Option Value) := hx130_0
               replace hx130_1 : _ = (some (.int .i64 a0_1) : Option Value) := hx130_1
               replace hx130_2 : _ = (some (.slice A130_2 l0_2.length c130_2) : Option Value) := hx130_2
               replace hi130_2 : Kd.C (Kd.int .i64) _ _ l0_2.length l0_2 := hi130_2
               replace hl130_2 : l0_2.length ≤ _ := hl130_2
               replace hx130_3 : _ = (some (.slice A130_3 l0_3.length c130_3) : Option Value) := hx130_3
               replace hi130_3 : Kd.C k63 _ _ l0_3.length l0_3 := hi130_3
               replace hl130_3 : l0_3.length ≤ _ := hl130_3
               obtain rfl : adp0 = ad130 := (by injection e130)
               have qi130 : (0 < [(⟨a0_0, a0_1, l0_2, l0_3⟩ : S31)].length) = True := eq_true (by simp)
               (try rw [show ((0 : Int)).toNat = 0 from rfl] at hx130_0)
               (try rw [show 0 * 4 = 0 from rfl] at hx130_0)
               (try rw [Addr.add_zero'] at hx130_0)
               (try rw [show ((0 : Int)).toNat = 0 from rfl] at hx130_1)
               (try rw [show 0 * 4 = 0 from rfl] at hx130_1)
               (try rw [Addr.add_zero'] at hx130_1)
               (try rw [show ((0 : Int)).toNat = 0 from rfl] at hx130_2)
               (try rw [show 0 * 4 = 0 from rfl] at hx130_2)
               (try rw [Addr.add_zero'] at hx130_2)
               (try rw [show ((0 : Int)).toNat = 0 from rfl] at hx130_3)
               (try rw [show 0 * 4 = 0 from rfl] at hx130_3)
               (try rw [Addr.add_zero'] at hx130_3)
               replace hx130_0 := (HB.out.cell (World.block_lt_of_cell? w _ hx130_0)).trans hx130_0
               replace hx130_1 := (HB.out.cell (World.block_lt_of_cell? w _ hx130_1)).trans hx130_1
               replace hx130_2 := (HB.out.cell (World.block_lt_of_cell? w _ hx130_2)).trans hx130_2
               replace hx130_3 := (HB.out.cell (World.block_lt_of_cell? w _ hx130_3)).trans hx130_3
               have HR130_2 := Aside0.mk hi130_2
               have HC130_2 := Aside0.mk hl130_2
               clear hi130_2 hl130_2
               have HR130_3 := Aside0.mk hi130_3
               have HC130_3 := Aside0.mk hl130_3
               clear hi130_3 hl130_3
               replace p130 := eq_true p130
               replace q130 := eq_true q130
               have p131 : 0 ≤ ((ji25) : Int) := of_decide_eq_true (by first | (with_reducible assumption) | assumption)
               have q131 : (ji25) < (l0_3.length : Int) := of_decide_eq_true (by first | (with_reducible assumption) | assumption)
               obtain ⟨ad131, e131, hx131_0, hx131_1, hx131_2⟩ := at_T63 HR130_3.out (ji25) p131 q131
               cases e131
               replace hx131_0 := (HB.out.cell (World.block_lt_of_cell? w _ hx131_0)).trans hx131_0
               replace hx131_1 := (HB.out.cell (World.block_lt_of_cell? w _ hx131_1)).trans hx131_1
               replace hx131_2 := (HB.out.cell (World.block_lt_of_cell? w _ hx131_2)).trans hx131_2
               replace p131 := eq_true p131
               replace q131 := eq_true q131
               have hcz29_0 : wc.cell? ⟨gb126, 0, none⟩ = some (.int .i64 ((rd_T63 l0_3 x3_2).f0)) := (kC BK126.out 0).trans rfl
               have hcz29_1 : wc.cell? ⟨gb126, 1, none⟩ = some (.int .i64 ((rd_T63 l0_3 x3_2).f1)) := (kC BK126.out 1).trans rfl
               have hcz29_2 : wc.cell? ⟨gb126, 2, none⟩ = some (.int .i64 ((rd_T63 l0_3 x3_2).f2)) := (kC BK126.out 2).trans rfl
               have hfz29_0 := blk_frozen BK126.out 0
               have hfz29_1 := blk_frozen BK126.out 1
               have hfz29_2 := blk_frozen BK126.out 2
               go_wp2
               repeat (go_quiet (fail); try go_wp2)
               go_ret
               exact ⟨by first | rfl | (simp [errW_none, errW_some] <;> rfl) | (simp only [← hji25]; first | rfl | (simp [errW_none, errW_some] <;> rfl)) | (simp [*, errW_none, errW_some] <;> rfl), by repeat (first | (with_reducible first | exact HB.out | apply bA | apply bN | apply bD | refine bS ?_ GE126.out) | exact HB.out)⟩
              ·rw [if_neg c28] at H
               have c28b0 : decide (((rd_T63 l0_3 x3_2).f0) < ((rd_T63 l0_3 (ji25)).f0)) = false := decide_eq_false c28
               clear c28
               by_cases c30 : ((rd_T63 l0_3 (ji25)).f0) = ((rd_T63 l0_3 x3_2).f0)
               ·rw [if_pos c30] at H
                have c30b0 : (((rd_T63 l0_3 (ji25)).f0) == ((rd_T63 l0_3 x3_2).f0)) = true := beq_iff_eq.mpr c30
                have c30b1 : (((rd_T63 l0_3 (ji25)).f0) != ((rd_T63 l0_3 x3_2).f0)) = false := bne_eq_false_iff_eq.mpr c30
                clear c30
                by_cases c31 : ((rd_T63 l0_3 (ji25)).f1) ≥ ((rd_T63 l0_3 x3_2).f1)
                ·rw [if_pos c31] at H
                 have c31b0 : decide (((rd_T63 l0_3 x3_2).f1) ≤ ((rd_T63 l0_3 (ji25)).f1)) = true := decide_eq_true c31
                 clear c31
                 obtain rfl := Option.some.inj H
                 have p130 : 0 ≤ (0 : Int) := (by omega)
                 have q130 : 0 < ([(⟨a0_0, a0_1, l0_2, l0_3⟩ : S31)].length : Int) := (by simp)
                 obtain ⟨ad130, A130_2, c130_2, A130_3, c130_3, e130, hx130_0, hx130_1, hx130_2, hx130_3, hl130_2, hi130_2, hl130_3, hi130_3⟩ := at_T31 HRp0.out 0 p130 q130
                 replace hx130_0 : _ = (some (.int .i64 a0_0) : Option Value) := hx130_0
                 replace hx130_1 : _ = (some (.int .i64 a0_1) : Option Value) := hx130_1
                 replace hx130_2 : _ = (some (.slice A130_2 l0_2.length c130_2) : Option Value) := hx130_2
                 replace hi130_2 : Kd.C (Kd.int .i64) _ _ l0_2.length l0_2 := hi130_2
                 replace hl130_2 : l0_2.length ≤ _ := hl130_2
                 replace hx130_3 : _ = (some (.slice A130_3 l0_3.length c130_3) : Option Value) := hx130_3
                 replace hi130_3 : Kd.C k63 _ _ l0_3.length l0_3 := hi130_3
                 replace hl130_3 : l0_3.length ≤ _ := hl130_3
                 obtain rfl : adp0 = ad130 := (by injection e130)
                 have qi130 : (0 < [(⟨a0_0, a0_1, l0_2, l0_3⟩ : S31)].length) = True := eq_true (by simp)
                 (try rw [show ((0 : Int)).toNat = 0 from rfl] at hx130_0)
                 (try rw [show 0 * 4 = 0 from rfl] at hx130_0)
                 (try rw [Addr.add_zero'] at hx130_0)
                 (try rw [show ((0 : Int)).toNat = 0 from rfl] at hx130_1)
                 (try rw [show 0 * 4 = 0 from rfl] at hx130_1)
                 (try rw [Addr.add_zero'] at hx130_1)
                 (try rw [show ((0 : Int)).toNat = 0 from rfl] at hx130_2)
                 (try rw [show 0 * 4 = 0 from rfl] at hx130_2)
                 (try rw [Addr.add_zero'] at hx130_2)
                 (try rw [show ((0 : Int)).toNat = 0 from rfl] at hx130_3)
                 (try rw [show 0 * 4 = 0 from rfl] at hx130_3)
                 (try rw [Addr.add_zero'] at hx130_3)
                 replace hx130_0 := (HB.out.cell (World.block_lt_of_cell? w _ hx130_0)).trans hx130_0
                 replace hx130_1 := (HB.out.cell (World.block_lt_of_cell? w _ hx130_1)).trans hx130_1
                 replace hx130_2 := (HB.out.cell (World.block_lt_of_cell? w _ hx130_2)).trans hx130_2
                 replace hx130_3 := (HB.out.cell (World.block_lt_of_cell? w _ hx130_3)).trans hx130_3
                 have HR130_2 := Aside0.mk hi130_2
                 have HC130_2 := Aside0.mk hl130_2
                 clear hi130_2 hl130_2
                 have HR130_3 := Aside0.mk hi130_3
                 have HC130_3 := Aside0.mk hl130_3
                 clear hi130_3 hl130_3
                 replace p130 := eq_true p130
                 replace q130 := eq_true q130
                 have p131 : 0 ≤ ((ji25) : Int) := of_decide_eq_true (by first | (with_reducible assumption) | assumption)
                 have q131 : (ji25) < (l0_3.length : Int) := of_decide_eq_true (by first | (with_reducible assumption) | assumption)
                 obtain ⟨ad131, e131, hx131_0, hx131_1, hx131_2⟩ := at_T63 HR130_3.out (ji25) p131 q131
                 cases e131
                 replace hx131_0 := (HB.out.cell (World.block_lt_of_cell? w _ hx131_0)).trans hx131_0
                 replace hx131_1 := (HB.out.cell (World.block_lt_of_cell? w _ hx131_1)).trans hx131_1
                 replace hx131_2 := (HB.out.cell (World.block_lt_of_cell? w _ hx131_2)).trans hx131_2
                 replace p131 := eq_true p131
                 replace q131 := eq_true q131
                 have hcz32_0 : wc.cell? ⟨gb126, 0, none⟩ = some (.int .i64 ((rd_T63 l0_3 x3_2).f0)) := (kC BK126.out 0).trans rfl
                 have hcz32_1 : wc.cell? ⟨gb126, 1, none⟩ = some (.int .i64 ((rd_T63 l0_3 x3_2).f1)) := (kC BK126.out 1).trans rfl
                 have hcz32_2 : wc.cell? ⟨gb126, 2, none⟩ = some (.int .i64 ((rd_T63 l0_3 x3_2).f2)) := (kC BK126.out 2).trans rfl
                 have hfz32_0 := blk_frozen BK126.out 0
                 have hfz32_1 := blk_frozen BK126.out 1
                 have hfz32_2 := blk_frozen BK126.out 2
                 have p132 : 0 ≤ ((ji25) : Int) := of_decide_eq_true (by first | (with_reducible assumption) | assumption)
                 have q132 : (ji25) < (l0_3.length : Int) := of_decide_eq_true (by first | (with_reducible assumption) | assumption)
                 obtain ⟨ad132, e132, hx132_0, hx132_1, hx132_2⟩ := at_T63 HR130_3.out (ji25) p132 q132
                 obtain rfl : ad131 = ad132 := (by injection e132)
                 replace hx132_0 := (HB.out.cell (World.block_lt_of_cell? w _ hx132_0)).trans hx132_0
                 replace hx132_1 := (HB.out.cell (World.block_lt_of_cell? w _ hx132_1)).trans hx132_1
                 replace hx132_2 := (HB.out.cell (World.block_lt_of_cell? w _ hx132_2)).trans hx132_2
                 replace p132 := eq_true p132
                 replace q132 := eq_true q132
                 have p133 : 0 ≤ ((ji25) : Int) := of_decide_eq_true (by first | (with_reducible assumption) | assumption)
                 have q133 : (ji25) < (l0_3.length : Int) := of_decide_eq_true (by first | (with_reducible assumption) | assumption)
                 obtain ⟨ad133, e133, hx133_0, hx133_1, hx133_2⟩ := at_T63 HR130_3.out (ji25) p133 q133
                 obtain rfl : ad131 = ad133 := (by injection e133)
                 replace hx133_0 := (HB.out.cell (World.block_lt_of_cell? w _ hx133_0)).trans hx133_0
                 replace hx133_1 := (HB.out.cell (World.block_lt_of_cell? w _ hx133_1)).trans hx133_1
                 replace hx133_2 := (HB.out.cell (World.block_lt_of_cell? w _ hx133_2)).trans hx133_2
                 replace p133 := eq_true p133
                 replace q133 := eq_true q133
                 go_wp2
                 repeat (go_quiet (fail); try go_wp2)
                 go_ret
                 exact ⟨by first | rfl | (simp [errW_none, errW_some] <;> rfl) | (simp only [← hji25]; first | rfl | (simp [errW_none, errW_some] <;> rfl)) | (simp [*, errW_none, errW_some] <;> rfl), by repeat (first | (with_reducible first | exact HB.out | apply bA | apply bN | apply bD | refine bS ?_ GE126.out) | exact HB.out)⟩
                ·rw [if_neg c31] at H
                 have c31b0 : decide (((rd_T63 l0_3 x3_2).f1) ≤ ((rd_T63 l0_3 (ji25)).f1)) = false := decide_eq_false c31
                 clear c31
                 have H' := Aside0.mk H
                 clear H
                 have p130 : 0 ≤ (0 : Int) := (by omega)
                 have q130 : 0 < ([(⟨a0_0, a0_1, l0_2, l0_3⟩ : S31)].length : Int) := (by simp)
                 obtain ⟨ad130, A130_2, c130_2, A130_3, c130_3, e130, hx130_0, hx130_1, hx130_2, hx130_3, hl130_2, hi130_2, hl130_3, hi130_3⟩ := at_T31 HRp0.out 0 p130 q130
                 replace hx130_0 : _ = (some (.int .i64 a0_0) : Option Value) := hx130_0
                 replace hx130_1 : _ = (some (.int .i64 a0_1) : Option Value) := hx130_1
                 replace hx130_2 : _ = (some (.slice A130_2 l0_2.length c130_2) : Option Value) := hx130_2
                 replace hi130_2 : Kd.C (Kd.int .i64) _ _ l0_2.length l0_2 := hi130_2
                 replace hl130_2 : l0_2.length ≤ _ := hl130_2
                 replace hx130_3 : _ = (some (.slice A130_3 l0_3.length c130_3) : Option Value) := hx130_3
                 replace hi130_3 : Kd.C k63 _ _ l0_3.length l0_3 := hi130_3
                 replace hl130_3 : l0_3.length ≤ _ := hl130_3
                 obtain rfl : adp0 = ad130 := (by injection e130)
                 have qi130 : (0 < [(⟨a0_0, a0_1, l0_2, l0_3⟩ : S31)].length) = True := eq_true (by simp)
                 (try rw [show ((0 : Int)).toNat = 0 from rfl] at hx130_0)
                 (try rw [show 0 * 4 = 0 from rfl] at hx130_0)
                 (try rw [Addr.add_zero'] at hx130_0)
                 (try rw [show ((0 : Int)).toNat = 0 from rfl] at hx130_1)
                 (try rw [show 0 * 4 = 0 from rfl] at hx130_1)
                 (try rw [Addr.add_zero'] at hx130_1)
                 (try rw [show ((0 : Int)).toNat = 0 from rfl] at hx130_2)
                 (try rw [show 0 * 4 = 0 from rfl] at hx130_2)
                 (try rw [Addr.add_zero'] at hx130_2)
                 (try rw [show ((0 : Int)).toNat = 0 from rfl] at hx130_3)
                 (try rw [show 0 * 4 = 0 from rfl] at hx130_3)
                 (try rw [Addr.add_zero'] at hx130_3)
                 replace hx130_0 := (HB.out.cell (World.block_lt_of_cell? w _ hx130_0)).trans hx130_0
                 replace hx130_1 := (HB.out.cell (World.block_lt_of_cell? w _ hx130_1)).trans hx130_1
                 replace hx130_2 := (HB.out.cell (World.block_lt_of_cell? w _ hx130_2)).trans hx130_2
                 replace hx130_3 := (HB.out.cell (World.block_lt_of_cell? w _ hx130_3)).trans hx130_3
                 have HR130_2 := Aside0.mk hi130_2
                 have HC130_2 := Aside0.mk hl130_2
                 clear hi130_2 hl130_2
                 have HR130_3 := Aside0.mk hi130_3
                 have HC130_3 := Aside0.mk hl130_3
                 clear hi130_3 hl130_3
                 replace p130 := eq_true p130
                 replace q130 := eq_true q130
                 have p131 : 0 ≤ ((ji25) : Int) := of_decide_eq_true (by first | (with_reducible assumption) | assumption)
                 have q131 : (ji25) < (l0_3.length : Int) := of_decide_eq_true (by first | (with_reducible assumption) | assumption)
                 obtain ⟨ad131, e131, hx131_0, hx131_1, hx131_2⟩ := at_T63 HR130_3.out (ji25) p131 q131
                 cases e131
                 replace hx131_0 := (HB.out.cell (World.block_lt_of_cell? w _ hx131_0)).trans hx131_0
                 replace hx131_1 := (HB.out.cell (World.block_lt_of_cell? w _ hx131_1)).trans hx131_1
                 replace hx131_2 := (HB.out.cell (World.block_lt_of_cell? w _ hx131_2)).trans hx131_2
                 replace p131 := eq_true p131
                 replace q131 := eq_true q131
                 have hcz33_0 : wc.cell? ⟨gb126, 0, none⟩ = some (.int .i64 ((rd_T63 l0_3 x3_2).f0)) := (kC BK126.out 0).trans rfl
                 have hcz33_1 : wc.cell? ⟨gb126, 1, none⟩ = some (.int .i64 ((rd_T63 l0_3 x3_2).f1)) := (kC BK126.out 1).trans rfl
                 have hcz33_2 : wc.cell? ⟨gb126, 2, none⟩ = some (.int .i64 ((rd_T63 l0_3 x3_2).f2)) := (kC BK126.out 2).trans rfl
                 have hfz33_0 := blk_frozen BK126.out 0
                 have hfz33_1 := blk_frozen BK126.out 1
                 have hfz33_2 := blk_frozen BK126.out 2
                 have p132 : 0 ≤ ((ji25) : Int) := of_decide_eq_true (by first | (with_reducible assumption) | assumption)
                 have q132 : (ji25) < (l0_3.length : Int) := of_decide_eq_true (by first | (with_reducible assumption) | assumption)
                 obtain ⟨ad132, e132, hx132_0, hx132_1, hx132_2⟩ := at_T63 HR130_3.out (ji25) p132 q132
                 obtain rfl : ad131 = ad132 := (by injection e132)
                 replace hx132_0 := (HB.out.cell (World.block_lt_of_cell? w _ hx132_0)).trans hx132_0
                 replace hx132_1 := (HB.out.cell (World.block_lt_of_cell? w _ hx132_1)).trans hx132_1
                 replace hx132_2 := (HB.out.cell (World.block_lt_of_cell? w _ hx132_2)).trans hx132_2
                 replace p132 := eq_true p132
                 replace q132 := eq_true q132
                 have p133 : 0 ≤ ((ji25) : Int) := of_decide_eq_true (by first | (with_reducible assumption) | assumption)
                 have q133 : (ji25) < (l0_3.length : Int) := of_decide_eq_true (by first | (with_reducible assumption) | assumption)
                 obtain ⟨ad133, e133, hx133_0, hx133_1, hx133_2⟩ := at_T63 HR130_3.out (ji25) p133 q133
                 obtain rfl : ad131 = ad133 := (by injection e133)
                 replace hx133_0 := (HB.out.cell (World.block_lt_of_cell? w _ hx133_0)).trans hx133_0
                 replace hx133_1 := (HB.out.cell (World.block_lt_of_cell? w _ hx133_1)).trans hx133_1
                 replace hx133_2 := (HB.out.cell (World.block_lt_of_cell? w _ hx133_2)).trans hx133_2
                 replace p133 := eq_true p133
                 replace q133 := eq_true q133
                 go_wp2
                 repeat (go_quiet (fail); try go_wp2)
                 go_roundg kj11
                 case measure => have := HJ1.out; have := HK2.out; have := HJ11.out; omega
                 case rel => exact ⟨(wrap64 (x3_2 + 1)), (by first | rfl | (simp; done) | (simp [*]; done)), H', ⟨by have := HJ1.out; have := HK2.out; have := HJ11.out; omega⟩, ⟨by repeat (first | (with_reducible first | exact HB.out | apply bA | apply bN | apply bD | refine bS ?_ GE126.out) | exact HB.out)⟩⟩
               ·rw [if_neg c30] at H
                have c30b0 : (((rd_T63 l0_3 (ji25)).f0) == ((rd_T63 l0_3 x3_2).f0)) = false := beq_eq_false_iff_ne.mpr c30
                have c30b1 : (((rd_T63 l0_3 (ji25)).f0) != ((rd_T63 l0_3 x3_2).f0)) = true := bne_iff_ne.mpr c30
                have H' := Aside0.mk H
                clear H
                have p130 : 0 ≤ (0 : Int) := (by omega)
                have q130 : 0 < ([(⟨a0_0, a0_1, l0_2, l0_3⟩ : S31)].length : Int) := (by simp)
                obtain ⟨ad130, A130_2, c130_2, A130_3, c130_3, e130, hx130_0, hx130_1, hx130_2, hx130_3, hl130_2, hi130_2, hl130_3, hi130_3⟩ := at_T31 HRp0.out 0 p130 q130
                replace hx130_0 : _ = (some (.int .i64 a0_0) : Option Value) := hx130_0
                replace hx130_1 : _ = (some (.int .i64 a0_1) : Option Value) := hx130_1
                replace hx130_2 : _ = (some (.slice A130_2 l0_2.length c130_2) : Option Value) := hx130_2
                replace hi130_2 : Kd.C (Kd.int .i64) _ _ l0_2.length l0_2 := hi130_2
                replace hl130_2 : l0_2.length ≤ _ := hl130_2
                replace hx130_3 : _ = (some (.slice A130_3 l0_3.length c130_3) : Option Value) := hx130_3
                replace hi130_3 : Kd.C k63 _ _ l0_3.length l0_3 := hi130_3
                replace hl130_3 : l0_3.length ≤ _ := hl130_3
                obtain rfl : adp0 = ad130 := (by injection e130)
                have qi130 : (0 < [(⟨a0_0, a0_1, l0_2, l0_3⟩ : S31)].length) = True := eq_true (by simp)
                (try rw [show ((0 : Int)).toNat = 0 from rfl] at hx130_0)
                (try rw [show 0 * 4 = 0 from rfl] at hx130_0)
                (try rw [Addr.add_zero'] at hx130_0)
                (try rw [show ((0 : Int)).toNat = 0 from rfl] at hx130_1)
                (try rw [show 0 * 4 = 0 from rfl] at hx130_1)
                (try rw [Addr.add_zero'] at hx130_1)
                (try rw [show ((0 : Int)).toNat = 0 from rfl] at hx130_2)
                (try rw [show 0 * 4 = 0 from rfl] at hx130_2)
                (try rw [Addr.add_zero'] at hx130_2)
                (try rw [show ((0 : Int)).toNat = 0 from rfl] at hx130_3)
                (try rw [show 0 * 4 = 0 from rfl] at hx130_3)
                (try rw [Addr.add_zero'] at hx130_3)
                replace hx130_0 := (HB.out.cell (World.block_lt_of_cell? w _ hx130_0)).trans hx130_0
                replace hx130_1 := (HB.out.cell (World.block_lt_of_cell? w _ hx130_1)).trans hx130_1
                replace hx130_2 := (HB.out.cell (World.block_lt_of_cell? w _ hx130_2)).trans hx130_2
                replace hx130_3 := (HB.out.cell (World.block_lt_of_cell? w _ hx130_3)).trans hx130_3
                have HR130_2 := Aside0.mk hi130_2
                have HC130_2 := Aside0.mk hl130_2
                clear hi130_2 hl130_2
                have HR130_3 := Aside0.mk hi130_3
                have HC130_3 := Aside0.mk hl130_3
                clear hi130_3 hl130_3
                replace p130 := eq_true p130
                replace q130 := eq_true q130
                have p131 : 0 ≤ ((ji25) : Int) := of_decide_eq_true (by first | (with_reducible assumption) | assumption)
                have q131 : (ji25) < (l0_3.length : Int) := of_decide_eq_true (by first | (with_reducible assumption) | assumption)
                obtain ⟨ad131, e131, hx131_0, hx131_1, hx131_2⟩ := at_T63 HR130_3.out (ji25) p131 q131
                cases e131
                replace hx131_0 := (HB.out.cell (World.block_lt_of_cell? w _ hx131_0)).trans hx131_0
                replace hx131_1 := (HB.out.cell (World.block_lt_of_cell? w _ hx131_1)).trans hx131_1
                replace hx131_2 := (HB.out.cell (World.block_lt_of_cell? w _ hx131_2)).trans hx131_2
                replace p131 := eq_true p131
                replace q131 := eq_true q131
                have hcz34_0 : wc.cell? ⟨gb126, 0, none⟩ = some (.int .i64 ((rd_T63 l0_3 x3_2).f0)) := (kC BK126.out 0).trans rfl
                have hcz34_1 : wc.cell? ⟨gb126, 1, none⟩ = some (.int .i64 ((rd_T63 l0_3 x3_2).f1)) := (kC BK126.out 1).trans rfl
                have hcz34_2 : wc.cell? ⟨gb126, 2, none⟩ = some (.int .i64 ((rd_T63 l0_3 x3_2).f2)) := (kC BK126.out 2).trans rfl
                have hfz34_0 := blk_frozen BK126.out 0
                have hfz34_1 := blk_frozen BK126.out 1
                have hfz34_2 := blk_frozen BK126.out 2
                have p132 : 0 ≤ ((ji25) : Int) := of_decide_eq_true (by first | (with_reducible assumption) | assumption)
                have q132 : (ji25) < (l0_3.length : Int) := of_decide_eq_true (by first | (with_reducible assumption) | assumption)
                obtain ⟨ad132, e132, hx132_0, hx132_1, hx132_2⟩ := at_T63 HR130_3.out (ji25) p132 q132
                obtain rfl : ad131 = ad132 := (by injection e132)
                replace hx132_0 := (HB.out.cell (World.block_lt_of_cell? w _ hx132_0)).trans hx132_0
                replace hx132_1 := (HB.out.cell (World.block_lt_of_cell? w _ hx132_1)).trans hx132_1
                replace hx132_2 := (HB.out.cell (World.block_lt_of_cell? w _ hx132_2)).trans hx132_2
                replace p132 := eq_true p132
                replace q132 := eq_true q132
                go_wp2
                repeat (go_quiet (fail); try go_wp2)
                go_roundg kj11
                case measure => have := HJ1.out; have := HK2.out; have := HJ11.out; omega
                case rel => exact ⟨(wrap64 (x3_2 + 1)), (by first | rfl | (simp; done) | (simp [*]; done)), H', ⟨by have := HJ1.out; have := HK2.out; have := HJ11.out; omega⟩, ⟨by repeat (first | (with_reducible first | exact HB.out | apply bA | apply bN | apply bD | refine bS ?_ GE126.out) | exact HB.out)⟩⟩
             ·rw [if_neg c27] at H
              exact absurd H (by simp)
            ·rw [if_neg c26] at H
             exact absurd H (by simp)
           ·rw [if_neg c24] at H
            have c24b0 : decide (0 < x3_2) = false := decide_eq_false c24
            clear c24
            have H' := Aside0.mk H
            clear H
            go_wp2
            repeat (go_quiet (fail); try go_wp2)
            go_roundg kj11
            case measure => have := HJ1.out; have := HK2.out; have := HJ11.out; omega
            case rel => exact ⟨(wrap64 (x3_2 + 1)), (by first | rfl | (simp; done) | (simp [*]; done)), H', ⟨by have := HJ1.out; have := HK2.out; have := HJ11.out; omega⟩, ⟨by repeat (first | (with_reducible first | exact HB.out | apply bA | apply bN | apply bD | refine bS ?_ GE126.out) | exact HB.out)⟩⟩
       ·rw [if_neg c11] at H
        exact absurd H (by simp)
      ·rw [if_neg c10] at H
       have c10b0 : decide (x3_2 < (l0_3.length : Int)) = false := decide_eq_false c10
       clear c10
       obtain rfl := Option.some.inj H
       have p124 : 0 ≤ (0 : Int) := (by omega)
       have q124 : 0 < ([(⟨a0_0, a0_1, l0_2, l0_3⟩ : S31)].length : Int) := (by simp)
       obtain ⟨ad124, A124_2, c124_2, A124_3, c124_3, e124, hx124_0, hx124_1, hx124_2, hx124_3, hl124_2, hi124_2, hl124_3, hi124_3⟩ := at_T31 HRp0.out 0 p124 q124
       replace hx124_0 : _ = (some (.int .i64 a0_0) : Option Value) := hx124_0
       replace hx124_1 : _ = (some (.int .i64 a0_1) : Option Value) := hx124_1
       replace hx124_2 : _ = (some (.slice A124_2 l0_2.length c124_2) : Option Value) := hx124_2
       replace hi124_2 : Kd.C (Kd.int .i64) _ _ l0_2.length l0_2 := hi124_2
       replace hl124_2 : l0_2.length ≤ _ := hl124_2
       replace hx124_3 : _ = (some (.slice A124_3 l0_3.length c124_3) : Option Value) := hx124_3
       replace hi124_3 : Kd.C k63 _ _ l0_3.length l0_3 := hi124_3
       replace hl124_3 : l0_3.length ≤ _ := hl124_3
       obtain rfl : adp0 = ad124 := (by injection e124)
       have qi124 : (0 < [(⟨a0_0, a0_1, l0_2, l0_3⟩ : S31)].length) = True := eq_true (by simp)
       (try rw [show ((0 : Int)).toNat = 0 from rfl] at hx124_0)
       (try rw [show 0 * 4 = 0 from rfl] at hx124_0)
       (try rw [Addr.add_zero'] at hx124_0)
       (try rw [show ((0 : Int)).toNat = 0 from rfl] at hx124_1)
       (try rw [show 0 * 4 = 0 from rfl] at hx124_1)
       (try rw [Addr.add_zero'] at hx124_1)
       (try rw [show ((0 : Int)).toNat = 0 from rfl] at hx124_2)
       (try rw [show 0 * 4 = 0 from rfl] at hx124_2)
       (try rw [Addr.add_zero'] at hx124_2)
       (try rw [show ((0 : Int)).toNat = 0 from rfl] at hx124_3)
       (try rw [show 0 * 4 = 0 from rfl] at hx124_3)
       (try rw [Addr.add_zero'] at hx124_3)
       replace hx124_0 := (HB.out.cell (World.block_lt_of_cell? w _ hx124_0)).trans hx124_0
       replace hx124_1 := (HB.out.cell (World.block_lt_of_cell? w _ hx124_1)).trans hx124_1
       replace hx124_2 := (HB.out.cell (World.block_lt_of_cell? w _ hx124_2)).trans hx124_2
       replace hx124_3 := (HB.out.cell (World.block_lt_of_cell? w _ hx124_3)).trans hx124_3
       have HR124_2 := Aside0.mk hi124_2
       have HC124_2 := Aside0.mk hl124_2
       clear hi124_2 hl124_2
       have HR124_3 := Aside0.mk hi124_3
       have HC124_3 := Aside0.mk hl124_3
       clear hi124_3 hl124_3
       replace p124 := eq_true p124
       replace q124 := eq_true q124
       go_wp2
       repeat (go_quiet (fail); try go_wp2)
       go_ret
       exact ⟨by first | rfl | (simp [errW_none, errW_some] <;> rfl) | (simp [*, errW_none, errW_some] <;> rfl), by repeat (first | (with_reducible first | exact HB.out | apply bA | apply bN | apply bD) | exact HB.out)⟩

end Go.Proofs.YtlmeijlandogaaaDoor.I
-- shrunk
-- tight
