/- What functions of the given program compute, as plain Lean functions, and that the code comes to just that; by a program of this session over the kit's print. No condition. -/
import Derived.Test.YtlphcdophgkdpaaDoorOx0
import Derived.Test.YtlphcdophgkdpaaDoorOx1
import Derived.Test.YtlphcdophgkdpaaDoorOx2
namespace Go.Proofs.YtlphcdophgkdpaaDoor.O
open Go.RowKit Go.Proofs.YtlphcdophgkdpaaDoorW.PrintWords Go.Proofs.YtlphcdophgkdpaaDoorW.PrintLast Go.Proofs.YtlphcdophgkdpaaDoorW.PrintMore
open Go.Proofs.YtlphcdophgkdpaaDoorW.PrintWords renaming below_alloc → bA, pw_below_drewN → bN, below_drew1 → bD, below_step → bP
open Go.Proofs.YtlphcdophgkdpaaDoorW.PrintLast renaming take_ofW → tW, any_of → aO, one_of → oO, i64_w → iW, i32_w → jW
open List renaming setIfInBounds_toArray → sI, set_cons_zero → sZ, set_cons_succ → sS
open Bool renaming true → T, false → F
attribute [local go_sem] max2_int min2_int max_two min_two max_three min_three max_four min_four   -- for this text's walks alone
set_option linter.unusedVariables false
set_option linter.unusedSimpArgs false

/-! ### spec_l10Text: function 65 -/
def spec_l10Text.f (k : Nat) (a0_0 : Int) (a0_1 : Int) (a0_2 : Int) : Option (ByteArray) := (spec_l10Name.f a0_0).bind fun t125 => (if t125.size + 1 ≤ 9223372036854775807 then ((spec_l01Dec.f k a0_1).bind fun t127 => (if (t125 ++ (⟨#[32]⟩ : ByteArray)).size + t127.size ≤ 9223372036854775807 then (if ((t125 ++ (⟨#[32]⟩ : ByteArray)) ++ t127).size + 1 ≤ 9223372036854775807 then ((spec_l01Dec.f k a0_2).bind fun t129 => (if (((t125 ++ (⟨#[32]⟩ : ByteArray)) ++ t127) ++ (⟨#[32]⟩ : ByteArray)).size + t129.size ≤ 9223372036854775807 then (some ((((t125 ++ (⟨#[32]⟩ : ByteArray)) ++ t127) ++ (⟨#[32]⟩ : ByteArray)) ++ t129)) else (none))) else (none)) else (none))) else (none))
theorem spec_l10Text.mono : ∀ a0 a1 a2 k, LeO (spec_l10Text.f k a0 a1 a2) (spec_l10Text.f (k + 1) a0 a1 a2) := by
 intro a0 a1 a2 k
 unfold spec_l10Text.f
 repeat' first
   | (with_reducible exact spec_l01Dec.mono _ _)
   | (with_reducible exact LeO.refl _)
   | (with_reducible exact LeO.none _)
   | (with_reducible refine LeO.ite ?_ ?_)
   | (with_reducible refine LeO.bind ?_ (fun _ => ?_))
   | exact spec_l01Dec.mono _ _
   | exact LeO.none _
   | refine LeO.ite ?_ ?_
   | refine LeO.bind ?_ (fun _ => ?_)
def spec_l10Text.T1 : Bool × List (List Nat × List Nat) := (true, [([], []), ([0], [0]), ([1], [1]), ([2], [2]), ([3], [3]), ([4], [4]), ([], []), ([6], [6]), ([7], [7]), ([8], [8]), ([9, 4], [9]), ([5, 10], [5, 10]), ([11], [11]), ([], []), ([13], [13]), ([14], [14]), ([15], [15]), ([16, 10], [16]), ([12, 17], [12, 17]), ([18, 17, 0, 1, 2, 3, 4, 5, 6, 7, 8, 9, 10, 11, 12, 13, 14, 15, 16, 17, 18], [18])])
def spec_l10Text.B1 : List Nat := [0, 1, 3, 7, 15, 31, 0, 64, 192, 448, 991, 2047, 4095, 0, 8192, 24576, 57344, 124895, 262143, 524287]
theorem spec_l10Text.tab1 : rtab .any (opsOf Tryd.f65 1) = spec_l10Text.T1 := by kernel_rfl
theorem spec_l10Text.bits1 : waitsOk spec_l10Text.T1.2 spec_l10Text.B1 = true := by kernel_rfl
set_option maxHeartbeats 8000000 in
set_option maxRecDepth 100000 in
theorem spec_l10Text.calls (k : Nat) (adp0 : Addr) (a0_0 : Int) (a0_1 : Int) (a0_2 : Int) (r : ByteArray) (w : World) (hp0 : Kd.C k39 w (some adp0) 1 [(⟨a0_0, a0_1, a0_2⟩ : S39)]) (h : spec_l10Text.f k a0_0 a0_1 a0_2 = some r) :
  Calls Tryd.prog 65 #[.pointer (some adp0)] w fun e w' => e = .returned (.string r) ∧ Below w.heap.size w w' := by
 have HRp0 := Aside0.mk hp0
 clear hp0
 have HB := Aside0.mk (Below.refl w.heap.size w)
 have H : ((spec_l10Name.f a0_0).bind fun t125 => (if t125.size + 1 ≤ 9223372036854775807 then ((spec_l01Dec.f k a0_1).bind fun t127 => (if (t125 ++ (⟨#[32]⟩ : ByteArray)).size + t127.size ≤ 9223372036854775807 then (if ((t125 ++ (⟨#[32]⟩ : ByteArray)) ++ t127).size + 1 ≤ 9223372036854775807 then ((spec_l01Dec.f k a0_2).bind fun t129 => (if (((t125 ++ (⟨#[32]⟩ : ByteArray)) ++ t127) ++ (⟨#[32]⟩ : ByteArray)).size + t129.size ≤ 9223372036854775807 then (some ((((t125 ++ (⟨#[32]⟩ : ByteArray)) ++ t127) ++ (⟨#[32]⟩ : ByteArray)) ++ t129)) else (none))) else (none)) else (none))) else (none))) = some r := h
 clear h
 replace H := Option.bind_eq_some_iff.mp H
 obtain ⟨t125, A20, H⟩ := H
 replace H : (if t125.size + 1 ≤ 9223372036854775807 then ((spec_l01Dec.f k a0_1).bind fun t127 => (if (t125 ++ (⟨#[32]⟩ : ByteArray)).size + t127.size ≤ 9223372036854775807 then (if ((t125 ++ (⟨#[32]⟩ : ByteArray)) ++ t127).size + 1 ≤ 9223372036854775807 then ((spec_l01Dec.f k a0_2).bind fun t129 => (if (((t125 ++ (⟨#[32]⟩ : ByteArray)) ++ t127) ++ (⟨#[32]⟩ : ByteArray)).size + t129.size ≤ 9223372036854775807 then (some ((((t125 ++ (⟨#[32]⟩ : ByteArray)) ++ t127) ++ (⟨#[32]⟩ : ByteArray)) ++ t129)) else (none))) else (none)) else (none))) else (none)) = some r := H
 have A2 := Aside0.mk A20
 clear A20
 by_cases c3 : t125.size + 1 ≤ 9223372036854775807
 ·rw [if_pos c3] at H
  have c3b0 := eq_true c3
  have c3b1 : decide (t125.size + 1 ≤ 9223372036854775807) = true := decide_eq_true c3
  try have c3b2 : (9223372036854775807 < t125.size + 1) = False := eq_false (Nat.not_lt.2 c3)
  replace H := Option.bind_eq_some_iff.mp H
  obtain ⟨t127, A40, H⟩ := H
  replace H : (if (t125 ++ (⟨#[32]⟩ : ByteArray)).size + t127.size ≤ 9223372036854775807 then (if ((t125 ++ (⟨#[32]⟩ : ByteArray)) ++ t127).size + 1 ≤ 9223372036854775807 then ((spec_l01Dec.f k a0_2).bind fun t129 => (if (((t125 ++ (⟨#[32]⟩ : ByteArray)) ++ t127) ++ (⟨#[32]⟩ : ByteArray)).size + t129.size ≤ 9223372036854775807 then (some ((((t125 ++ (⟨#[32]⟩ : ByteArray)) ++ t127) ++ (⟨#[32]⟩ : ByteArray)) ++ t129)) else (none))) else (none)) else (none)) = some r := H
  have A4 := Aside0.mk A40
  clear A40
  by_cases c5 : (t125 ++ (⟨#[32]⟩ : ByteArray)).size + t127.size ≤ 9223372036854775807
  ·rw [if_pos c5] at H
   have c5b0 := eq_true c5
   have c5b1 : decide ((t125 ++ (⟨#[32]⟩ : ByteArray)).size + t127.size ≤ 9223372036854775807) = true := decide_eq_true c5
   try have c5b2 : (9223372036854775807 < (t125 ++ (⟨#[32]⟩ : ByteArray)).size + t127.size) = False := eq_false (Nat.not_lt.2 c5)
   try have c5z : (9223372036854775807 < t125.size + 1 + t127.size) = False := by simpa only [ByteArray.size_append, show ByteArray.size (⟨#[32]⟩ : ByteArray) = 1 from rfl] using c5b2
   by_cases c6 : ((t125 ++ (⟨#[32]⟩ : ByteArray)) ++ t127).size + 1 ≤ 9223372036854775807
   ·rw [if_pos c6] at H
    have c6b0 := eq_true c6
    have c6b1 : decide (((t125 ++ (⟨#[32]⟩ : ByteArray)) ++ t127).size + 1 ≤ 9223372036854775807) = true := decide_eq_true c6
    try have c6b2 : (9223372036854775807 < ((t125 ++ (⟨#[32]⟩ : ByteArray)) ++ t127).size + 1) = False := eq_false (Nat.not_lt.2 c6)
    try have c6z : (9223372036854775807 < t125.size + 1 + t127.size + 1) = False := by simpa only [ByteArray.size_append, show ByteArray.size (⟨#[32]⟩ : ByteArray) = 1 from rfl] using c6b2
    replace H := Option.bind_eq_some_iff.mp H
    obtain ⟨t129, A70, H⟩ := H
    replace H : (if (((t125 ++ (⟨#[32]⟩ : ByteArray)) ++ t127) ++ (⟨#[32]⟩ : ByteArray)).size + t129.size ≤ 9223372036854775807 then (some ((((t125 ++ (⟨#[32]⟩ : ByteArray)) ++ t127) ++ (⟨#[32]⟩ : ByteArray)) ++ t129)) else (none)) = some r := H
    have A7 := Aside0.mk A70
    clear A70
    by_cases c8 : (((t125 ++ (⟨#[32]⟩ : ByteArray)) ++ t127) ++ (⟨#[32]⟩ : ByteArray)).size + t129.size ≤ 9223372036854775807
    ·rw [if_pos c8] at H
     have c8b0 := eq_true c8
     have c8b1 : decide ((((t125 ++ (⟨#[32]⟩ : ByteArray)) ++ t127) ++ (⟨#[32]⟩ : ByteArray)).size + t129.size ≤ 9223372036854775807) = true := decide_eq_true c8
     try have c8b2 : (9223372036854775807 < (((t125 ++ (⟨#[32]⟩ : ByteArray)) ++ t127) ++ (⟨#[32]⟩ : ByteArray)).size + t129.size) = False := eq_false (Nat.not_lt.2 c8)
     try have c8z : (9223372036854775807 < t125.size + 1 + t127.size + 1 + t129.size) = False := by simpa only [ByteArray.size_append, show ByteArray.size (⟨#[32]⟩ : ByteArray) = 1 from rfl] using c8b2
     obtain rfl := Option.some.inj H
     go_enter Tryd.func65, Tryd.ntmps65
     try go_wp2
     have n0_ := Aside0.mk (bD HB.out)
     clear HB
     have HB := n0_
     clear n0_
     have p124 : 0 ≤ (0 : Int) := (by omega)
     have q124 : 0 < ([(⟨a0_0, a0_1, a0_2⟩ : S39)].length : Int) := (by simp)
     obtain ⟨ad124, e124, hx124_0, hx124_1, hx124_2⟩ := at_T39 HRp0.out 0 p124 q124
     have hw124_2 := hx124_2
     (try rw [show ((0 : Int)).toNat = 0 from rfl] at hw124_2)
     (try rw [show 0 * 3 = 0 from rfl] at hw124_2)
     (try rw [Addr.add_zero'] at hw124_2)
     have hw124_1 := hx124_1
     (try rw [show ((0 : Int)).toNat = 0 from rfl] at hw124_1)
     (try rw [show 0 * 3 = 0 from rfl] at hw124_1)
     (try rw [Addr.add_zero'] at hw124_1)
     have hw124_0 := hx124_0
     (try rw [show ((0 : Int)).toNat = 0 from rfl] at hw124_0)
     (try rw [show 0 * 3 = 0 from rfl] at hw124_0)
     (try rw [Addr.add_zero'] at hw124_0)
     replace hx124_0 : _ = (some (.int .i64 a0_0) : Option Value) := hx124_0
     replace hx124_1 : _ = (some (.int .i64 a0_1) : Option Value) := hx124_1
     replace hx124_2 : _ = (some (.int .i64 a0_2) : Option Value) := hx124_2
     obtain rfl : adp0 = ad124 := (by injection e124)
     have qi124 : (0 < [(⟨a0_0, a0_1, a0_2⟩ : S39)].length) = True := eq_true (by simp)
     (try rw [show ((0 : Int)).toNat = 0 from rfl] at hx124_0)
     (try rw [show 0 * 3 = 0 from rfl] at hx124_0)
     (try rw [Addr.add_zero'] at hx124_0)
     (try rw [show ((0 : Int)).toNat = 0 from rfl] at hx124_1)
     (try rw [show 0 * 3 = 0 from rfl] at hx124_1)
     (try rw [Addr.add_zero'] at hx124_1)
     (try rw [show ((0 : Int)).toNat = 0 from rfl] at hx124_2)
     (try rw [show 0 * 3 = 0 from rfl] at hx124_2)
     (try rw [Addr.add_zero'] at hx124_2)
     replace hx124_0 := (HB.out.cell (World.block_lt_of_cell? w _ hx124_0)).trans hx124_0
     replace hx124_1 := (HB.out.cell (World.block_lt_of_cell? w _ hx124_1)).trans hx124_1
     replace hx124_2 := (HB.out.cell (World.block_lt_of_cell? w _ hx124_2)).trans hx124_2
     replace p124 := eq_true p124
     replace q124 := eq_true q124
     have p126 : 0 ≤ (0 : Int) := (by omega)
     have q126 : 0 < ([(⟨a0_0, a0_1, a0_2⟩ : S39)].length : Int) := (by simp)
     obtain ⟨ad126, e126, hx126_0, hx126_1, hx126_2⟩ := at_T39 HRp0.out 0 p126 q126
     have hw126_2 := hx126_2
     (try rw [show ((0 : Int)).toNat = 0 from rfl] at hw126_2)
     (try rw [show 0 * 3 = 0 from rfl] at hw126_2)
     (try rw [Addr.add_zero'] at hw126_2)
     have hw126_1 := hx126_1
     (try rw [show ((0 : Int)).toNat = 0 from rfl] at hw126_1)
     (try rw [show 0 * 3 = 0 from rfl] at hw126_1)
     (try rw [Addr.add_zero'] at hw126_1)
     have hw126_0 := hx126_0
     (try rw [show ((0 : Int)).toNat = 0 from rfl] at hw126_0)
     (try rw [show 0 * 3 = 0 from rfl] at hw126_0)
     (try rw [Addr.add_zero'] at hw126_0)
     replace hx126_0 : _ = (some (.int .i64 a0_0) : Option Value) := hx126_0
     replace hx126_1 : _ = (some (.int .i64 a0_1) : Option Value) := hx126_1
     replace hx126_2 : _ = (some (.int .i64 a0_2) : Option Value) := hx126_2
     obtain rfl : adp0 = ad126 := (by injection e126)
     have qi126 : (0 < [(⟨a0_0, a0_1, a0_2⟩ : S39)].length) = True := eq_true (by simp)
     (try rw [show ((0 : Int)).toNat = 0 from rfl] at hx126_0)
     (try rw [show 0 * 3 = 0 from rfl] at hx126_0)
     (try rw [Addr.add_zero'] at hx126_0)
     (try rw [show ((0 : Int)).toNat = 0 from rfl] at hx126_1)
     (try rw [show 0 * 3 = 0 from rfl] at hx126_1)
     (try rw [Addr.add_zero'] at hx126_1)
     (try rw [show ((0 : Int)).toNat = 0 from rfl] at hx126_2)
     (try rw [show 0 * 3 = 0 from rfl] at hx126_2)
     (try rw [Addr.add_zero'] at hx126_2)
     replace hx126_0 := (HB.out.cell (World.block_lt_of_cell? w _ hx126_0)).trans hx126_0
     replace hx126_1 := (HB.out.cell (World.block_lt_of_cell? w _ hx126_1)).trans hx126_1
     replace hx126_2 := (HB.out.cell (World.block_lt_of_cell? w _ hx126_2)).trans hx126_2
     replace p126 := eq_true p126
     replace q126 := eq_true q126
     have p128 : 0 ≤ (0 : Int) := (by omega)
     have q128 : 0 < ([(⟨a0_0, a0_1, a0_2⟩ : S39)].length : Int) := (by simp)
     obtain ⟨ad128, e128, hx128_0, hx128_1, hx128_2⟩ := at_T39 HRp0.out 0 p128 q128
     have hw128_2 := hx128_2
     (try rw [show ((0 : Int)).toNat = 0 from rfl] at hw128_2)
     (try rw [show 0 * 3 = 0 from rfl] at hw128_2)
     (try rw [Addr.add_zero'] at hw128_2)
     have hw128_1 := hx128_1
     (try rw [show ((0 : Int)).toNat = 0 from rfl] at hw128_1)
     (try rw [show 0 * 3 = 0 from rfl] at hw128_1)
     (try rw [Addr.add_zero'] at hw128_1)
     have hw128_0 := hx128_0
     (try rw [show ((0 : Int)).toNat = 0 from rfl] at hw128_0)
     (try rw [show 0 * 3 = 0 from rfl] at hw128_0)
     (try rw [Addr.add_zero'] at hw128_0)
     replace hx128_0 : _ = (some (.int .i64 a0_0) : Option Value) := hx128_0
     replace hx128_1 : _ = (some (.int .i64 a0_1) : Option Value) := hx128_1
     replace hx128_2 : _ = (some (.int .i64 a0_2) : Option Value) := hx128_2
     obtain rfl : adp0 = ad128 := (by injection e128)
     have qi128 : (0 < [(⟨a0_0, a0_1, a0_2⟩ : S39)].length) = True := eq_true (by simp)
     (try rw [show ((0 : Int)).toNat = 0 from rfl] at hx128_0)
     (try rw [show 0 * 3 = 0 from rfl] at hx128_0)
     (try rw [Addr.add_zero'] at hx128_0)
     (try rw [show ((0 : Int)).toNat = 0 from rfl] at hx128_1)
     (try rw [show 0 * 3 = 0 from rfl] at hx128_1)
     (try rw [Addr.add_zero'] at hx128_1)
     (try rw [show ((0 : Int)).toNat = 0 from rfl] at hx128_2)
     (try rw [show 0 * 3 = 0 from rfl] at hx128_2)
     (try rw [Addr.add_zero'] at hx128_2)
     replace hx128_0 := (HB.out.cell (World.block_lt_of_cell? w _ hx128_0)).trans hx128_0
     replace hx128_1 := (HB.out.cell (World.block_lt_of_cell? w _ hx128_1)).trans hx128_1
     replace hx128_2 := (HB.out.cell (World.block_lt_of_cell? w _ hx128_2)).trans hx128_2
     replace p128 := eq_true p128
     replace q128 := eq_true q128
     refine start_ (n := 20) (S := fun w' => w'.cell? adp0 = some (.int .i64 a0_0) ∧ w'.cell? ⟨adp0.block, adp0.off + 1, none⟩ = some (.int .i64 a0_1) ∧ w'.cell? ⟨adp0.block, adp0.off + 2, none⟩ = some (.int .i64 a0_2) ∧ w'.cell? adp0 = some (.int .i64 a0_0) ∧ w'.cell? ⟨adp0.block, adp0.off + 1, none⟩ = some (.int .i64 a0_1) ∧ w'.cell? ⟨adp0.block, adp0.off + 2, none⟩ = some (.int .i64 a0_2) ∧ w'.cell? adp0 = some (.int .i64 a0_0) ∧ w'.cell? ⟨adp0.block, adp0.off + 1, none⟩ = some (.int .i64 a0_1) ∧ w'.cell? ⟨adp0.block, adp0.off + 2, none⟩ = some (.int .i64 a0_2)) (ds := []) #[F,F,F,F,F,F,F,F,F,F,F,F,F,F,F,F,F,F,F,F] (by kernel_rfl) rfl rfl ⟨((HB.out.cell (World.block_lt_of_cell? w _ hw124_0)).trans hw124_0), ((HB.out.cell (World.block_lt_of_cell? w _ hw124_1)).trans hw124_1), ((HB.out.cell (World.block_lt_of_cell? w _ hw124_2)).trans hw124_2), ((HB.out.cell (World.block_lt_of_cell? w _ hw126_0)).trans hw126_0), ((HB.out.cell (World.block_lt_of_cell? w _ hw126_1)).trans hw126_1), ((HB.out.cell (World.block_lt_of_cell? w _ hw126_2)).trans hw126_2), ((HB.out.cell (World.block_lt_of_cell? w _ hw128_0)).trans hw128_0), ((HB.out.cell (World.block_lt_of_cell? w _ hw128_1)).trans hw128_1), ((HB.out.cell (World.block_lt_of_cell? w _ hw128_2)).trans hw128_2)⟩ (fun hHeld => ?_); refine with_tabW spec_l10Text.tab1 spec_l10Text.bits1 (fun HT_ HW_ => ?_)
     generalize w.drew = w9 at HB hx124_0 hx124_1 hx124_2 hx126_0 hx126_1 hx126_2 hx128_0 hx128_1 hx128_2 hHeld ⊢
     refine pure_ (i := 0) (N := some 3) (v := ?_) (a' := ?_) #[T,F,F,F,F,F,F,F,F,F,F,F,F,F,F,F,F,F,F,F] rfl rfl (aO HT_.out (by kernel_rfl)) (fun _ _ _ h => h) (Or.inl ⟨by rfl, ?_⟩) ?_ ?_; rotate_left; (·intro w'; go_simp; with_reducible rfl); rotate_left; (·simp only [Act.put, sI, sZ, sS, iW, jW]; rfl)
     refine pure_ (i := 1) (N := some 4) (v := ?_) (a' := ?_) #[T,T,F,F,F,F,F,F,F,F,F,F,F,F,F,F,F,F,F,F] rfl rfl (aO HT_.out (by kernel_rfl)) (fun _ _ _ h => h) (Or.inl ⟨by rfl, ?_⟩) ?_ ?_; rotate_left; (·intro w'; go_simp; with_reducible rfl); rotate_left; (·simp only [Act.put, sI, sZ, sS, iW, jW]; rfl)
     refine pure_ (i := 2) (N := some 5) (v := ?_) (a' := ?_) #[T,T,T,F,F,F,F,F,F,F,F,F,F,F,F,F,F,F,F,F] rfl rfl (aO HT_.out (by kernel_rfl)) (fun _ _ _ h => h) (Or.inl ⟨by rfl, ?_⟩) ?_ ?_; rotate_left; (·intro w'; go_simp; with_reducible rfl); rotate_left; (·simp only [Act.put, sI, sZ, sS, iW, jW]; rfl)
     refine pure_ (i := 6) (N := some 9) (v := ?_) (a' := ?_) #[T,T,T,F,F,F,T,F,F,F,F,F,F,F,F,F,F,F,F,F] rfl rfl (aO HT_.out (by kernel_rfl)) (fun _ _ _ h => h) (Or.inl ⟨by rfl, ?_⟩) ?_ ?_; rotate_left; (·intro w'; go_simp; with_reducible rfl); rotate_left; (·simp only [Act.put, sI, sZ, sS, iW, jW]; rfl)
     refine pure_ (i := 7) (N := some 10) (v := ?_) (a' := ?_) #[T,T,T,F,F,F,T,T,F,F,F,F,F,F,F,F,F,F,F,F] rfl rfl (aO HT_.out (by kernel_rfl)) (fun _ _ _ h => h) (Or.inl ⟨by rfl, ?_⟩) ?_ ?_; rotate_left; (·intro w'; go_simp; with_reducible rfl); rotate_left; (·simp only [Act.put, sI, sZ, sS, iW, jW]; rfl)
     refine pure_ (i := 8) (N := some 11) (v := ?_) (a' := ?_) #[T,T,T,F,F,F,T,T,T,F,F,F,F,F,F,F,F,F,F,F] rfl rfl (aO HT_.out (by kernel_rfl)) (fun _ _ _ h => h) (Or.inl ⟨by rfl, ?_⟩) ?_ ?_; rotate_left; (·intro w'; go_simp; with_reducible rfl); rotate_left; (·simp only [Act.put, sI, sZ, sS, iW, jW]; rfl)
     refine pure_ (i := 13) (N := some 16) (v := ?_) (a' := ?_) #[T,T,T,F,F,F,T,T,T,F,F,F,F,T,F,F,F,F,F,F] rfl rfl (aO HT_.out (by kernel_rfl)) (fun _ _ _ h => h) (Or.inl ⟨by rfl, ?_⟩) ?_ ?_; rotate_left; (·intro w'; go_simp; with_reducible rfl); rotate_left; (·simp only [Act.put, sI, sZ, sS, iW, jW]; rfl)
     refine pure_ (i := 14) (N := some 17) (v := ?_) (a' := ?_) #[T,T,T,F,F,F,T,T,T,F,F,F,F,T,T,F,F,F,F,F] rfl rfl (aO HT_.out (by kernel_rfl)) (fun _ _ _ h => h) (Or.inl ⟨by rfl, ?_⟩) ?_ ?_; rotate_left; (·intro w'; go_simp; with_reducible rfl); rotate_left; (·simp only [Act.put, sI, sZ, sS, iW, jW]; rfl)
     refine pure_ (i := 15) (N := some 18) (v := ?_) (a' := ?_) #[T,T,T,F,F,F,T,T,T,F,F,F,F,T,T,T,F,F,F,F] rfl rfl (aO HT_.out (by kernel_rfl)) (fun _ _ _ h => h) (Or.inl ⟨by rfl, ?_⟩) ?_ ?_; rotate_left; (·intro w'; go_simp; with_reducible rfl); rotate_left; (·simp only [Act.put, sI, sZ, sS, iW, jW]; rfl)
     refine take_ (i := 3) (N := some 6) (v := ?_) (a' := ?_) #[T,T,T,T,F,F,T,T,T,F,F,F,F,T,T,T,F,F,F,F] rfl rfl (tW HT_.out HW_.out (by kernel_rfl)) (fun _ _ _ h => h) (Or.inl ⟨by rfl, ?_⟩) hHeld ?_ ?_; rotate_left; (·rintro w' ⟨s0, s1, s2, s3, s4, s5, s6, s7, s8⟩; go_simp; with_reducible rfl); rotate_left; (·simp only [Act.put, sI, sZ, sS, iW, jW]; rfl)
     refine take_ (i := 9) (N := some 12) (v := ?_) (a' := ?_) #[T,T,T,T,F,F,T,T,T,T,F,F,F,T,T,T,F,F,F,F] rfl rfl (tW HT_.out HW_.out (by kernel_rfl)) (fun _ _ _ h => h) (Or.inl ⟨by rfl, ?_⟩) hHeld ?_ ?_; rotate_left; (·rintro w' ⟨s0, s1, s2, s3, s4, s5, s6, s7, s8⟩; go_simp; with_reducible rfl); rotate_left; (·simp only [Act.put, sI, sZ, sS, iW, jW]; rfl)
     refine take_ (i := 16) (N := some 19) (v := ?_) (a' := ?_) #[T,T,T,T,F,F,T,T,T,T,F,F,F,T,T,T,T,F,F,F] rfl rfl (tW HT_.out HW_.out (by kernel_rfl)) (fun _ _ _ h => h) (Or.inl ⟨by rfl, ?_⟩) hHeld ?_ ?_; rotate_left; (·rintro w' ⟨s0, s1, s2, s3, s4, s5, s6, s7, s8⟩; go_simp; with_reducible rfl); rotate_left; (·simp only [Act.put, sI, sZ, sS, iW, jW]; rfl)
     refine one_ (i := 4) (N := some 7) #[T,T,T,T,T,F,T,T,T,T,F,F,F,T,T,T,T,F,F,F] rfl rfl (oO HT_.out (by kernel_rfl)) (by decide) (fun K hK => ?_)
     refine goes_ Tryd.func104 (by kernel_rfl) rfl #[.int .i64 a0_0] (by rfl) rfl rfl (by (try simp only [List.map_toArray, List.map_cons, List.map_nil]); first | done | rfl | (simp only [List.length_drop, List.length_take]; rfl)) ?_
     with_reducible refine (spec_l10Name.calls a0_0 t125 _ A2.out).mono ?_
     rintro e w' ⟨rfl, ⟨nd, rfl⟩⟩
     refine ⟨_, rfl, ?_⟩
     refine hK.out _ _ ⟨((HB.out.cell (World.block_lt_of_cell? w _ hw124_0)).trans hw124_0), ((HB.out.cell (World.block_lt_of_cell? w _ hw124_1)).trans hw124_1), ((HB.out.cell (World.block_lt_of_cell? w _ hw124_2)).trans hw124_2), ((HB.out.cell (World.block_lt_of_cell? w _ hw126_0)).trans hw126_0), ((HB.out.cell (World.block_lt_of_cell? w _ hw126_1)).trans hw126_1), ((HB.out.cell (World.block_lt_of_cell? w _ hw126_2)).trans hw126_2), ((HB.out.cell (World.block_lt_of_cell? w _ hw128_0)).trans hw128_0), ((HB.out.cell (World.block_lt_of_cell? w _ hw128_1)).trans hw128_1), ((HB.out.cell (World.block_lt_of_cell? w _ hw128_2)).trans hw128_2)⟩ (fun hHeld => ?_)
     clear hK K
     refine norm_ (a' := ?_) ?_ ?_
     rotate_left
     ·show Act.put _ (some 7) _ = _
      simp only [Act.put, sI, sZ, sS, iW, jW]
      rfl
     refine pure_ (i := 5) (N := some 8) (v := ?_) (a' := ?_) #[T,T,T,T,T,T,T,T,T,T,F,F,F,T,T,T,T,F,F,F] rfl rfl (aO HT_.out (by kernel_rfl)) (fun _ _ _ h => h) (Or.inl ⟨by rfl, ?_⟩) ?_ ?_; rotate_left; (·intro w'; go_simp; with_reducible rfl); rotate_left; (·simp only [Act.put, sI, sZ, sS, iW, jW]; rfl)
     refine one_ (i := 10) (N := some 13) #[T,T,T,T,T,T,T,T,T,T,T,F,F,T,T,T,T,F,F,F] rfl rfl (oO HT_.out (by kernel_rfl)) (by decide) (fun K hK => ?_)
     refine goes_ Tryd.func105 (by kernel_rfl) rfl #[.int .i64 a0_1] (by rfl) rfl rfl (by (try simp only [List.map_toArray, List.map_cons, List.map_nil]); first | done | rfl | (simp only [List.length_drop, List.length_take]; rfl)) ?_
     with_reducible refine (spec_l01Dec.calls k a0_1 t127 _ A4.out).mono ?_
     rintro e w10 ⟨rfl, hb⟩
     refine ⟨_, rfl, ?_⟩
     have n0_ := Aside0.mk (bP (by repeat (first | (with_reducible first | exact HB.out | apply bA | apply bN | apply bD) | exact HB.out)) hb)
     clear HB
     have HB := n0_
     clear n0_
     (try clear hb)
     (try clear hb2)
     (try clear hk)
     (try clear hi)
     refine hK.out _ _ ⟨((HB.out.cell (World.block_lt_of_cell? w _ hw124_0)).trans hw124_0), ((HB.out.cell (World.block_lt_of_cell? w _ hw124_1)).trans hw124_1), ((HB.out.cell (World.block_lt_of_cell? w _ hw124_2)).trans hw124_2), ((HB.out.cell (World.block_lt_of_cell? w _ hw126_0)).trans hw126_0), ((HB.out.cell (World.block_lt_of_cell? w _ hw126_1)).trans hw126_1), ((HB.out.cell (World.block_lt_of_cell? w _ hw126_2)).trans hw126_2), ((HB.out.cell (World.block_lt_of_cell? w _ hw128_0)).trans hw128_0), ((HB.out.cell (World.block_lt_of_cell? w _ hw128_1)).trans hw128_1), ((HB.out.cell (World.block_lt_of_cell? w _ hw128_2)).trans hw128_2)⟩ (fun hHeld => ?_)
     clear hK K
     refine norm_ (a' := ?_) ?_ ?_
     rotate_left
     ·show Act.put _ (some 13) _ = _
      simp only [Act.put, sI, sZ, sS, iW, jW]
      rfl
     refine pure_ (i := 11) (N := some 14) (v := ?_) (a' := ?_) #[T,T,T,T,T,T,T,T,T,T,T,T,F,T,T,T,T,F,F,F] rfl rfl (aO HT_.out (by kernel_rfl)) (fun _ _ _ h => h) (Or.inl ⟨by rfl, ?_⟩) ?_ ?_; rotate_left; (·intro w'; go_simp; with_reducible rfl); rotate_left; (·simp only [Act.put, sI, sZ, sS, iW, jW]; rfl)
     refine pure_ (i := 12) (N := some 15) (v := ?_) (a' := ?_) #[T,T,T,T,T,T,T,T,T,T,T,T,T,T,T,T,T,F,F,F] rfl rfl (aO HT_.out (by kernel_rfl)) (fun _ _ _ h => h) (Or.inl ⟨by rfl, ?_⟩) ?_ ?_; rotate_left; (·intro w'; go_simp; with_reducible rfl); rotate_left; (·simp only [Act.put, sI, sZ, sS, iW, jW]; rfl)
     refine one_ (i := 17) (N := some 20) #[T,T,T,T,T,T,T,T,T,T,T,T,T,T,T,T,T,T,F,F] rfl rfl (oO HT_.out (by kernel_rfl)) (by decide) (fun K hK => ?_)
     refine goes_ Tryd.func105 (by kernel_rfl) rfl #[.int .i64 a0_2] (by rfl) rfl rfl (by (try simp only [List.map_toArray, List.map_cons, List.map_nil]); first | done | rfl | (simp only [List.length_drop, List.length_take]; rfl)) ?_
     with_reducible refine (spec_l01Dec.calls k a0_2 t129 _ A7.out).mono ?_
     rintro e w11 ⟨rfl, hb⟩
     refine ⟨_, rfl, ?_⟩
     have n0_ := Aside0.mk (bP (by repeat (first | (with_reducible first | exact HB.out | apply bA | apply bN | apply bD) | exact HB.out)) hb)
     clear HB
     have HB := n0_
     clear n0_
     (try clear hb)
     (try clear hb2)
     (try clear hk)
     (try clear hi)
     refine hK.out _ _ ⟨((HB.out.cell (World.block_lt_of_cell? w _ hw124_0)).trans hw124_0), ((HB.out.cell (World.block_lt_of_cell? w _ hw124_1)).trans hw124_1), ((HB.out.cell (World.block_lt_of_cell? w _ hw124_2)).trans hw124_2), ((HB.out.cell (World.block_lt_of_cell? w _ hw126_0)).trans hw126_0), ((HB.out.cell (World.block_lt_of_cell? w _ hw126_1)).trans hw126_1), ((HB.out.cell (World.block_lt_of_cell? w _ hw126_2)).trans hw126_2), ((HB.out.cell (World.block_lt_of_cell? w _ hw128_0)).trans hw128_0), ((HB.out.cell (World.block_lt_of_cell? w _ hw128_1)).trans hw128_1), ((HB.out.cell (World.block_lt_of_cell? w _ hw128_2)).trans hw128_2)⟩ (fun hHeld => ?_)
     clear hK K
     refine norm_ (a' := ?_) ?_ ?_
     rotate_left
     ·show Act.put _ (some 20) _ = _
      simp only [Act.put, sI, sZ, sS, iW, jW]
      rfl
     refine pure_ (i := 18) (N := some 21) (v := ?_) (a' := ?_) #[T,T,T,T,T,T,T,T,T,T,T,T,T,T,T,T,T,T,T,F] rfl rfl (aO HT_.out (by kernel_rfl)) (fun _ _ _ h => h) (Or.inl ⟨by rfl, ?_⟩) ?_ ?_; rotate_left; (·intro w'; go_simp; with_reducible rfl); rotate_left; (·simp only [Act.put, sI, sZ, sS, iW, jW]; rfl)
     refine pure_ (i := 19) (N := some 2) (v := ?_) (a' := ?_) #[T,T,T,T,T,T,T,T,T,T,T,T,T,T,T,T,T,T,T,T] rfl rfl (aO HT_.out (by kernel_rfl)) (fun _ _ _ h => h) (Or.inl ⟨by rfl, ?_⟩) ?_ ?_; rotate_left; (·intro w'; go_simp; with_reducible rfl); rotate_left; (·simp only [Act.put, sI, sZ, sS, iW, jW]; rfl)
     refine done_ (done_of HT_.out (by kernel_rfl)) ?_
     try go_wp2
     go_ret
     exact ⟨by first | rfl | (simp [errW_none, errW_some] <;> rfl) | (simp [*, errW_none, errW_some] <;> rfl), by repeat (first | (with_reducible first | exact HB.out | apply bA | apply bN | apply bD) | exact HB.out)⟩
    ·rw [if_neg c8] at H
     exact absurd H (by simp)
   ·rw [if_neg c6] at H
    exact absurd H (by simp)
  ·rw [if_neg c5] at H
   exact absurd H (by simp)
 ·rw [if_neg c3] at H
  exact absurd H (by simp)

end Go.Proofs.YtlphcdophgkdpaaDoor.O
-- shrunk
-- tight
