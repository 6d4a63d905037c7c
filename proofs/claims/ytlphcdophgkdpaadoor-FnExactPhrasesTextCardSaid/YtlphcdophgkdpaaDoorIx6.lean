/- What functions of the given program compute, as plain Lean functions, and that the code comes to just that; by a program of this session over the kit's print. No condition. -/
import Derived.Test.YtlphcdophgkdpaaDoorIx0
import Derived.Test.YtlphcdophgkdpaaDoorIx5
namespace Go.Proofs.YtlphcdophgkdpaaDoor.I
open Go.RowKit Go.Proofs.YtlphcdophgkdpaaDoorW.PrintWords Go.Proofs.YtlphcdophgkdpaaDoorW.PrintLast Go.Proofs.YtlphcdophgkdpaaDoorW.PrintMore
open Go.Proofs.YtlphcdophgkdpaaDoorW.PrintWords renaming below_alloc → bA, pw_below_drewN → bN, below_drew1 → bD, below_size → bZ, below_step → bP
open Go.Proofs.YtlphcdophgkdpaaDoorW.PrintLast renaming take_ofW → tW, any_of → aO, one_of → oO, i64_w → iW, i32_w → jW
open Go.Proofs.YtlphcdophgkdpaaDoorW.PrintWords.Kd renaming R_alloc → rA, R_drewN → rN, R_drew → rD, C_alloc → cA, C_drewN → cN, C_drew → cD, R_lower → rL, R_below → rB
open List renaming setIfInBounds_toArray → sI, set_cons_zero → sZ, set_cons_succ → sS
open Bool renaming true → T, false → F
attribute [local go_sem] max2_int min2_int max_two min_two max_three min_three max_four min_four   -- for this text's walks alone
set_option linter.unusedVariables false
set_option linter.unusedSimpArgs false

/-! ### spec_l08Text: function 70 -/
def spec_l08Text.f (k : Nat) (a0_0 : ByteArray) (a0_1 : Int) (a0_2 : Int) (a0_3 : Int) (a0_4 : Int) (a0_5 : Int) : Option (ByteArray) := if a0_0.size + 1 ≤ 9223372036854775807 then ((spec_l01List.f k (([a0_1, a0_2, a0_3, a0_4, a0_5] : List Int))).bind fun t145 => (if (a0_0 ++ (⟨#[32]⟩ : ByteArray)).size + t145.size ≤ 9223372036854775807 then (some ((a0_0 ++ (⟨#[32]⟩ : ByteArray)) ++ t145)) else (none))) else (none)
theorem spec_l08Text.mono : ∀ a0 a1 a2 a3 a4 a5 k, LeO (spec_l08Text.f k a0 a1 a2 a3 a4 a5) (spec_l08Text.f (k + 1) a0 a1 a2 a3 a4 a5) := by
 intro a0 a1 a2 a3 a4 a5 k
 unfold spec_l08Text.f
 repeat' first
   | (with_reducible exact spec_l01List.mono _ _)
   | (with_reducible exact LeO.refl _)
   | (with_reducible exact LeO.none _)
   | (with_reducible refine LeO.ite ?_ ?_)
   | (with_reducible refine LeO.bind ?_ (fun _ => ?_))
   | exact spec_l01List.mono _ _
   | exact LeO.none _
   | refine LeO.ite ?_ ?_
   | refine LeO.bind ?_ (fun _ => ?_)
def spec_l08Text.T1 : Bool × List (List Nat × List Nat) := (true, [([], []), ([0], [0]), ([1], [1]), ([2], [2]), ([3], [3]), ([], []), ([5], [5]), ([6], [6]), ([7], [7]), ([], []), ([9], [9]), ([10], [10]), ([11], [11]), ([], []), ([13], [13]), ([14], [14]), ([15], [15]), ([], []), ([17], [17]), ([18], [18]), ([19], [19]), ([], []), ([21], [21]), ([22], [22]), ([23], [23]), ([8, 12, 16, 20, 24], [8, 12, 16, 20, 24]), ([25], [25]), ([4, 26], [4, 26]), ([27, 26, 0, 1, 2, 3, 4, 5, 6, 7, 8, 9, 10, 11, 12, 13, 14, 15, 16, 17, 18, 19, 20, 21, 22, 23, 24, 25, 26, 27], [27])])
def spec_l08Text.B1 : List Nat := [0, 1, 3, 7, 15, 0, 32, 96, 224, 0, 512, 1536, 3584, 0, 8192, 24576, 57344, 0, 131072, 393216, 917504, 0, 2097152, 6291456, 14680064, 33554400, 67108832, 134217727, 268435455]
theorem spec_l08Text.tab1 : rtab .any (opsOf Tryd.f70 1) = spec_l08Text.T1 := by kernel_rfl
theorem spec_l08Text.bits1 : waitsOk spec_l08Text.T1.2 spec_l08Text.B1 = true := by kernel_rfl
set_option maxHeartbeats 8000000 in
set_option maxRecDepth 100000 in
theorem spec_l08Text.calls (k : Nat) (adp0 : Addr) (a0_0 : ByteArray) (a0_1 : Int) (a0_2 : Int) (a0_3 : Int) (a0_4 : Int) (a0_5 : Int) (r : ByteArray) (w : World) (hp0 : Kd.C k46 w (some adp0) 1 [(⟨a0_0, a0_1, a0_2, a0_3, a0_4, a0_5⟩ : S46)]) (h : spec_l08Text.f k a0_0 a0_1 a0_2 a0_3 a0_4 a0_5 = some r) :
  Calls Tryd.prog 70 #[.pointer (some adp0)] w fun e w' => e = .returned (.string r) ∧ Below w.heap.size w w' := by
 have HRp0 := Aside0.mk hp0
 clear hp0
 have HB := Aside0.mk (Below.refl w.heap.size w)
 have H : (if a0_0.size + 1 ≤ 9223372036854775807 then ((spec_l01List.f k (([a0_1, a0_2, a0_3, a0_4, a0_5] : List Int))).bind fun t145 => (if (a0_0 ++ (⟨#[32]⟩ : ByteArray)).size + t145.size ≤ 9223372036854775807 then (some ((a0_0 ++ (⟨#[32]⟩ : ByteArray)) ++ t145)) else (none))) else (none)) = some r := h
 clear h
 by_cases c2 : a0_0.size + 1 ≤ 9223372036854775807
 ·rw [if_pos c2] at H
  have c2b0 := eq_true c2
  have c2b1 : decide (a0_0.size + 1 ≤ 9223372036854775807) = true := decide_eq_true c2
  try have c2b2 : (9223372036854775807 < a0_0.size + 1) = False := eq_false (Nat.not_lt.2 c2)
  obtain ⟨y142, hy142⟩ : ∃ y_ : List Int, y_ = (([a0_1, a0_2, a0_3, a0_4, a0_5] : List Int)) := ⟨_, rfl⟩
  replace H : ((spec_l01List.f k y142).bind fun t145 => (if (a0_0 ++ (⟨#[32]⟩ : ByteArray)).size + t145.size ≤ 9223372036854775807 then (some ((a0_0 ++ (⟨#[32]⟩ : ByteArray)) ++ t145)) else (none))) = some r := by first | (rw [hy142]; with_reducible exact H) | (have H2_ := (Option.bind_some _ _).symm.trans H; rw [hy142]; with_reducible exact H2_) | (have H2_ := (Option.bind_some _ _).symm.trans H; with_reducible exact H2_) | with_reducible exact H | (rw [hy142]; exact H) | exact H
  have Ny142 := Aside0.mk hy142
  clear hy142
  replace H := Option.bind_eq_some_iff.mp H
  obtain ⟨t145, A30, H⟩ := H
  replace H : (if (a0_0 ++ (⟨#[32]⟩ : ByteArray)).size + t145.size ≤ 9223372036854775807 then (some ((a0_0 ++ (⟨#[32]⟩ : ByteArray)) ++ t145)) else (none)) = some r := H
  have A3 := Aside0.mk A30
  clear A30
  by_cases c4 : (a0_0 ++ (⟨#[32]⟩ : ByteArray)).size + t145.size ≤ 9223372036854775807
  ·rw [if_pos c4] at H
   have c4b0 := eq_true c4
   have c4b1 : decide ((a0_0 ++ (⟨#[32]⟩ : ByteArray)).size + t145.size ≤ 9223372036854775807) = true := decide_eq_true c4
   try have c4b2 : (9223372036854775807 < (a0_0 ++ (⟨#[32]⟩ : ByteArray)).size + t145.size) = False := eq_false (Nat.not_lt.2 c4)
   try have c4z : (9223372036854775807 < a0_0.size + 1 + t145.size) = False := by simpa only [ByteArray.size_append, show ByteArray.size (⟨#[32]⟩ : ByteArray) = 1 from rfl] using c4b2
   obtain rfl := Option.some.inj H
   go_enter Tryd.func70, Tryd.ntmps70
   try go_wp2
   have n0_ := Aside0.mk (bD HB.out)
   clear HB
   have HB := n0_
   clear n0_
   have p136 : 0 ≤ (0 : Int) := (by omega)
   have q136 : 0 < ([(⟨a0_0, a0_1, a0_2, a0_3, a0_4, a0_5⟩ : S46)].length : Int) := (by simp)
   obtain ⟨ad136, e136, hx136_0, hx136_1, hx136_2, hx136_3, hx136_4, hx136_5⟩ := at_T46 HRp0.out 0 p136 q136
   have hw136_5 := hx136_5
   (try rw [show ((0 : Int)).toNat = 0 from rfl] at hw136_5)
   (try rw [show 0 * 6 = 0 from rfl] at hw136_5)
   (try rw [Addr.add_zero'] at hw136_5)
   have hw136_4 := hx136_4
   (try rw [show ((0 : Int)).toNat = 0 from rfl] at hw136_4)
   (try rw [show 0 * 6 = 0 from rfl] at hw136_4)
   (try rw [Addr.add_zero'] at hw136_4)
   have hw136_3 := hx136_3
   (try rw [show ((0 : Int)).toNat = 0 from rfl] at hw136_3)
   (try rw [show 0 * 6 = 0 from rfl] at hw136_3)
   (try rw [Addr.add_zero'] at hw136_3)
   have hw136_2 := hx136_2
   (try rw [show ((0 : Int)).toNat = 0 from rfl] at hw136_2)
   (try rw [show 0 * 6 = 0 from rfl] at hw136_2)
   (try rw [Addr.add_zero'] at hw136_2)
   have hw136_1 := hx136_1
   (try rw [show ((0 : Int)).toNat = 0 from rfl] at hw136_1)
   (try rw [show 0 * 6 = 0 from rfl] at hw136_1)
   (try rw [Addr.add_zero'] at hw136_1)
   have hw136_0 := hx136_0
   (try rw [show ((0 : Int)).toNat = 0 from rfl] at hw136_0)
   (try rw [show 0 * 6 = 0 from rfl] at hw136_0)
   (try rw [Addr.add_zero'] at hw136_0)
   replace hx136_0 : _ = (some (.string a0_0) : Option Value) := hx136_0
   replace hx136_1 : _ = (some (.int .i64 a0_1) : Option Value) := hx136_1
   replace hx136_2 : _ = (some (.int .i64 a0_2) : Option Value) := hx136_2
   replace hx136_3 : _ = (some (.int .i64 a0_3) : Option Value) := hx136_3
   replace hx136_4 : _ = (some (.int .i64 a0_4) : Option Value) := hx136_4
   replace hx136_5 : _ = (some (.int .i64 a0_5) : Option Value) := hx136_5
   obtain rfl : adp0 = ad136 := (by injection e136)
   have qi136 : (0 < [(⟨a0_0, a0_1, a0_2, a0_3, a0_4, a0_5⟩ : S46)].length) = True := eq_true (by simp)
   (try rw [show ((0 : Int)).toNat = 0 from rfl] at hx136_0)
   (try rw [show 0 * 6 = 0 from rfl] at hx136_0)
   (try rw [Addr.add_zero'] at hx136_0)
   (try rw [show ((0 : Int)).toNat = 0 from rfl] at hx136_1)
   (try rw [show 0 * 6 = 0 from rfl] at hx136_1)
   (try rw [Addr.add_zero'] at hx136_1)
   (try rw [show ((0 : Int)).toNat = 0 from rfl] at hx136_2)
   (try rw [show 0 * 6 = 0 from rfl] at hx136_2)
   (try rw [Addr.add_zero'] at hx136_2)
   (try rw [show ((0 : Int)).toNat = 0 from rfl] at hx136_3)
   (try rw [show 0 * 6 = 0 from rfl] at hx136_3)
   (try rw [Addr.add_zero'] at hx136_3)
   (try rw [show ((0 : Int)).toNat = 0 from rfl] at hx136_4)
   (try rw [show 0 * 6 = 0 from rfl] at hx136_4)
   (try rw [Addr.add_zero'] at hx136_4)
   (try rw [show ((0 : Int)).toNat = 0 from rfl] at hx136_5)
   (try rw [show 0 * 6 = 0 from rfl] at hx136_5)
   (try rw [Addr.add_zero'] at hx136_5)
   replace hx136_0 := (HB.out.cell (World.block_lt_of_cell? w _ hx136_0)).trans hx136_0
   replace hx136_1 := (HB.out.cell (World.block_lt_of_cell? w _ hx136_1)).trans hx136_1
   replace hx136_2 := (HB.out.cell (World.block_lt_of_cell? w _ hx136_2)).trans hx136_2
   replace hx136_3 := (HB.out.cell (World.block_lt_of_cell? w _ hx136_3)).trans hx136_3
   replace hx136_4 := (HB.out.cell (World.block_lt_of_cell? w _ hx136_4)).trans hx136_4
   replace hx136_5 := (HB.out.cell (World.block_lt_of_cell? w _ hx136_5)).trans hx136_5
   replace p136 := eq_true p136
   replace q136 := eq_true q136
   have p137 : 0 ≤ (0 : Int) := (by omega)
   have q137 : 0 < ([(⟨a0_0, a0_1, a0_2, a0_3, a0_4, a0_5⟩ : S46)].length : Int) := (by simp)
   obtain ⟨ad137, e137, hx137_0, hx137_1, hx137_2, hx137_3, hx137_4, hx137_5⟩ := at_T46 HRp0.out 0 p137 q137
   have hw137_5 := hx137_5
   (try rw [show ((0 : Int)).toNat = 0 from rfl] at hw137_5)
   (try rw [show 0 * 6 = 0 from rfl] at hw137_5)
   (try rw [Addr.add_zero'] at hw137_5)
   have hw137_4 := hx137_4
   (try rw [show ((0 : Int)).toNat = 0 from rfl] at hw137_4)
   (try rw [show 0 * 6 = 0 from rfl] at hw137_4)
   (try rw [Addr.add_zero'] at hw137_4)
   have hw137_3 := hx137_3
   (try rw [show ((0 : Int)).toNat = 0 from rfl] at hw137_3)
   (try rw [show 0 * 6 = 0 from rfl] at hw137_3)
   (try rw [Addr.add_zero'] at hw137_3)
   have hw137_2 := hx137_2
   (try rw [show ((0 : Int)).toNat = 0 from rfl] at hw137_2)
   (try rw [show 0 * 6 = 0 from rfl] at hw137_2)
   (try rw [Addr.add_zero'] at hw137_2)
   have hw137_1 := hx137_1
   (try rw [show ((0 : Int)).toNat = 0 from rfl] at hw137_1)
   (try rw [show 0 * 6 = 0 from rfl] at hw137_1)
   (try rw [Addr.add_zero'] at hw137_1)
   have hw137_0 := hx137_0
   (try rw [show ((0 : Int)).toNat = 0 from rfl] at hw137_0)
   (try rw [show 0 * 6 = 0 from rfl] at hw137_0)
   (try rw [Addr.add_zero'] at hw137_0)
   replace hx137_0 : _ = (some (.string a0_0) : Option Value) := hx137_0
   replace hx137_1 : _ = (some (.int .i64 a0_1) : Option Value) := hx137_1
   replace hx137_2 : _ = (some (.int .i64 a0_2) : Option Value) := hx137_2
   replace hx137_3 : _ = (some (.int .i64 a0_3) : Option Value) := hx137_3
   replace hx137_4 : _ = (some (.int .i64 a0_4) : Option Value) := hx137_4
   replace hx137_5 : _ = (some (.int .i64 a0_5) : Option Value) := hx137_5
   obtain rfl : adp0 = ad137 := (by injection e137)
   have qi137 : (0 < [(⟨a0_0, a0_1, a0_2, a0_3, a0_4, a0_5⟩ : S46)].length) = True := eq_true (by simp)
   (try rw [show ((0 : Int)).toNat = 0 from rfl] at hx137_0)
   (try rw [show 0 * 6 = 0 from rfl] at hx137_0)
   (try rw [Addr.add_zero'] at hx137_0)
   (try rw [show ((0 : Int)).toNat = 0 from rfl] at hx137_1)
   (try rw [show 0 * 6 = 0 from rfl] at hx137_1)
   (try rw [Addr.add_zero'] at hx137_1)
   (try rw [show ((0 : Int)).toNat = 0 from rfl] at hx137_2)
   (try rw [show 0 * 6 = 0 from rfl] at hx137_2)
   (try rw [Addr.add_zero'] at hx137_2)
   (try rw [show ((0 : Int)).toNat = 0 from rfl] at hx137_3)
   (try rw [show 0 * 6 = 0 from rfl] at hx137_3)
   (try rw [Addr.add_zero'] at hx137_3)
   (try rw [show ((0 : Int)).toNat = 0 from rfl] at hx137_4)
   (try rw [show 0 * 6 = 0 from rfl] at hx137_4)
   (try rw [Addr.add_zero'] at hx137_4)
   (try rw [show ((0 : Int)).toNat = 0 from rfl] at hx137_5)
   (try rw [show 0 * 6 = 0 from rfl] at hx137_5)
   (try rw [Addr.add_zero'] at hx137_5)
   replace hx137_0 := (HB.out.cell (World.block_lt_of_cell? w _ hx137_0)).trans hx137_0
   replace hx137_1 := (HB.out.cell (World.block_lt_of_cell? w _ hx137_1)).trans hx137_1
   replace hx137_2 := (HB.out.cell (World.block_lt_of_cell? w _ hx137_2)).trans hx137_2
   replace hx137_3 := (HB.out.cell (World.block_lt_of_cell? w _ hx137_3)).trans hx137_3
   replace hx137_4 := (HB.out.cell (World.block_lt_of_cell? w _ hx137_4)).trans hx137_4
   replace hx137_5 := (HB.out.cell (World.block_lt_of_cell? w _ hx137_5)).trans hx137_5
   replace p137 := eq_true p137
   replace q137 := eq_true q137
   have p138 : 0 ≤ (0 : Int) := (by omega)
   have q138 : 0 < ([(⟨a0_0, a0_1, a0_2, a0_3, a0_4, a0_5⟩ : S46)].length : Int) := (by simp)
   obtain ⟨ad138, e138, hx138_0, hx138_1, hx138_2, hx138_3, hx138_4, hx138_5⟩ := at_T46 HRp0.out 0 p138 q138
   have hw138_5 := hx138_5
   (try rw [show ((0 : Int)).toNat = 0 from rfl] at hw138_5)
   (try rw [show 0 * 6 = 0 from rfl] at hw138_5)
   (try rw [Addr.add_zero'] at hw138_5)
   have hw138_4 := hx138_4
   (try rw [show ((0 : Int)).toNat = 0 from rfl] at hw138_4)
   (try rw [show 0 * 6 = 0 from rfl] at hw138_4)
   (try rw [Addr.add_zero'] at hw138_4)
   have hw138_3 := hx138_3
   (try rw [show ((0 : Int)).toNat = 0 from rfl] at hw138_3)
   (try rw [show 0 * 6 = 0 from rfl] at hw138_3)
   (try rw [Addr.add_zero'] at hw138_3)
   have hw138_2 := hx138_2
   (try rw [show ((0 : Int)).toNat = 0 from rfl] at hw138_2)
   (try rw [show 0 * 6 = 0 from rfl] at hw138_2)
   (try rw [Addr.add_zero'] at hw138_2)
   have hw138_1 := hx138_1
   (try rw [show ((0 : Int)).toNat = 0 from rfl] at hw138_1)
   (try rw [show 0 * 6 = 0 from rfl] at hw138_1)
   (try rw [Addr.add_zero'] at hw138_1)
   have hw138_0 := hx138_0
   (try rw [show ((0 : Int)).toNat = 0 from rfl] at hw138_0)
   (try rw [show 0 * 6 = 0 from rfl] at hw138_0)
   (try rw [Addr.add_zero'] at hw138_0)
   replace hx138_0 : _ = (some (.string a0_0) : Option Value) := hx138_0
   replace hx138_1 : _ = (some (.int .i64 a0_1) : Option Value) := hx138_1
   replace hx138_2 : _ = (some (.int .i64 a0_2) : Option Value) := hx138_2
   replace hx138_3 : _ = (some (.int .i64 a0_3) : Option Value) := hx138_3
   replace hx138_4 : _ = (some (.int .i64 a0_4) : Option Value) := hx138_4
   replace hx138_5 : _ = (some (.int .i64 a0_5) : Option Value) := hx138_5
   obtain rfl : adp0 = ad138 := (by injection e138)
   have qi138 : (0 < [(⟨a0_0, a0_1, a0_2, a0_3, a0_4, a0_5⟩ : S46)].length) = True := eq_true (by simp)
   (try rw [show ((0 : Int)).toNat = 0 from rfl] at hx138_0)
   (try rw [show 0 * 6 = 0 from rfl] at hx138_0)
   (try rw [Addr.add_zero'] at hx138_0)
   (try rw [show ((0 : Int)).toNat = 0 from rfl] at hx138_1)
   (try rw [show 0 * 6 = 0 from rfl] at hx138_1)
   (try rw [Addr.add_zero'] at hx138_1)
   (try rw [show ((0 : Int)).toNat = 0 from rfl] at hx138_2)
   (try rw [show 0 * 6 = 0 from rfl] at hx138_2)
   (try rw [Addr.add_zero'] at hx138_2)
   (try rw [show ((0 : Int)).toNat = 0 from rfl] at hx138_3)
   (try rw [show 0 * 6 = 0 from rfl] at hx138_3)
   (try rw [Addr.add_zero'] at hx138_3)
   (try rw [show ((0 : Int)).toNat = 0 from rfl] at hx138_4)
   (try rw [show 0 * 6 = 0 from rfl] at hx138_4)
   (try rw [Addr.add_zero'] at hx138_4)
   (try rw [show ((0 : Int)).toNat = 0 from rfl] at hx138_5)
   (try rw [show 0 * 6 = 0 from rfl] at hx138_5)
   (try rw [Addr.add_zero'] at hx138_5)
   replace hx138_0 := (HB.out.cell (World.block_lt_of_cell? w _ hx138_0)).trans hx138_0
   replace hx138_1 := (HB.out.cell (World.block_lt_of_cell? w _ hx138_1)).trans hx138_1
   replace hx138_2 := (HB.out.cell (World.block_lt_of_cell? w _ hx138_2)).trans hx138_2
   replace hx138_3 := (HB.out.cell (World.block_lt_of_cell? w _ hx138_3)).trans hx138_3
   replace hx138_4 := (HB.out.cell (World.block_lt_of_cell? w _ hx138_4)).trans hx138_4
   replace hx138_5 := (HB.out.cell (World.block_lt_of_cell? w _ hx138_5)).trans hx138_5
   replace p138 := eq_true p138
   replace q138 := eq_true q138
   have p139 : 0 ≤ (0 : Int) := (by omega)
   have q139 : 0 < ([(⟨a0_0, a0_1, a0_2, a0_3, a0_4, a0_5⟩ : S46)].length : Int) := (by simp)
   obtain ⟨ad139, e139, hx139_0, hx139_1, hx139_2, hx139_3, hx139_4, hx139_5⟩ := at_T46 HRp0.out 0 p139 q139
   have hw139_5 := hx139_5
   (try rw [show ((0 : Int)).toNat = 0 from rfl] at hw139_5)
   (try rw [show 0 * 6 = 0 from rfl] at hw139_5)
   (try rw [Addr.add_zero'] at hw139_5)
   have hw139_4 := hx139_4
   (try rw [show ((0 : Int)).toNat = 0 from rfl] at hw139_4)
   (try rw [show 0 * 6 = 0 from rfl] at hw139_4)
   (try rw [Addr.add_zero'] at hw139_4)
   have hw139_3 := hx139_3
   (try rw [show ((0 : Int)).toNat = 0 from rfl] at hw139_3)
   (try rw [show 0 * 6 = 0 from rfl] at hw139_3)
   (try rw [Addr.add_zero'] at hw139_3)
   have hw139_2 := hx139_2
   (try rw [show ((0 : Int)).toNat = 0 from rfl] at hw139_2)
   (try rw [show 0 * 6 = 0 from rfl] at hw139_2)
   (try rw [Addr.add_zero'] at hw139_2)
   have hw139_1 := hx139_1
   (try rw [show ((0 : Int)).toNat = 0 from rfl] at hw139_1)
   (try rw [show 0 * 6 = 0 from rfl] at hw139_1)
   (try rw [Addr.add_zero'] at hw139_1)
   have hw139_0 := hx139_0
   (try rw [show ((0 : Int)).toNat = 0 from rfl] at hw139_0)
   (try rw [show 0 * 6 = 0 from rfl] at hw139_0)
   (try rw [Addr.add_zero'] at hw139_0)
   replace hx139_0 : _ = (some (.string a0_0) : Option Value) := hx139_0
   replace hx139_1 : _ = (some (.int .i64 a0_1) : Option Value) := hx139_1
   replace hx139_2 : _ = (some (.int .i64 a0_2) : Option Value) := hx139_2
   replace hx139_3 : _ = (some (.int .i64 a0_3) : Option Value) := hx139_3
   replace hx139_4 : _ = (some (.int .i64 a0_4) : Option Value) := hx139_4
   replace hx139_5 : _ = (some (.int .i64 a0_5) : Option Value) := hx139_5
   obtain rfl : adp0 = ad139 := (by injection e139)
   have qi139 : (0 < [(⟨a0_0, a0_1, a0_2, a0_3, a0_4, a0_5⟩ : S46)].length) = True := eq_true (by simp)
   (try rw [show ((0 : Int)).toNat = 0 from rfl] at hx139_0)
   (try rw [show 0 * 6 = 0 from rfl] at hx139_0)
   (try rw [Addr.add_zero'] at hx139_0)
   (try rw [show ((0 : Int)).toNat = 0 from rfl] at hx139_1)
   (try rw [show 0 * 6 = 0 from rfl] at hx139_1)
   (try rw [Addr.add_zero'] at hx139_1)
   (try rw [show ((0 : Int)).toNat = 0 from rfl] at hx139_2)
   (try rw [show 0 * 6 = 0 from rfl] at hx139_2)
   (try rw [Addr.add_zero'] at hx139_2)
   (try rw [show ((0 : Int)).toNat = 0 from rfl] at hx139_3)
   (try rw [show 0 * 6 = 0 from rfl] at hx139_3)
   (try rw [Addr.add_zero'] at hx139_3)
   (try rw [show ((0 : Int)).toNat = 0 from rfl] at hx139_4)
   (try rw [show 0 * 6 = 0 from rfl] at hx139_4)
   (try rw [Addr.add_zero'] at hx139_4)
   (try rw [show ((0 : Int)).toNat = 0 from rfl] at hx139_5)
   (try rw [show 0 * 6 = 0 from rfl] at hx139_5)
   (try rw [Addr.add_zero'] at hx139_5)
   replace hx139_0 := (HB.out.cell (World.block_lt_of_cell? w _ hx139_0)).trans hx139_0
   replace hx139_1 := (HB.out.cell (World.block_lt_of_cell? w _ hx139_1)).trans hx139_1
   replace hx139_2 := (HB.out.cell (World.block_lt_of_cell? w _ hx139_2)).trans hx139_2
   replace hx139_3 := (HB.out.cell (World.block_lt_of_cell? w _ hx139_3)).trans hx139_3
   replace hx139_4 := (HB.out.cell (World.block_lt_of_cell? w _ hx139_4)).trans hx139_4
   replace hx139_5 := (HB.out.cell (World.block_lt_of_cell? w _ hx139_5)).trans hx139_5
   replace p139 := eq_true p139
   replace q139 := eq_true q139
   have p140 : 0 ≤ (0 : Int) := (by omega)
   have q140 : 0 < ([(⟨a0_0, a0_1, a0_2, a0_3, a0_4, a0_5⟩ : S46)].length : Int) := (by simp)
   obtain ⟨ad140, e140, hx140_0, hx140_1, hx140_2, hx140_3, hx140_4, hx140_5⟩ := at_T46 HRp0.out 0 p140 q140
   have hw140_5 := hx140_5
   (try rw [show ((0 : Int)).toNat = 0 from rfl] at hw140_5)
   (try rw [show 0 * 6 = 0 from rfl] at hw140_5)
   (try rw [Addr.add_zero'] at hw140_5)
   have hw140_4 := hx140_4
   (try rw [show ((0 : Int)).toNat = 0 from rfl] at hw140_4)
   (try rw [show 0 * 6 = 0 from rfl] at hw140_4)
   (try rw [Addr.add_zero'] at hw140_4)
   have hw140_3 := hx140_3
   (try rw [show ((0 : Int)).toNat = 0 from rfl] at hw140_3)
   (try rw [show 0 * 6 = 0 from rfl] at hw140_3)
   (try rw [Addr.add_zero'] at hw140_3)
   have hw140_2 := hx140_2
   (try rw [show ((0 : Int)).toNat = 0 from rfl] at hw140_2)
   (try rw [show 0 * 6 = 0 from rfl] at hw140_2)
   (try rw [Addr.add_zero'] at hw140_2)
   have hw140_1 := hx140_1
   (try rw [show ((0 : Int)).toNat = 0 from rfl] at hw140_1)
   (try rw [show 0 * 6 = 0 from rfl] at hw140_1)
   (try rw [Addr.add_zero'] at hw140_1)
   have hw140_0 := hx140_0
   (try rw [show ((0 : Int)).toNat = 0 from rfl] at hw140_0)
   (try rw [show 0 * 6 = 0 from rfl] at hw140_0)
   (try rw [Addr.add_zero'] at hw140_0)
   replace hx140_0 : _ = (some (.string a0_0) : Option Value) := hx140_0
   replace hx140_1 : _ = (some (.int .i64 a0_1) : Option Value) := hx140_1
   replace hx140_2 : _ = (some (.int .i64 a0_2) : Option Value) := hx140_2
   replace hx140_3 : _ = (some (.int .i64 a0_3) : Option Value) := hx140_3
   replace hx140_4 : _ = (some (.int .i64 a0_4) : Option Value) := hx140_4
   replace hx140_5 : _ = (some (.int .i64 a0_5) : Option Value) := hx140_5
   obtain rfl : adp0 = ad140 := (by injection e140)
   have qi140 : (0 < [(⟨a0_0, a0_1, a0_2, a0_3, a0_4, a0_5⟩ : S46)].length) = True := eq_true (by simp)
   (try rw [show ((0 : Int)).toNat = 0 from rfl] at hx140_0)
   (try rw [show 0 * 6 = 0 from rfl] at hx140_0)
   (try rw [Addr.add_zero'] at hx140_0)
   (try rw [show ((0 : Int)).toNat = 0 from rfl] at hx140_1)
   (try rw [show 0 * 6 = 0 from rfl] at hx140_1)
   (try rw [Addr.add_zero'] at hx140_1)
   (try rw [show ((0 : Int)).toNat = 0 from rfl] at hx140_2)
   (try rw [show 0 * 6 = 0 from rfl] at hx140_2)
   (try rw [Addr.add_zero'] at hx140_2)
   (try rw [show ((0 : Int)).toNat = 0 from rfl] at hx140_3)
   (try rw [show 0 * 6 = 0 from rfl] at hx140_3)
   (try rw [Addr.add_zero'] at hx140_3)
   (try rw [show ((0 : Int)).toNat = 0 from rfl] at hx140_4)
   (try rw [show 0 * 6 = 0 from rfl] at hx140_4)
   (try rw [Addr.add_zero'] at hx140_4)
   (try rw [show ((0 : Int)).toNat = 0 from rfl] at hx140_5)
   (try rw [show 0 * 6 = 0 from rfl] at hx140_5)
   (try rw [Addr.add_zero'] at hx140_5)
   replace hx140_0 := (HB.out.cell (World.block_lt_of_cell? w _ hx140_0)).trans hx140_0
   replace hx140_1 := (HB.out.cell (World.block_lt_of_cell? w _ hx140_1)).trans hx140_1
   replace hx140_2 := (HB.out.cell (World.block_lt_of_cell? w _ hx140_2)).trans hx140_2
   replace hx140_3 := (HB.out.cell (World.block_lt_of_cell? w _ hx140_3)).trans hx140_3
   replace hx140_4 := (HB.out.cell (World.block_lt_of_cell? w _ hx140_4)).trans hx140_4
   replace hx140_5 := (HB.out.cell (World.block_lt_of_cell? w _ hx140_5)).trans hx140_5
   replace p140 := eq_true p140
   replace q140 := eq_true q140
   have p141 : 0 ≤ (0 : Int) := (by omega)
   have q141 : 0 < ([(⟨a0_0, a0_1, a0_2, a0_3, a0_4, a0_5⟩ : S46)].length : Int) := (by simp)
   obtain ⟨ad141, e141, hx141_0, hx141_1, hx141_2, hx141_3, hx141_4, hx141_5⟩ := at_T46 HRp0.out 0 p141 q141
   have hw141_5 := hx141_5
   (try rw [show ((0 : Int)).toNat = 0 from rfl] at hw141_5)
   (try rw [show 0 * 6 = 0 from rfl] at hw141_5)
   (try rw [Addr.add_zero'] at hw141_5)
   have hw141_4 := hx141_4
   (try rw [show ((0 : Int)).toNat = 0 from rfl] at hw141_4)
   (try rw [show 0 * 6 = 0 from rfl] at hw141_4)
   (try rw [Addr.add_zero'] at hw141_4)
   have hw141_3 := hx141_3
   (try rw [show ((0 : Int)).toNat = 0 from rfl] at hw141_3)
   (try rw [show 0 * 6 = 0 from rfl] at hw141_3)
   (try rw [Addr.add_zero'] at hw141_3)
   have hw141_2 := hx141_2
   (try rw [show ((0 : Int)).toNat = 0 from rfl] at hw141_2)
   (try rw [show 0 * 6 = 0 from rfl] at hw141_2)
   (try rw [Addr.add_zero'] at hw141_2)
   have hw141_1 := hx141_1
   (try rw [show ((0 : Int)).toNat = 0 from rfl] at hw141_1)
   (try rw [show 0 * 6 = 0 from rfl] at hw141_1)
   (try rw [Addr.add_zero'] at hw141_1)
   have hw141_0 := hx141_0
   (try rw [show ((0 : Int)).toNat = 0 from rfl] at hw141_0)
   (try rw [show 0 * 6 = 0 from rfl] at hw141_0)
   (try rw [Addr.add_zero'] at hw141_0)
   replace hx141_0 : _ = (some (.string a0_0) : Option Value) := hx141_0
   replace hx141_1 : _ = (some (.int .i64 a0_1) : Option Value) := hx141_1
   replace hx141_2 : _ = (some (.int .i64 a0_2) : Option Value) := hx141_2
   replace hx141_3 : _ = (some (.int .i64 a0_3) : Option Value) := hx141_3
   replace hx141_4 : _ = (some (.int .i64 a0_4) : Option Value) := hx141_4
   replace hx141_5 : _ = (some (.int .i64 a0_5) : Option Value) := hx141_5
   obtain rfl : adp0 = ad141 := (by injection e141)
   have qi141 : (0 < [(⟨a0_0, a0_1, a0_2, a0_3, a0_4, a0_5⟩ : S46)].length) = True := eq_true (by simp)
   (try rw [show ((0 : Int)).toNat = 0 from rfl] at hx141_0)
   (try rw [show 0 * 6 = 0 from rfl] at hx141_0)
   (try rw [Addr.add_zero'] at hx141_0)
   (try rw [show ((0 : Int)).toNat = 0 from rfl] at hx141_1)
   (try rw [show 0 * 6 = 0 from rfl] at hx141_1)
   (try rw [Addr.add_zero'] at hx141_1)
   (try rw [show ((0 : Int)).toNat = 0 from rfl] at hx141_2)
   (try rw [show 0 * 6 = 0 from rfl] at hx141_2)
   (try rw [Addr.add_zero'] at hx141_2)
   (try rw [show ((0 : Int)).toNat = 0 from rfl] at hx141_3)
   (try rw [show 0 * 6 = 0 from rfl] at hx141_3)
   (try rw [Addr.add_zero'] at hx141_3)
   (try rw [show ((0 : Int)).toNat = 0 from rfl] at hx141_4)
   (try rw [show 0 * 6 = 0 from rfl] at hx141_4)
   (try rw [Addr.add_zero'] at hx141_4)
   (try rw [show ((0 : Int)).toNat = 0 from rfl] at hx141_5)
   (try rw [show 0 * 6 = 0 from rfl] at hx141_5)
   (try rw [Addr.add_zero'] at hx141_5)
   replace hx141_0 := (HB.out.cell (World.block_lt_of_cell? w _ hx141_0)).trans hx141_0
   replace hx141_1 := (HB.out.cell (World.block_lt_of_cell? w _ hx141_1)).trans hx141_1
   replace hx141_2 := (HB.out.cell (World.block_lt_of_cell? w _ hx141_2)).trans hx141_2
   replace hx141_3 := (HB.out.cell (World.block_lt_of_cell? w _ hx141_3)).trans hx141_3
   replace hx141_4 := (HB.out.cell (World.block_lt_of_cell? w _ hx141_4)).trans hx141_4
   replace hx141_5 := (HB.out.cell (World.block_lt_of_cell? w _ hx141_5)).trans hx141_5
   replace p141 := eq_true p141
   replace q141 := eq_true q141
   refine start_ (n := 29) (S := fun w' => w'.cell? adp0 = some (.string a0_0) ∧ w'.cell? ⟨adp0.block, adp0.off + 1, none⟩ = some (.int .i64 a0_1) ∧ w'.cell? ⟨adp0.block, adp0.off + 2, none⟩ = some (.int .i64 a0_2) ∧ w'.cell? ⟨adp0.block, adp0.off + 3, none⟩ = some (.int .i64 a0_3) ∧ w'.cell? ⟨adp0.block, adp0.off + 4, none⟩ = some (.int .i64 a0_4) ∧ w'.cell? ⟨adp0.block, adp0.off + 5, none⟩ = some (.int .i64 a0_5) ∧ w'.cell? adp0 = some (.string a0_0) ∧ w'.cell? ⟨adp0.block, adp0.off + 1, none⟩ = some (.int .i64 a0_1) ∧ w'.cell? ⟨adp0.block, adp0.off + 2, none⟩ = some (.int .i64 a0_2) ∧ w'.cell? ⟨adp0.block, adp0.off + 3, none⟩ = some (.int .i64 a0_3) ∧ w'.cell? ⟨adp0.block, adp0.off + 4, none⟩ = some (.int .i64 a0_4) ∧ w'.cell? ⟨adp0.block, adp0.off + 5, none⟩ = some (.int .i64 a0_5) ∧ w'.cell? adp0 = some (.string a0_0) ∧ w'.cell? ⟨adp0.block, adp0.off + 1, none⟩ = some (.int .i64 a0_1) ∧ w'.cell? ⟨adp0.block, adp0.off + 2, none⟩ = some (.int .i64 a0_2) ∧ w'.cell? ⟨adp0.block, adp0.off + 3, none⟩ = some (.int .i64 a0_3) ∧ w'.cell? ⟨adp0.block, adp0.off + 4, none⟩ = some (.int .i64 a0_4) ∧ w'.cell? ⟨adp0.block, adp0.off + 5, none⟩ = some (.int .i64 a0_5) ∧ w'.cell? adp0 = some (.string a0_0) ∧ w'.cell? ⟨adp0.block, adp0.off + 1, none⟩ = some (.int .i64 a0_1) ∧ w'.cell? ⟨adp0.block, adp0.off + 2, none⟩ = some (.int .i64 a0_2) ∧ w'.cell? ⟨adp0.block, adp0.off + 3, none⟩ = some (.int .i64 a0_3) ∧ w'.cell? ⟨adp0.block, adp0.off + 4, none⟩ = some (.int .i64 a0_4) ∧ w'.cell? ⟨adp0.block, adp0.off + 5, none⟩ = some (.int .i64 a0_5) ∧ w'.cell? adp0 = some (.string a0_0) ∧ w'.cell? ⟨adp0.block, adp0.off + 1, none⟩ = some (.int .i64 a0_1) ∧ w'.cell? ⟨adp0.block, adp0.off + 2, none⟩ = some (.int .i64 a0_2) ∧ w'.cell? ⟨adp0.block, adp0.off + 3, none⟩ = some (.int .i64 a0_3) ∧ w'.cell? ⟨adp0.block, adp0.off + 4, none⟩ = some (.int .i64 a0_4) ∧ w'.cell? ⟨adp0.block, adp0.off + 5, none⟩ = some (.int .i64 a0_5) ∧ w'.cell? adp0 = some (.string a0_0) ∧ w'.cell? ⟨adp0.block, adp0.off + 1, none⟩ = some (.int .i64 a0_1) ∧ w'.cell? ⟨adp0.block, adp0.off + 2, none⟩ = some (.int .i64 a0_2) ∧ w'.cell? ⟨adp0.block, adp0.off + 3, none⟩ = some (.int .i64 a0_3) ∧ w'.cell? ⟨adp0.block, adp0.off + 4, none⟩ = some (.int .i64 a0_4) ∧ w'.cell? ⟨adp0.block, adp0.off + 5, none⟩ = some (.int .i64 a0_5)) (ds := []) #[F,F,F,F,F,F,F,F,F,F,F,F,F,F,F,F,F,F,F,F,F,F,F,F,F,F,F,F,F] (by kernel_rfl) rfl rfl ⟨((HB.out.cell (World.block_lt_of_cell? w _ hw136_0)).trans hw136_0), ((HB.out.cell (World.block_lt_of_cell? w _ hw136_1)).trans hw136_1), ((HB.out.cell (World.block_lt_of_cell? w _ hw136_2)).trans hw136_2), ((HB.out.cell (World.block_lt_of_cell? w _ hw136_3)).trans hw136_3), ((HB.out.cell (World.block_lt_of_cell? w _ hw136_4)).trans hw136_4), ((HB.out.cell (World.block_lt_of_cell? w _ hw136_5)).trans hw136_5), ((HB.out.cell (World.block_lt_of_cell? w _ hw137_0)).trans hw137_0), ((HB.out.cell (World.block_lt_of_cell? w _ hw137_1)).trans hw137_1), ((HB.out.cell (World.block_lt_of_cell? w _ hw137_2)).trans hw137_2), ((HB.out.cell (World.block_lt_of_cell? w _ hw137_3)).trans hw137_3), ((HB.out.cell (World.block_lt_of_cell? w _ hw137_4)).trans hw137_4), ((HB.out.cell (World.block_lt_of_cell? w _ hw137_5)).trans hw137_5), ((HB.out.cell (World.block_lt_of_cell? w _ hw138_0)).trans hw138_0), ((HB.out.cell (World.block_lt_of_cell? w _ hw138_1)).trans hw138_1), ((HB.out.cell (World.block_lt_of_cell? w _ hw138_2)).trans hw138_2), ((HB.out.cell (World.block_lt_of_cell? w _ hw138_3)).trans hw138_3), ((HB.out.cell (World.block_lt_of_cell? w _ hw138_4)).trans hw138_4), ((HB.out.cell (World.block_lt_of_cell? w _ hw138_5)).trans hw138_5), ((HB.out.cell (World.block_lt_of_cell? w _ hw139_0)).trans hw139_0), ((HB.out.cell (World.block_lt_of_cell? w _ hw139_1)).trans hw139_1), ((HB.out.cell (World.block_lt_of_cell? w _ hw139_2)).trans hw139_2), ((HB.out.cell (World.block_lt_of_cell? w _ hw139_3)).trans hw139_3), ((HB.out.cell (World.block_lt_of_cell? w _ hw139_4)).trans hw139_4), ((HB.out.cell (World.block_lt_of_cell? w _ hw139_5)).trans hw139_5), ((HB.out.cell (World.block_lt_of_cell? w _ hw140_0)).trans hw140_0), ((HB.out.cell (World.block_lt_of_cell? w _ hw140_1)).trans hw140_1), ((HB.out.cell (World.block_lt_of_cell? w _ hw140_2)).trans hw140_2), ((HB.out.cell (World.block_lt_of_cell? w _ hw140_3)).trans hw140_3), ((HB.out.cell (World.block_lt_of_cell? w _ hw140_4)).trans hw140_4), ((HB.out.cell (World.block_lt_of_cell? w _ hw140_5)).trans hw140_5), ((HB.out.cell (World.block_lt_of_cell? w _ hw141_0)).trans hw141_0), ((HB.out.cell (World.block_lt_of_cell? w _ hw141_1)).trans hw141_1), ((HB.out.cell (World.block_lt_of_cell? w _ hw141_2)).trans hw141_2), ((HB.out.cell (World.block_lt_of_cell? w _ hw141_3)).trans hw141_3), ((HB.out.cell (World.block_lt_of_cell? w _ hw141_4)).trans hw141_4), ((HB.out.cell (World.block_lt_of_cell? w _ hw141_5)).trans hw141_5)⟩ (fun hHeld => ?_); refine with_tabW spec_l08Text.tab1 spec_l08Text.bits1 (fun HT_ HW_ => ?_)
   generalize w.drew = w5 at HB hx136_0 hx136_1 hx136_2 hx136_3 hx136_4 hx136_5 hx137_0 hx137_1 hx137_2 hx137_3 hx137_4 hx137_5 hx138_0 hx138_1 hx138_2 hx138_3 hx138_4 hx138_5 hx139_0 hx139_1 hx139_2 hx139_3 hx139_4 hx139_5 hx140_0 hx140_1 hx140_2 hx140_3 hx140_4 hx140_5 hx141_0 hx141_1 hx141_2 hx141_3 hx141_4 hx141_5 hHeld ⊢
   refine pure_ (i := 0) (N := some 3) (v := ?_) (a' := ?_) #[T,F,F,F,F,F,F,F,F,F,F,F,F,F,F,F,F,F,F,F,F,F,F,F,F,F,F,F,F] rfl rfl (aO HT_.out (by kernel_rfl)) (fun _ _ _ h => h) (Or.inl ⟨by rfl, ?_⟩) ?_ ?_; rotate_left; (·intro w'; go_simp; with_reducible rfl); rotate_left; (·simp only [Act.put, sI, sZ, sS, iW, jW]; rfl)
   refine pure_ (i := 1) (N := some 4) (v := ?_) (a' := ?_) #[T,T,F,F,F,F,F,F,F,F,F,F,F,F,F,F,F,F,F,F,F,F,F,F,F,F,F,F,F] rfl rfl (aO HT_.out (by kernel_rfl)) (fun _ _ _ h => h) (Or.inl ⟨by rfl, ?_⟩) ?_ ?_; rotate_left; (·intro w'; go_simp; with_reducible rfl); rotate_left; (·simp only [Act.put, sI, sZ, sS, iW, jW]; rfl)
   refine pure_ (i := 2) (N := some 5) (v := ?_) (a' := ?_) #[T,T,T,F,F,F,F,F,F,F,F,F,F,F,F,F,F,F,F,F,F,F,F,F,F,F,F,F,F] rfl rfl (aO HT_.out (by kernel_rfl)) (fun _ _ _ h => h) (Or.inl ⟨by rfl, ?_⟩) ?_ ?_; rotate_left; (·intro w'; go_simp; with_reducible rfl); rotate_left; (·simp only [Act.put, sI, sZ, sS, iW, jW]; rfl)
   refine pure_ (i := 5) (N := some 8) (v := ?_) (a' := ?_) #[T,T,T,F,F,T,F,F,F,F,F,F,F,F,F,F,F,F,F,F,F,F,F,F,F,F,F,F,F] rfl rfl (aO HT_.out (by kernel_rfl)) (fun _ _ _ h => h) (Or.inl ⟨by rfl, ?_⟩) ?_ ?_; rotate_left; (·intro w'; go_simp; with_reducible rfl); rotate_left; (·simp only [Act.put, sI, sZ, sS, iW, jW]; rfl)
   refine pure_ (i := 6) (N := some 9) (v := ?_) (a' := ?_) #[T,T,T,F,F,T,T,F,F,F,F,F,F,F,F,F,F,F,F,F,F,F,F,F,F,F,F,F,F] rfl rfl (aO HT_.out (by kernel_rfl)) (fun _ _ _ h => h) (Or.inl ⟨by rfl, ?_⟩) ?_ ?_; rotate_left; (·intro w'; go_simp; with_reducible rfl); rotate_left; (·simp only [Act.put, sI, sZ, sS, iW, jW]; rfl)
   refine pure_ (i := 7) (N := some 10) (v := ?_) (a' := ?_) #[T,T,T,F,F,T,T,T,F,F,F,F,F,F,F,F,F,F,F,F,F,F,F,F,F,F,F,F,F] rfl rfl (aO HT_.out (by kernel_rfl)) (fun _ _ _ h => h) (Or.inl ⟨by rfl, ?_⟩) ?_ ?_; rotate_left; (·intro w'; go_simp; with_reducible rfl); rotate_left; (·simp only [Act.put, sI, sZ, sS, iW, jW]; rfl)
   refine pure_ (i := 9) (N := some 12) (v := ?_) (a' := ?_) #[T,T,T,F,F,T,T,T,F,T,F,F,F,F,F,F,F,F,F,F,F,F,F,F,F,F,F,F,F] rfl rfl (aO HT_.out (by kernel_rfl)) (fun _ _ _ h => h) (Or.inl ⟨by rfl, ?_⟩) ?_ ?_; rotate_left; (·intro w'; go_simp; with_reducible rfl); rotate_left; (·simp only [Act.put, sI, sZ, sS, iW, jW]; rfl)
   refine pure_ (i := 10) (N := some 13) (v := ?_) (a' := ?_) #[T,T,T,F,F,T,T,T,F,T,T,F,F,F,F,F,F,F,F,F,F,F,F,F,F,F,F,F,F] rfl rfl (aO HT_.out (by kernel_rfl)) (fun _ _ _ h => h) (Or.inl ⟨by rfl, ?_⟩) ?_ ?_; rotate_left; (·intro w'; go_simp; with_reducible rfl); rotate_left; (·simp only [Act.put, sI, sZ, sS, iW, jW]; rfl)
   refine pure_ (i := 11) (N := some 14) (v := ?_) (a' := ?_) #[T,T,T,F,F,T,T,T,F,T,T,T,F,F,F,F,F,F,F,F,F,F,F,F,F,F,F,F,F] rfl rfl (aO HT_.out (by kernel_rfl)) (fun _ _ _ h => h) (Or.inl ⟨by rfl, ?_⟩) ?_ ?_; rotate_left; (·intro w'; go_simp; with_reducible rfl); rotate_left; (·simp only [Act.put, sI, sZ, sS, iW, jW]; rfl)
   refine pure_ (i := 13) (N := some 16) (v := ?_) (a' := ?_) #[T,T,T,F,F,T,T,T,F,T,T,T,F,T,F,F,F,F,F,F,F,F,F,F,F,F,F,F,F] rfl rfl (aO HT_.out (by kernel_rfl)) (fun _ _ _ h => h) (Or.inl ⟨by rfl, ?_⟩) ?_ ?_; rotate_left; (·intro w'; go_simp; with_reducible rfl); rotate_left; (·simp only [Act.put, sI, sZ, sS, iW, jW]; rfl)
   refine pure_ (i := 14) (N := some 17) (v := ?_) (a' := ?_) #[T,T,T,F,F,T,T,T,F,T,T,T,F,T,T,F,F,F,F,F,F,F,F,F,F,F,F,F,F] rfl rfl (aO HT_.out (by kernel_rfl)) (fun _ _ _ h => h) (Or.inl ⟨by rfl, ?_⟩) ?_ ?_; rotate_left; (·intro w'; go_simp; with_reducible rfl); rotate_left; (·simp only [Act.put, sI, sZ, sS, iW, jW]; rfl)
   refine pure_ (i := 15) (N := some 18) (v := ?_) (a' := ?_) #[T,T,T,F,F,T,T,T,F,T,T,T,F,T,T,T,F,F,F,F,F,F,F,F,F,F,F,F,F] rfl rfl (aO HT_.out (by kernel_rfl)) (fun _ _ _ h => h) (Or.inl ⟨by rfl, ?_⟩) ?_ ?_; rotate_left; (·intro w'; go_simp; with_reducible rfl); rotate_left; (·simp only [Act.put, sI, sZ, sS, iW, jW]; rfl)
   refine pure_ (i := 17) (N := some 20) (v := ?_) (a' := ?_) #[T,T,T,F,F,T,T,T,F,T,T,T,F,T,T,T,F,T,F,F,F,F,F,F,F,F,F,F,F] rfl rfl (aO HT_.out (by kernel_rfl)) (fun _ _ _ h => h) (Or.inl ⟨by rfl, ?_⟩) ?_ ?_; rotate_left; (·intro w'; go_simp; with_reducible rfl); rotate_left; (·simp only [Act.put, sI, sZ, sS, iW, jW]; rfl)
   refine pure_ (i := 18) (N := some 21) (v := ?_) (a' := ?_) #[T,T,T,F,F,T,T,T,F,T,T,T,F,T,T,T,F,T,T,F,F,F,F,F,F,F,F,F,F] rfl rfl (aO HT_.out (by kernel_rfl)) (fun _ _ _ h => h) (Or.inl ⟨by rfl, ?_⟩) ?_ ?_; rotate_left; (·intro w'; go_simp; with_reducible rfl); rotate_left; (·simp only [Act.put, sI, sZ, sS, iW, jW]; rfl)
   refine pure_ (i := 19) (N := some 22) (v := ?_) (a' := ?_) #[T,T,T,F,F,T,T,T,F,T,T,T,F,T,T,T,F,T,T,T,F,F,F,F,F,F,F,F,F] rfl rfl (aO HT_.out (by kernel_rfl)) (fun _ _ _ h => h) (Or.inl ⟨by rfl, ?_⟩) ?_ ?_; rotate_left; (·intro w'; go_simp; with_reducible rfl); rotate_left; (·simp only [Act.put, sI, sZ, sS, iW, jW]; rfl)
   refine pure_ (i := 21) (N := some 24) (v := ?_) (a' := ?_) #[T,T,T,F,F,T,T,T,F,T,T,T,F,T,T,T,F,T,T,T,F,T,F,F,F,F,F,F,F] rfl rfl (aO HT_.out (by kernel_rfl)) (fun _ _ _ h => h) (Or.inl ⟨by rfl, ?_⟩) ?_ ?_; rotate_left; (·intro w'; go_simp; with_reducible rfl); rotate_left; (·simp only [Act.put, sI, sZ, sS, iW, jW]; rfl)
   refine pure_ (i := 22) (N := some 25) (v := ?_) (a' := ?_) #[T,T,T,F,F,T,T,T,F,T,T,T,F,T,T,T,F,T,T,T,F,T,T,F,F,F,F,F,F] rfl rfl (aO HT_.out (by kernel_rfl)) (fun _ _ _ h => h) (Or.inl ⟨by rfl, ?_⟩) ?_ ?_; rotate_left; (·intro w'; go_simp; with_reducible rfl); rotate_left; (·simp only [Act.put, sI, sZ, sS, iW, jW]; rfl)
   refine pure_ (i := 23) (N := some 26) (v := ?_) (a' := ?_) #[T,T,T,F,F,T,T,T,F,T,T,T,F,T,T,T,F,T,T,T,F,T,T,T,F,F,F,F,F] rfl rfl (aO HT_.out (by kernel_rfl)) (fun _ _ _ h => h) (Or.inl ⟨by rfl, ?_⟩) ?_ ?_; rotate_left; (·intro w'; go_simp; with_reducible rfl); rotate_left; (·simp only [Act.put, sI, sZ, sS, iW, jW]; rfl)
   refine take_ (i := 3) (N := some 6) (v := ?_) (a' := ?_) #[T,T,T,T,F,T,T,T,F,T,T,T,F,T,T,T,F,T,T,T,F,T,T,T,F,F,F,F,F] rfl rfl (tW HT_.out HW_.out (by kernel_rfl)) (fun _ _ _ h => h) (Or.inl ⟨by rfl, ?_⟩) hHeld ?_ ?_; rotate_left; (·rintro w' ⟨s0, s1, s2, s3, s4, s5, s6, s7, s8, s9, s10, s11, s12, s13, s14, s15, s16, s17, s18, s19, s20, s21, s22, s23, s24, s25, s26, s27, s28, s29, s30, s31, s32, s33, s34, s35⟩; go_simp; with_reducible rfl); rotate_left; (·simp only [Act.put, sI, sZ, sS, iW, jW]; rfl)
   refine pure_ (i := 4) (N := some 7) (v := ?_) (a' := ?_) #[T,T,T,T,T,T,T,T,F,T,T,T,F,T,T,T,F,T,T,T,F,T,T,T,F,F,F,F,F] rfl rfl (aO HT_.out (by kernel_rfl)) (fun _ _ _ h => h) (Or.inl ⟨by rfl, ?_⟩) ?_ ?_; rotate_left; (·intro w'; go_simp; with_reducible rfl); rotate_left; (·simp only [Act.put, sI, sZ, sS, iW, jW]; rfl)
   refine take_ (i := 8) (N := some 11) (v := ?_) (a' := ?_) #[T,T,T,T,T,T,T,T,T,T,T,T,F,T,T,T,F,T,T,T,F,T,T,T,F,F,F,F,F] rfl rfl (tW HT_.out HW_.out (by kernel_rfl)) (fun _ _ _ h => h) (Or.inl ⟨by rfl, ?_⟩) hHeld ?_ ?_; rotate_left; (·rintro w' ⟨s0, s1, s2, s3, s4, s5, s6, s7, s8, s9, s10, s11, s12, s13, s14, s15, s16, s17, s18, s19, s20, s21, s22, s23, s24, s25, s26, s27, s28, s29, s30, s31, s32, s33, s34, s35⟩; go_simp; with_reducible rfl); rotate_left; (·simp only [Act.put, sI, sZ, sS, iW, jW]; rfl)
   refine take_ (i := 12) (N := some 15) (v := ?_) (a' := ?_) #[T,T,T,T,T,T,T,T,T,T,T,T,T,T,T,T,F,T,T,T,F,T,T,T,F,F,F,F,F] rfl rfl (tW HT_.out HW_.out (by kernel_rfl)) (fun _ _ _ h => h) (Or.inl ⟨by rfl, ?_⟩) hHeld ?_ ?_; rotate_left; (·rintro w' ⟨s0, s1, s2, s3, s4, s5, s6, s7, s8, s9, s10, s11, s12, s13, s14, s15, s16, s17, s18, s19, s20, s21, s22, s23, s24, s25, s26, s27, s28, s29, s30, s31, s32, s33, s34, s35⟩; go_simp; with_reducible rfl); rotate_left; (·simp only [Act.put, sI, sZ, sS, iW, jW]; rfl)
   refine take_ (i := 16) (N := some 19) (v := ?_) (a' := ?_) #[T,T,T,T,T,T,T,T,T,T,T,T,T,T,T,T,T,T,T,T,F,T,T,T,F,F,F,F,F] rfl rfl (tW HT_.out HW_.out (by kernel_rfl)) (fun _ _ _ h => h) (Or.inl ⟨by rfl, ?_⟩) hHeld ?_ ?_; rotate_left; (·rintro w' ⟨s0, s1, s2, s3, s4, s5, s6, s7, s8, s9, s10, s11, s12, s13, s14, s15, s16, s17, s18, s19, s20, s21, s22, s23, s24, s25, s26, s27, s28, s29, s30, s31, s32, s33, s34, s35⟩; go_simp; with_reducible rfl); rotate_left; (·simp only [Act.put, sI, sZ, sS, iW, jW]; rfl)
   refine take_ (i := 20) (N := some 23) (v := ?_) (a' := ?_) #[T,T,T,T,T,T,T,T,T,T,T,T,T,T,T,T,T,T,T,T,T,T,T,T,F,F,F,F,F] rfl rfl (tW HT_.out HW_.out (by kernel_rfl)) (fun _ _ _ h => h) (Or.inl ⟨by rfl, ?_⟩) hHeld ?_ ?_; rotate_left; (·rintro w' ⟨s0, s1, s2, s3, s4, s5, s6, s7, s8, s9, s10, s11, s12, s13, s14, s15, s16, s17, s18, s19, s20, s21, s22, s23, s24, s25, s26, s27, s28, s29, s30, s31, s32, s33, s34, s35⟩; go_simp; with_reducible rfl); rotate_left; (·simp only [Act.put, sI, sZ, sS, iW, jW]; rfl)
   refine take_ (i := 24) (N := some 27) (v := ?_) (a' := ?_) #[T,T,T,T,T,T,T,T,T,T,T,T,T,T,T,T,T,T,T,T,T,T,T,T,T,F,F,F,F] rfl rfl (tW HT_.out HW_.out (by kernel_rfl)) (fun _ _ _ h => h) (Or.inl ⟨by rfl, ?_⟩) hHeld ?_ ?_; rotate_left; (·rintro w' ⟨s0, s1, s2, s3, s4, s5, s6, s7, s8, s9, s10, s11, s12, s13, s14, s15, s16, s17, s18, s19, s20, s21, s22, s23, s24, s25, s26, s27, s28, s29, s30, s31, s32, s33, s34, s35⟩; go_simp; with_reducible rfl); rotate_left; (·simp only [Act.put, sI, sZ, sS, iW, jW]; rfl)
   refine one_ (i := 25) (N := some 28) #[T,T,T,T,T,T,T,T,T,T,T,T,T,T,T,T,T,T,T,T,T,T,T,T,T,T,F,F,F] rfl rfl (oO HT_.out (by kernel_rfl)) (by decide) (fun K hK => ?_)
   refine Kd.R_lit_step (Kd.int .i64) _ 2 ?hg (N := 28) ?hd (xs := ([a0_1, a0_2, a0_3, a0_4, a0_5] : List Int)) (inner := [.int .i64 a0_1, .int .i64 a0_2, .int .i64 a0_3, .int .i64 a0_4, .int .i64 a0_5]) (ok := fun _ => True) (okp := fun _ => True) ?hr ?hp (fun _ hk => hk) trivial (Below.refl _ _) (Nat.le_refl _) (by simp) ?_; (case hd => rfl); (case hg => rfl); (case hr => first | (go_simp; done) | (go_simp; rfl)); (case hp => exact (Reps.one (show Kd.M (Kd.int .i64) _ _ _ a0_1 [.int .i64 a0_1] from rfl) (Reps.one (show Kd.M (Kd.int .i64) _ _ _ a0_2 [.int .i64 a0_2] from rfl) (Reps.one (show Kd.M (Kd.int .i64) _ _ _ a0_3 [.int .i64 a0_3] from rfl) (Reps.one (show Kd.M (Kd.int .i64) _ _ _ a0_4 [.int .i64 a0_4] from rfl) (Reps.one (show Kd.M (Kd.int .i64) _ _ _ a0_5 [.int .i64 a0_5] from rfl) (Reps.none _ _)))))))
   intro v143 w6 ho7 hb hg_ hnew_
   clear hg_ hnew_
   (first | rw [← Ny142.out] at ho7 | (simp only [Int.reduceToNat] at ho7; rw [← Ny142.out] at ho7))
   have n0_ := Aside0.mk (rL ho7 (bZ (by repeat (first | (with_reducible first | exact HB.out | apply bA | apply bN | apply bD) | exact HB.out))))
   have n1_ := Aside0.mk (bP (by repeat (first | (with_reducible first | exact HB.out | apply bA | apply bN | apply bD) | exact HB.out)) hb)
   clear HB
   have HO144 := n0_
   have HB := n1_
   clear n0_ n1_
   clear hb ho7
   obtain ⟨Ao8, co8, eo8⟩ := Kd.R_slice HO144.out
   (first | subst eo8 | (injection eo8 with f1_ f2_ f3_; have f4_ := f1_.symm; have f5_ := f3_.symm; clear f1_ f2_ f3_; subst f4_; subst f5_))
   refine hK.out _ _ ⟨((HB.out.cell (World.block_lt_of_cell? w _ hw136_0)).trans hw136_0), ((HB.out.cell (World.block_lt_of_cell? w _ hw136_1)).trans hw136_1), ((HB.out.cell (World.block_lt_of_cell? w _ hw136_2)).trans hw136_2), ((HB.out.cell (World.block_lt_of_cell? w _ hw136_3)).trans hw136_3), ((HB.out.cell (World.block_lt_of_cell? w _ hw136_4)).trans hw136_4), ((HB.out.cell (World.block_lt_of_cell? w _ hw136_5)).trans hw136_5), ((HB.out.cell (World.block_lt_of_cell? w _ hw137_0)).trans hw137_0), ((HB.out.cell (World.block_lt_of_cell? w _ hw137_1)).trans hw137_1), ((HB.out.cell (World.block_lt_of_cell? w _ hw137_2)).trans hw137_2), ((HB.out.cell (World.block_lt_of_cell? w _ hw137_3)).trans hw137_3), ((HB.out.cell (World.block_lt_of_cell? w _ hw137_4)).trans hw137_4), ((HB.out.cell (World.block_lt_of_cell? w _ hw137_5)).trans hw137_5), ((HB.out.cell (World.block_lt_of_cell? w _ hw138_0)).trans hw138_0), ((HB.out.cell (World.block_lt_of_cell? w _ hw138_1)).trans hw138_1), ((HB.out.cell (World.block_lt_of_cell? w _ hw138_2)).trans hw138_2), ((HB.out.cell (World.block_lt_of_cell? w _ hw138_3)).trans hw138_3), ((HB.out.cell (World.block_lt_of_cell? w _ hw138_4)).trans hw138_4), ((HB.out.cell (World.block_lt_of_cell? w _ hw138_5)).trans hw138_5), ((HB.out.cell (World.block_lt_of_cell? w _ hw139_0)).trans hw139_0), ((HB.out.cell (World.block_lt_of_cell? w _ hw139_1)).trans hw139_1), ((HB.out.cell (World.block_lt_of_cell? w _ hw139_2)).trans hw139_2), ((HB.out.cell (World.block_lt_of_cell? w _ hw139_3)).trans hw139_3), ((HB.out.cell (World.block_lt_of_cell? w _ hw139_4)).trans hw139_4), ((HB.out.cell (World.block_lt_of_cell? w _ hw139_5)).trans hw139_5), ((HB.out.cell (World.block_lt_of_cell? w _ hw140_0)).trans hw140_0), ((HB.out.cell (World.block_lt_of_cell? w _ hw140_1)).trans hw140_1), ((HB.out.cell (World.block_lt_of_cell? w _ hw140_2)).trans hw140_2), ((HB.out.cell (World.block_lt_of_cell? w _ hw140_3)).trans hw140_3), ((HB.out.cell (World.block_lt_of_cell? w _ hw140_4)).trans hw140_4), ((HB.out.cell (World.block_lt_of_cell? w _ hw140_5)).trans hw140_5), ((HB.out.cell (World.block_lt_of_cell? w _ hw141_0)).trans hw141_0), ((HB.out.cell (World.block_lt_of_cell? w _ hw141_1)).trans hw141_1), ((HB.out.cell (World.block_lt_of_cell? w _ hw141_2)).trans hw141_2), ((HB.out.cell (World.block_lt_of_cell? w _ hw141_3)).trans hw141_3), ((HB.out.cell (World.block_lt_of_cell? w _ hw141_4)).trans hw141_4), ((HB.out.cell (World.block_lt_of_cell? w _ hw141_5)).trans hw141_5)⟩ (fun hHeld => ?_)
   clear hK K
   refine norm_ (a' := ?_) ?_ ?_
   rotate_left
   ·show Act.put _ (some 28) _ = _
    simp only [Act.put, sI, sZ, sS, iW, jW]
    rfl
   refine one_ (i := 26) (N := some 29) #[T,T,T,T,T,T,T,T,T,T,T,T,T,T,T,T,T,T,T,T,T,T,T,T,T,T,T,F,F] rfl rfl (oO HT_.out (by kernel_rfl)) (by decide) (fun K hK => ?_)
   refine goes_ Tryd.func110 (by kernel_rfl) rfl #[.slice Ao8 y142.length co8] (by rfl) rfl rfl (by (try simp only [List.map_toArray, List.map_cons, List.map_nil]); first | done | rfl | (simp only [List.length_drop, List.length_take]; rfl)) ?_
   with_reducible refine (spec_l01List.calls k _ _ y142 t145 _ ?side1 ?side2 A3.out).mono ?_
   (case side1 => repeat (first | exact (Kd.R_reads' HO144.out).2.2 | (with_reducible refine cA ?_ _) | (with_reducible refine cN ?_ _) | (with_reducible refine cD ?_)))
   (case side2 => exact (Kd.R_reads' HO144.out).2.1)
   rintro e w9 ⟨rfl, hb⟩
   refine ⟨_, rfl, ?_⟩
   have n0_ := Aside0.mk (rB (by (with_reducible repeat (first | apply rA | apply rN | apply rD)); exact HO144.out) hb)
   have n1_ := Aside0.mk (bP (by repeat (first | (with_reducible first | exact HB.out | apply bA | apply bN | apply bD) | exact HB.out)) hb)
   clear HO144
   clear HB
   have HO144 := n0_
   have HB := n1_
   clear n0_ n1_
   (try clear hb)
   (try clear hb2)
   (try clear hk)
   (try clear hi)
   refine hK.out _ _ ⟨((HB.out.cell (World.block_lt_of_cell? w _ hw136_0)).trans hw136_0), ((HB.out.cell (World.block_lt_of_cell? w _ hw136_1)).trans hw136_1), ((HB.out.cell (World.block_lt_of_cell? w _ hw136_2)).trans hw136_2), ((HB.out.cell (World.block_lt_of_cell? w _ hw136_3)).trans hw136_3), ((HB.out.cell (World.block_lt_of_cell? w _ hw136_4)).trans hw136_4), ((HB.out.cell (World.block_lt_of_cell? w _ hw136_5)).trans hw136_5), ((HB.out.cell (World.block_lt_of_cell? w _ hw137_0)).trans hw137_0), ((HB.out.cell (World.block_lt_of_cell? w _ hw137_1)).trans hw137_1), ((HB.out.cell (World.block_lt_of_cell? w _ hw137_2)).trans hw137_2), ((HB.out.cell (World.block_lt_of_cell? w _ hw137_3)).trans hw137_3), ((HB.out.cell (World.block_lt_of_cell? w _ hw137_4)).trans hw137_4), ((HB.out.cell (World.block_lt_of_cell? w _ hw137_5)).trans hw137_5), ((HB.out.cell (World.block_lt_of_cell? w _ hw138_0)).trans hw138_0), ((HB.out.cell (World.block_lt_of_cell? w _ hw138_1)).trans hw138_1), ((HB.out.cell (World.block_lt_of_cell? w _ hw138_2)).trans hw138_2), ((HB.out.cell (World.block_lt_of_cell? w _ hw138_3)).trans hw138_3), ((HB.out.cell (World.block_lt_of_cell? w _ hw138_4)).trans hw138_4), ((HB.out.cell (World.block_lt_of_cell? w _ hw138_5)).trans hw138_5), ((HB.out.cell (World.block_lt_of_cell? w _ hw139_0)).trans hw139_0), ((HB.out.cell (World.block_lt_of_cell? w _ hw139_1)).trans hw139_1), ((HB.out.cell (World.block_lt_of_cell? w _ hw139_2)).trans hw139_2), ((HB.out.cell (World.block_lt_of_cell? w _ hw139_3)).trans hw139_3), ((HB.out.cell (World.block_lt_of_cell? w _ hw139_4)).trans hw139_4), ((HB.out.cell (World.block_lt_of_cell? w _ hw139_5)).trans hw139_5), ((HB.out.cell (World.block_lt_of_cell? w _ hw140_0)).trans hw140_0), ((HB.out.cell (World.block_lt_of_cell? w _ hw140_1)).trans hw140_1), ((HB.out.cell (World.block_lt_of_cell? w _ hw140_2)).trans hw140_2), ((HB.out.cell (World.block_lt_of_cell? w _ hw140_3)).trans hw140_3), ((HB.out.cell (World.block_lt_of_cell? w _ hw140_4)).trans hw140_4), ((HB.out.cell (World.block_lt_of_cell? w _ hw140_5)).trans hw140_5), ((HB.out.cell (World.block_lt_of_cell? w _ hw141_0)).trans hw141_0), ((HB.out.cell (World.block_lt_of_cell? w _ hw141_1)).trans hw141_1), ((HB.out.cell (World.block_lt_of_cell? w _ hw141_2)).trans hw141_2), ((HB.out.cell (World.block_lt_of_cell? w _ hw141_3)).trans hw141_3), ((HB.out.cell (World.block_lt_of_cell? w _ hw141_4)).trans hw141_4), ((HB.out.cell (World.block_lt_of_cell? w _ hw141_5)).trans hw141_5)⟩ (fun hHeld => ?_)
   clear hK K
   refine norm_ (a' := ?_) ?_ ?_
   rotate_left
   ·show Act.put _ (some 29) _ = _
    simp only [Act.put, sI, sZ, sS, iW, jW]
    rfl
   refine pure_ (i := 27) (N := some 30) (v := ?_) (a' := ?_) #[T,T,T,T,T,T,T,T,T,T,T,T,T,T,T,T,T,T,T,T,T,T,T,T,T,T,T,T,F] rfl rfl (aO HT_.out (by kernel_rfl)) (fun _ _ _ h => h) (Or.inl ⟨by rfl, ?_⟩) ?_ ?_; rotate_left; (·intro w'; go_simp; with_reducible rfl); rotate_left; (·simp only [Act.put, sI, sZ, sS, iW, jW]; rfl)
   refine pure_ (i := 28) (N := some 2) (v := ?_) (a' := ?_) #[T,T,T,T,T,T,T,T,T,T,T,T,T,T,T,T,T,T,T,T,T,T,T,T,T,T,T,T,T] rfl rfl (aO HT_.out (by kernel_rfl)) (fun _ _ _ h => h) (Or.inl ⟨by rfl, ?_⟩) ?_ ?_; rotate_left; (·intro w'; go_simp; with_reducible rfl); rotate_left; (·simp only [Act.put, sI, sZ, sS, iW, jW]; rfl)
   refine done_ (done_of HT_.out (by kernel_rfl)) ?_
   try go_wp2
   go_ret
   exact ⟨by first | rfl | (simp [errW_none, errW_some] <;> rfl) | (simp [*, errW_none, errW_some] <;> rfl), by repeat (first | (with_reducible first | exact HB.out | apply bA | apply bN | apply bD) | exact HB.out)⟩
  ·rw [if_neg c4] at H
   exact absurd H (by simp)
 ·rw [if_neg c2] at H
  exact absurd H (by simp)

end Go.Proofs.YtlphcdophgkdpaaDoor.I
-- shrunk
-- tight
