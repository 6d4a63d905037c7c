/- What functions of the given program compute, as plain Lean functions, and that the code comes to just that; by a program of this session over the kit's print. No condition. -/
import Derived.Test.YtlmeijlandogaaaDoorIx0
import Derived.Test.YtlmeijlandogaaaDoorIx6
namespace Go.Proofs.YtlmeijlandogaaaDoor.I
open Go.RowKit Go.Proofs.YtlmeijlandogaaaDoorW.PrintWords Go.Proofs.YtlmeijlandogaaaDoorW.PrintLast Go.Proofs.YtlmeijlandogaaaDoorW.PrintMore
open Go.Proofs.YtlmeijlandogaaaDoorW.PrintWords renaming below_alloc → bA, pw_below_drewN → bN, below_drew1 → bD, below_size → bZ, below_step → bP
open Go.Proofs.YtlmeijlandogaaaDoorW.PrintLast renaming take_ofW → tW, any_of → aO, one_of → oO, i64_w → iW, i32_w → jW
open Go.Proofs.YtlmeijlandogaaaDoorW.PrintWords.Kd renaming R_alloc → rA, R_drewN → rN, R_drew → rD, C_alloc → cA, C_drewN → cN, C_drew → cD, C_below → cB, R_lower → rL, R_below → rB
open List renaming setIfInBounds_toArray → sI, set_cons_zero → sZ, set_cons_succ → sS
open Bool renaming true → T, false → F
attribute [local go_sem] max2_int min2_int max_two min_two max_three min_three max_four min_four   -- for this text's walks alone
set_option linter.unusedVariables false
set_option linter.unusedSimpArgs false

/-! ### spec_l07Text: function 47 -/
def spec_l07Text.l0 : Nat → ByteArray → Int → Int → Int → List Int → List (S63) → Option (ByteArray)
 | 0, _, _, _, _, _, _ => none
 | k + 1, x3, x4, x1000, x1001, x1002, x1003 => if x4 < (x1003.length : Int) then (if 0 ≤ x4 then ((spec_l01List.f k (([(rd_T63 x1003 x4).f0, (rd_T63 x1003 x4).f1, (rd_T63 x1003 x4).f2] : List Int))).bind fun t175 => (if 1 + t175.size ≤ 9223372036854775807 then (if x3.size + ((⟨#[59]⟩ : ByteArray) ++ t175).size ≤ 9223372036854775807 then (spec_l07Text.l0 k (x3 ++ ((⟨#[59]⟩ : ByteArray) ++ t175)) (wrap64 (x4 + 1)) x1000 x1001 x1002 x1003) else (none)) else (none))) else (none)) else (some x3)
def spec_l07Text.f (k : Nat) (a0_0 : Int) (a0_1 : Int) (l0_2 : List Int) (l0_3 : List (S63)) : Option (ByteArray) := (spec_l01List.f k (([a0_0, a0_1] : List Int))).bind fun t162 => (if t162.size + 1 ≤ 9223372036854775807 then ((spec_l01List.f k l0_2).bind fun t164 => (if (t162 ++ (⟨#[59]⟩ : ByteArray)).size + t164.size ≤ 9223372036854775807 then (spec_l07Text.l0 k ((t162 ++ (⟨#[59]⟩ : ByteArray)) ++ t164) 0 a0_0 a0_1 l0_2 l0_3) else (none))) else (none))
theorem spec_l07Text.mono_l : ∀ k, (∀ y0 y1 y2 y3 y4 y5, LeO (spec_l07Text.l0 k y0 y1 y2 y3 y4 y5) (spec_l07Text.l0 (k + 1) y0 y1 y2 y3 y4 y5))
 | 0 => fun _ _ _ _ _ _ r h => by simp [spec_l07Text.l0] at h
 | k + 1 => by
  have ih0 := spec_l07Text.mono_l k
  ·intro y0 y1 y2 y3 y4 y5
   unfold spec_l07Text.l0
   repeat' first
   | (with_reducible exact ih0 _ _ _ _ _ _)
   | (with_reducible exact spec_l01List.mono _ _)
   | (with_reducible exact LeO.refl _)
   | (with_reducible exact LeO.none _)
   | (with_reducible refine LeO.ite ?_ ?_)
   | (with_reducible refine LeO.bind ?_ (fun _ => ?_))
   | exact ih0 _ _ _ _ _ _
   | exact spec_l01List.mono _ _
   | exact LeO.none _
   | refine LeO.ite ?_ ?_
   | refine LeO.bind ?_ (fun _ => ?_)
theorem spec_l07Text.mono : ∀ a0 a1 a2 a3 k, LeO (spec_l07Text.f k a0 a1 a2 a3) (spec_l07Text.f (k + 1) a0 a1 a2 a3) := by
 intro a0 a1 a2 a3 k
 have ih0 := spec_l07Text.mono_l k
 unfold spec_l07Text.f
 repeat' first
   | (with_reducible exact ih0 _ _ _ _ _ _)
   | (with_reducible exact spec_l01List.mono _ _)
   | (with_reducible exact LeO.refl _)
   | (with_reducible exact LeO.none _)
   | (with_reducible refine LeO.ite ?_ ?_)
   | (with_reducible refine LeO.bind ?_ (fun _ => ?_))
   | exact ih0 _ _ _ _ _ _
   | exact spec_l01List.mono _ _
   | exact LeO.none _
   | refine LeO.ite ?_ ?_
   | refine LeO.bind ?_ (fun _ => ?_)
def spec_l07Text.T1 : Bool × List (List Nat × List Nat) := (true, [([], []), ([0], [0]), ([1], [1]), ([2], [2]), ([], []), ([4], [4]), ([5], [5]), ([6], [6]), ([3, 7], [3, 7]), ([8], [8]), ([9], [9]), ([], []), ([11], [11]), ([12], [12]), ([13], [13]), ([14, 9], [14]), ([10, 15], [10, 15]), ([16, 15, 0, 1, 2, 3, 4, 5, 6, 7, 8, 9, 10, 11, 12, 13, 14, 15, 16], [16])])
def spec_l07Text.B1 : List Nat := [0, 1, 3, 7, 0, 16, 48, 112, 255, 511, 1023, 0, 2048, 6144, 14336, 31743, 65535, 131071]
theorem spec_l07Text.tab1 : rtab .any (opsOf Tryd.f47 1) = spec_l07Text.T1 := by kernel_rfl
theorem spec_l07Text.bits1 : waitsOk spec_l07Text.T1.2 spec_l07Text.B1 = true := by kernel_rfl
def spec_l07Text.T5 : Bool × List (List Nat × List Nat) := (true, [([], []), ([], []), ([1], [1]), ([2], [2]), ([3], [3]), ([], []), ([4, 5], [4, 5]), ([6], [6]), ([7], [7]), ([], []), ([9], [9]), ([10], [10]), ([11], [11]), ([], []), ([12, 13], [12, 13]), ([14], [14]), ([15], [15]), ([], []), ([17], [17]), ([18], [18]), ([19], [19]), ([], []), ([20, 21], [20, 21]), ([22], [22]), ([23], [23]), ([8, 16, 24], [8, 16, 24]), ([25], [25]), ([26], [26]), ([0, 27], [0, 27]), ([28, 26, 0, 1, 2, 3, 4, 5, 6, 7, 8, 9, 10, 11, 12, 13, 14, 15, 16, 17, 18, 19, 20, 21, 22, 23, 24, 25, 26, 27, 28], [0, 28])])
def spec_l07Text.B5 : List Nat := [0, 0, 2, 6, 14, 0, 62, 126, 254, 0, 512, 1536, 3584, 0, 15872, 32256, 65024, 0, 131072, 393216, 917504, 0, 4063232, 8257536, 16646144, 33554430, 67108862, 134217726, 268435455, 536870911]
theorem spec_l07Text.tab5 : rtab .any (opsOf Tryd.f47 5) = spec_l07Text.T5 := by kernel_rfl
theorem spec_l07Text.bits5 : waitsOk spec_l07Text.T5.2 spec_l07Text.B5 = true := by kernel_rfl
set_option maxHeartbeats 8000000 in
set_option maxRecDepth 100000 in
theorem spec_l07Text.calls (k : Nat) (adp0 : Addr) (a0_0 : Int) (a0_1 : Int) (l0_2 : List Int) (l0_3 : List (S63)) (r : ByteArray) (w : World) (hp0 : Kd.C k31 w (some adp0) 1 [(⟨a0_0, a0_1, l0_2, l0_3⟩ : S31)]) (h : spec_l07Text.f k a0_0 a0_1 l0_2 l0_3 = some r) :
  Calls Tryd.prog 47 #[.pointer (some adp0)] w fun e w' => e = .returned (.string r) ∧ Below w.heap.size w w' := by
 have HRp0 := Aside0.mk hp0
 clear hp0
 have HB := Aside0.mk (Below.refl w.heap.size w)
 have H : ((spec_l01List.f k (([a0_0, a0_1] : List Int))).bind fun t162 => (if t162.size + 1 ≤ 9223372036854775807 then ((spec_l01List.f k l0_2).bind fun t164 => (if (t162 ++ (⟨#[59]⟩ : ByteArray)).size + t164.size ≤ 9223372036854775807 then (spec_l07Text.l0 k ((t162 ++ (⟨#[59]⟩ : ByteArray)) ++ t164) 0 a0_0 a0_1 l0_2 l0_3) else (none))) else (none))) = some r := h
 clear h
 obtain ⟨y159, hy159⟩ : ∃ y_ : List Int, y_ = (([a0_0, a0_1] : List Int)) := ⟨_, rfl⟩
 replace H : ((spec_l01List.f k y159).bind fun t162 => (if t162.size + 1 ≤ 9223372036854775807 then ((spec_l01List.f k l0_2).bind fun t164 => (if (t162 ++ (⟨#[59]⟩ : ByteArray)).size + t164.size ≤ 9223372036854775807 then (spec_l07Text.l0 k ((t162 ++ (⟨#[59]⟩ : ByteArray)) ++ t164) 0 a0_0 a0_1 l0_2 l0_3) else (none))) else (none))) = some r := by first | (rw [hy159]; with_reducible exact H) | (have H2_ := (Option.bind_some _ _).symm.trans H; rw [hy159]; with_reducible exact H2_) | (have H2_ := (Option.bind_some _ _).symm.trans H; with_reducible exact H2_) | with_reducible exact H | (rw [hy159]; exact H) | exact H
 have Ny159 := Aside0.mk hy159
 clear hy159
 replace H := Option.bind_eq_some_iff.mp H
 obtain ⟨t162, A20, H⟩ := H
 replace H : (if t162.size + 1 ≤ 9223372036854775807 then ((spec_l01List.f k l0_2).bind fun t164 => (if (t162 ++ (⟨#[59]⟩ : ByteArray)).size + t164.size ≤ 9223372036854775807 then (spec_l07Text.l0 k ((t162 ++ (⟨#[59]⟩ : ByteArray)) ++ t164) 0 a0_0 a0_1 l0_2 l0_3) else (none))) else (none)) = some r := H
 have A2 := Aside0.mk A20
 clear A20
 by_cases c3 : t162.size + 1 ≤ 9223372036854775807
 ·rw [if_pos c3] at H
  have c3b0 := eq_true c3
  have c3b1 : decide (t162.size + 1 ≤ 9223372036854775807) = true := decide_eq_true c3
  try have c3b2 : (9223372036854775807 < t162.size + 1) = False := eq_false (Nat.not_lt.2 c3)
  replace H := Option.bind_eq_some_iff.mp H
  obtain ⟨t164, A40, H⟩ := H
  replace H : (if (t162 ++ (⟨#[59]⟩ : ByteArray)).size + t164.size ≤ 9223372036854775807 then (spec_l07Text.l0 k ((t162 ++ (⟨#[59]⟩ : ByteArray)) ++ t164) 0 a0_0 a0_1 l0_2 l0_3) else (none)) = some r := H
  have A4 := Aside0.mk A40
  clear A40
  by_cases c5 : (t162 ++ (⟨#[59]⟩ : ByteArray)).size + t164.size ≤ 9223372036854775807
  ·rw [if_pos c5] at H
   have c5b0 := eq_true c5
   have c5b1 : decide ((t162 ++ (⟨#[59]⟩ : ByteArray)).size + t164.size ≤ 9223372036854775807) = true := decide_eq_true c5
   try have c5b2 : (9223372036854775807 < (t162 ++ (⟨#[59]⟩ : ByteArray)).size + t164.size) = False := eq_false (Nat.not_lt.2 c5)
   try have c5z : (9223372036854775807 < t162.size + 1 + t164.size) = False := by simpa only [ByteArray.size_append, show ByteArray.size (⟨#[59]⟩ : ByteArray) = 1 from rfl] using c5b2
   have H' := Aside0.mk H
   clear H
   go_enter Tryd.func47, Tryd.ntmps47
   try go_wp2
   have n0_ := Aside0.mk (bD HB.out)
   clear HB
   have HB := n0_
   clear n0_
   have p157 : 0 ≤ (0 : Int) := (by omega)
   have q157 : 0 < ([(⟨a0_0, a0_1, l0_2, l0_3⟩ : S31)].length : Int) := (by simp)
   obtain ⟨ad157, A157_2, c157_2, A157_3, c157_3, e157, hx157_0, hx157_1, hx157_2, hx157_3, hl157_2, hi157_2, hl157_3, hi157_3⟩ := at_T31 HRp0.out 0 p157 q157
   have hw157_3 := hx157_3
   (try rw [show ((0 : Int)).toNat = 0 from rfl] at hw157_3)
   (try rw [show 0 * 4 = 0 from rfl] at hw157_3)
   (try rw [Addr.add_zero'] at hw157_3)
   have hw157_2 := hx157_2
   (try rw [show ((0 : Int)).toNat = 0 from rfl] at hw157_2)
   (try rw [show 0 * 4 = 0 from rfl] at hw157_2)
   (try rw [Addr.add_zero'] at hw157_2)
   have hw157_1 := hx157_1
   (try rw [show ((0 : Int)).toNat = 0 from rfl] at hw157_1)
   (try rw [show 0 * 4 = 0 from rfl] at hw157_1)
   (try rw [Addr.add_zero'] at hw157_1)
   have hw157_0 := hx157_0
   (try rw [show ((0 : Int)).toNat = 0 from rfl] at hw157_0)
   (try rw [show 0 * 4 = 0 from rfl] at hw157_0)
   (try rw [Addr.add_zero'] at hw157_0)
   replace hx157_0 : _ = (some (.int .i64 a0_0) : Option Value) := hx157_0
   replace hx157_1 : _ = (some (.int .i64 a0_1) : Option Value) := hx157_1
   replace hx157_2 : _ = (some (.slice A157_2 l0_2.length c157_2) : Option Value) := hx157_2
   replace hi157_2 : Kd.C (Kd.int .i64) _ _ l0_2.length l0_2 := hi157_2
   replace hl157_2 : l0_2.length ≤ _ := hl157_2
   replace hx157_3 : _ = (some (.slice A157_3 l0_3.length c157_3) : Option Value) := hx157_3
   replace hi157_3 : Kd.C k63 _ _ l0_3.length l0_3 := hi157_3
   replace hl157_3 : l0_3.length ≤ _ := hl157_3
   obtain rfl : adp0 = ad157 := (by injection e157)
   have qi157 : (0 < [(⟨a0_0, a0_1, l0_2, l0_3⟩ : S31)].length) = True := eq_true (by simp)
   (try rw [show ((0 : Int)).toNat = 0 from rfl] at hx157_0)
   (try rw [show 0 * 4 = 0 from rfl] at hx157_0)
   (try rw [Addr.add_zero'] at hx157_0)
   (try rw [show ((0 : Int)).toNat = 0 from rfl] at hx157_1)
   (try rw [show 0 * 4 = 0 from rfl] at hx157_1)
   (try rw [Addr.add_zero'] at hx157_1)
   (try rw [show ((0 : Int)).toNat = 0 from rfl] at hx157_2)
   (try rw [show 0 * 4 = 0 from rfl] at hx157_2)
   (try rw [Addr.add_zero'] at hx157_2)
   (try rw [show ((0 : Int)).toNat = 0 from rfl] at hx157_3)
   (try rw [show 0 * 4 = 0 from rfl] at hx157_3)
   (try rw [Addr.add_zero'] at hx157_3)
   replace hx157_0 := (HB.out.cell (World.block_lt_of_cell? w _ hx157_0)).trans hx157_0
   replace hx157_1 := (HB.out.cell (World.block_lt_of_cell? w _ hx157_1)).trans hx157_1
   replace hx157_2 := (HB.out.cell (World.block_lt_of_cell? w _ hx157_2)).trans hx157_2
   replace hx157_3 := (HB.out.cell (World.block_lt_of_cell? w _ hx157_3)).trans hx157_3
   have HR157_2 := Aside0.mk hi157_2
   have HC157_2 := Aside0.mk hl157_2
   clear hi157_2 hl157_2
   have HR157_3 := Aside0.mk hi157_3
   have HC157_3 := Aside0.mk hl157_3
   clear hi157_3 hl157_3
   replace p157 := eq_true p157
   replace q157 := eq_true q157
   have p158 : 0 ≤ (0 : Int) := (by omega)
   have q158 : 0 < ([(⟨a0_0, a0_1, l0_2, l0_3⟩ : S31)].length : Int) := (by simp)
   obtain ⟨ad158, A158_2, c158_2, A158_3, c158_3, e158, hx158_0, hx158_1, hx158_2, hx158_3, hl158_2, hi158_2, hl158_3, hi158_3⟩ := at_T31 HRp0.out 0 p158 q158
   have hw158_3 := hx158_3
   (try rw [show ((0 : Int)).toNat = 0 from rfl] at hw158_3)
   (try rw [show 0 * 4 = 0 from rfl] at hw158_3)
   (try rw [Addr.add_zero'] at hw158_3)
   have hw158_2 := hx158_2
   (try rw [show ((0 : Int)).toNat = 0 from rfl] at hw158_2)
   (try rw [show 0 * 4 = 0 from rfl] at hw158_2)
   (try rw [Addr.add_zero'] at hw158_2)
   have hw158_1 := hx158_1
   (try rw [show ((0 : Int)).toNat = 0 from rfl] at hw158_1)
   (try rw [show 0 * 4 = 0 from rfl] at hw158_1)
   (try rw [Addr.add_zero'] at hw158_1)
   have hw158_0 := hx158_0
   (try rw [show ((0 : Int)).toNat = 0 from rfl] at hw158_0)
   (try rw [show 0 * 4 = 0 from rfl] at hw158_0)
   (try rw [Addr.add_zero'] at hw158_0)
   replace hx158_0 : _ = (some (.int .i64 a0_0) : Option Value) := hx158_0
   replace hx158_1 : _ = (some (.int .i64 a0_1) : Option Value) := hx158_1
   replace hx158_2 : _ = (some (.slice A158_2 l0_2.length c158_2) : Option Value) := hx158_2
   replace hi158_2 : Kd.C (Kd.int .i64) _ _ l0_2.length l0_2 := hi158_2
   replace hl158_2 : l0_2.length ≤ _ := hl158_2
   replace hx158_3 : _ = (some (.slice A158_3 l0_3.length c158_3) : Option Value) := hx158_3
   replace hi158_3 : Kd.C k63 _ _ l0_3.length l0_3 := hi158_3
   replace hl158_3 : l0_3.length ≤ _ := hl158_3
   obtain rfl : adp0 = ad158 := (by injection e158)
   have qi158 : (0 < [(⟨a0_0, a0_1, l0_2, l0_3⟩ : S31)].length) = True := eq_true (by simp)
   (try rw [show ((0 : Int)).toNat = 0 from rfl] at hx158_0)
   (try rw [show 0 * 4 = 0 from rfl] at hx158_0)
   (try rw [Addr.add_zero'] at hx158_0)
   (try rw [show ((0 : Int)).toNat = 0 from rfl] at hx158_1)
   (try rw [show 0 * 4 = 0 from rfl] at hx158_1)
   (try rw [Addr.add_zero'] at hx158_1)
   (try rw [show ((0 : Int)).toNat = 0 from rfl] at hx158_2)
   (try rw [show 0 * 4 = 0 from rfl] at hx158_2)
   (try rw [Addr.add_zero'] at hx158_2)
   (try rw [show ((0 : Int)).toNat = 0 from rfl] at hx158_3)
   (try rw [show 0 * 4 = 0 from rfl] at hx158_3)
   (try rw [Addr.add_zero'] at hx158_3)
   replace hx158_0 := (HB.out.cell (World.block_lt_of_cell? w _ hx158_0)).trans hx158_0
   replace hx158_1 := (HB.out.cell (World.block_lt_of_cell? w _ hx158_1)).trans hx158_1
   replace hx158_2 := (HB.out.cell (World.block_lt_of_cell? w _ hx158_2)).trans hx158_2
   replace hx158_3 := (HB.out.cell (World.block_lt_of_cell? w _ hx158_3)).trans hx158_3
   have HR158_2 := Aside0.mk hi158_2
   have HC158_2 := Aside0.mk hl158_2
   clear hi158_2 hl158_2
   have HR158_3 := Aside0.mk hi158_3
   have HC158_3 := Aside0.mk hl158_3
   clear hi158_3 hl158_3
   replace p158 := eq_true p158
   replace q158 := eq_true q158
   have ea_ := Option.some.inj (hx157_2.symm.trans hx158_2)
   injection ea_ with ea_ en_ ec_
   subst ea_
   subst ec_
   clear en_
   have ea_ := Option.some.inj (hx157_3.symm.trans hx158_3)
   injection ea_ with ea_ en_ ec_
   subst ea_
   subst ec_
   clear en_
   have p163 : 0 ≤ (0 : Int) := (by omega)
   have q163 : 0 < ([(⟨a0_0, a0_1, l0_2, l0_3⟩ : S31)].length : Int) := (by simp)
   obtain ⟨ad163, A163_2, c163_2, A163_3, c163_3, e163, hx163_0, hx163_1, hx163_2, hx163_3, hl163_2, hi163_2, hl163_3, hi163_3⟩ := at_T31 HRp0.out 0 p163 q163
   have hw163_3 := hx163_3
   (try rw [show ((0 : Int)).toNat = 0 from rfl] at hw163_3)
   (try rw [show 0 * 4 = 0 from rfl] at hw163_3)
   (try rw [Addr.add_zero'] at hw163_3)
   have hw163_2 := hx163_2
   (try rw [show ((0 : Int)).toNat = 0 from rfl] at hw163_2)
   (try rw [show 0 * 4 = 0 from rfl] at hw163_2)
   (try rw [Addr.add_zero'] at hw163_2)
   have hw163_1 := hx163_1
   (try rw [show ((0 : Int)).toNat = 0 from rfl] at hw163_1)
   (try rw [show 0 * 4 = 0 from rfl] at hw163_1)
   (try rw [Addr.add_zero'] at hw163_1)
   have hw163_0 := hx163_0
   (try rw [show ((0 : Int)).toNat = 0 from rfl] at hw163_0)
   (try rw [show 0 * 4 = 0 from rfl] at hw163_0)
   (try rw [Addr.add_zero'] at hw163_0)
   replace hx163_0 : _ = (some (.int .i64 a0_0) : Option Value) := hx163_0
   replace hx163_1 : _ = (some (.int .i64 a0_1) : Option Value) := hx163_1
   replace hx163_2 : _ = (some (.slice A163_2 l0_2.length c163_2) : Option Value) := hx163_2
   replace hi163_2 : Kd.C (Kd.int .i64) _ _ l0_2.length l0_2 := hi163_2
   replace hl163_2 : l0_2.length ≤ _ := hl163_2
   replace hx163_3 : _ = (some (.slice A163_3 l0_3.length c163_3) : Option Value) := hx163_3
   replace hi163_3 : Kd.C k63 _ _ l0_3.length l0_3 := hi163_3
   replace hl163_3 : l0_3.length ≤ _ := hl163_3
   obtain rfl : adp0 = ad163 := (by injection e163)
   have qi163 : (0 < [(⟨a0_0, a0_1, l0_2, l0_3⟩ : S31)].length) = True := eq_true (by simp)
   (try rw [show ((0 : Int)).toNat = 0 from rfl] at hx163_0)
   (try rw [show 0 * 4 = 0 from rfl] at hx163_0)
   (try rw [Addr.add_zero'] at hx163_0)
   (try rw [show ((0 : Int)).toNat = 0 from rfl] at hx163_1)
   (try rw [show 0 * 4 = 0 from rfl] at hx163_1)
   (try rw [Addr.add_zero'] at hx163_1)
   (try rw [show ((0 : Int)).toNat = 0 from rfl] at hx163_2)
   (try rw [show 0 * 4 = 0 from rfl] at hx163_2)
   (try rw [Addr.add_zero'] at hx163_2)
   (try rw [show ((0 : Int)).toNat = 0 from rfl] at hx163_3)
   (try rw [show 0 * 4 = 0 from rfl] at hx163_3)
   (try rw [Addr.add_zero'] at hx163_3)
   replace hx163_0 := (HB.out.cell (World.block_lt_of_cell? w _ hx163_0)).trans hx163_0
   replace hx163_1 := (HB.out.cell (World.block_lt_of_cell? w _ hx163_1)).trans hx163_1
   replace hx163_2 := (HB.out.cell (World.block_lt_of_cell? w _ hx163_2)).trans hx163_2
   replace hx163_3 := (HB.out.cell (World.block_lt_of_cell? w _ hx163_3)).trans hx163_3
   have HR163_2 := Aside0.mk hi163_2
   have HC163_2 := Aside0.mk hl163_2
   clear hi163_2 hl163_2
   have HR163_3 := Aside0.mk hi163_3
   have HC163_3 := Aside0.mk hl163_3
   clear hi163_3 hl163_3
   replace p163 := eq_true p163
   replace q163 := eq_true q163
   have ea_ := Option.some.inj (hx157_2.symm.trans hx163_2)
   injection ea_ with ea_ en_ ec_
   subst ea_
   subst ec_
   clear en_
   have ea_ := Option.some.inj (hx157_3.symm.trans hx163_3)
   injection ea_ with ea_ en_ ec_
   subst ea_
   subst ec_
   clear en_
   refine start_ (n := 18) (S := fun w' => w'.cell? adp0 = some (.int .i64 a0_0) ∧ w'.cell? ⟨adp0.block, adp0.off + 1, none⟩ = some (.int .i64 a0_1) ∧ w'.cell? ⟨adp0.block, adp0.off + 2, none⟩ = some (.slice A157_2 l0_2.length c157_2) ∧ w'.cell? ⟨adp0.block, adp0.off + 3, none⟩ = some (.slice A157_3 l0_3.length c157_3) ∧ w'.cell? adp0 = some (.int .i64 a0_0) ∧ w'.cell? ⟨adp0.block, adp0.off + 1, none⟩ = some (.int .i64 a0_1) ∧ w'.cell? ⟨adp0.block, adp0.off + 2, none⟩ = some (.slice A157_2 l0_2.length c157_2) ∧ w'.cell? ⟨adp0.block, adp0.off + 3, none⟩ = some (.slice A157_3 l0_3.length c157_3) ∧ w'.cell? adp0 = some (.int .i64 a0_0) ∧ w'.cell? ⟨adp0.block, adp0.off + 1, none⟩ = some (.int .i64 a0_1) ∧ w'.cell? ⟨adp0.block, adp0.off + 2, none⟩ = some (.slice A157_2 l0_2.length c157_2) ∧ w'.cell? ⟨adp0.block, adp0.off + 3, none⟩ = some (.slice A157_3 l0_3.length c157_3)) (ds := []) #[F,F,F,F,F,F,F,F,F,F,F,F,F,F,F,F,F,F] (by kernel_rfl) rfl rfl ⟨((HB.out.cell (World.block_lt_of_cell? w _ hw157_0)).trans hw157_0), ((HB.out.cell (World.block_lt_of_cell? w _ hw157_1)).trans hw157_1), ((HB.out.cell (World.block_lt_of_cell? w _ hw157_2)).trans hw157_2), ((HB.out.cell (World.block_lt_of_cell? w _ hw157_3)).trans hw157_3), ((HB.out.cell (World.block_lt_of_cell? w _ hw158_0)).trans hw158_0), ((HB.out.cell (World.block_lt_of_cell? w _ hw158_1)).trans hw158_1), ((HB.out.cell (World.block_lt_of_cell? w _ hw158_2)).trans hw158_2), ((HB.out.cell (World.block_lt_of_cell? w _ hw158_3)).trans hw158_3), ((HB.out.cell (World.block_lt_of_cell? w _ hw163_0)).trans hw163_0), ((HB.out.cell (World.block_lt_of_cell? w _ hw163_1)).trans hw163_1), ((HB.out.cell (World.block_lt_of_cell? w _ hw163_2)).trans hw163_2), ((HB.out.cell (World.block_lt_of_cell? w _ hw163_3)).trans hw163_3)⟩ (fun hHeld => ?_); refine with_tabW spec_l07Text.tab1 spec_l07Text.bits1 (fun HT_ HW_ => ?_)
   generalize w.drew = w6 at HB HR157_2 HR157_3 HR158_2 HR158_3 HR163_2 HR163_3 hx157_0 hx157_1 hx157_2 hx157_3 hx158_0 hx158_1 hx158_2 hx158_3 hx163_0 hx163_1 hx163_2 hx163_3 hHeld ⊢
   refine pure_ (i := 0) (N := some 5) (v := ?_) (a' := ?_) #[T,F,F,F,F,F,F,F,F,F,F,F,F,F,F,F,F,F] rfl rfl (aO HT_.out (by kernel_rfl)) (fun _ _ _ h => h) (Or.inl ⟨by rfl, ?_⟩) ?_ ?_; rotate_left; (·intro w'; go_simp; with_reducible rfl); rotate_left; (·simp only [Act.put, sI, sZ, sS, iW, jW]; rfl)
   refine pure_ (i := 1) (N := some 6) (v := ?_) (a' := ?_) #[T,T,F,F,F,F,F,F,F,F,F,F,F,F,F,F,F,F] rfl rfl (aO HT_.out (by kernel_rfl)) (fun _ _ _ h => h) (Or.inl ⟨by rfl, ?_⟩) ?_ ?_; rotate_left; (·intro w'; go_simp; with_reducible rfl); rotate_left; (·simp only [Act.put, sI, sZ, sS, iW, jW]; rfl)
   refine pure_ (i := 2) (N := some 7) (v := ?_) (a' := ?_) #[T,T,T,F,F,F,F,F,F,F,F,F,F,F,F,F,F,F] rfl rfl (aO HT_.out (by kernel_rfl)) (fun _ _ _ h => h) (Or.inl ⟨by rfl, ?_⟩) ?_ ?_; rotate_left; (·intro w'; go_simp; with_reducible rfl); rotate_left; (·simp only [Act.put, sI, sZ, sS, iW, jW]; rfl)
   refine pure_ (i := 4) (N := some 9) (v := ?_) (a' := ?_) #[T,T,T,F,T,F,F,F,F,F,F,F,F,F,F,F,F,F] rfl rfl (aO HT_.out (by kernel_rfl)) (fun _ _ _ h => h) (Or.inl ⟨by rfl, ?_⟩) ?_ ?_; rotate_left; (·intro w'; go_simp; with_reducible rfl); rotate_left; (·simp only [Act.put, sI, sZ, sS, iW, jW]; rfl)
   refine pure_ (i := 5) (N := some 10) (v := ?_) (a' := ?_) #[T,T,T,F,T,T,F,F,F,F,F,F,F,F,F,F,F,F] rfl rfl (aO HT_.out (by kernel_rfl)) (fun _ _ _ h => h) (Or.inl ⟨by rfl, ?_⟩) ?_ ?_; rotate_left; (·intro w'; go_simp; with_reducible rfl); rotate_left; (·simp only [Act.put, sI, sZ, sS, iW, jW]; rfl)
   refine pure_ (i := 6) (N := some 11) (v := ?_) (a' := ?_) #[T,T,T,F,T,T,T,F,F,F,F,F,F,F,F,F,F,F] rfl rfl (aO HT_.out (by kernel_rfl)) (fun _ _ _ h => h) (Or.inl ⟨by rfl, ?_⟩) ?_ ?_; rotate_left; (·intro w'; go_simp; with_reducible rfl); rotate_left; (·simp only [Act.put, sI, sZ, sS, iW, jW]; rfl)
   refine pure_ (i := 11) (N := some 16) (v := ?_) (a' := ?_) #[T,T,T,F,T,T,T,F,F,F,F,T,F,F,F,F,F,F] rfl rfl (aO HT_.out (by kernel_rfl)) (fun _ _ _ h => h) (Or.inl ⟨by rfl, ?_⟩) ?_ ?_; rotate_left; (·intro w'; go_simp; with_reducible rfl); rotate_left; (·simp only [Act.put, sI, sZ, sS, iW, jW]; rfl)
   refine pure_ (i := 12) (N := some 17) (v := ?_) (a' := ?_) #[T,T,T,F,T,T,T,F,F,F,F,T,T,F,F,F,F,F] rfl rfl (aO HT_.out (by kernel_rfl)) (fun _ _ _ h => h) (Or.inl ⟨by rfl, ?_⟩) ?_ ?_; rotate_left; (·intro w'; go_simp; with_reducible rfl); rotate_left; (·simp only [Act.put, sI, sZ, sS, iW, jW]; rfl)
   refine pure_ (i := 13) (N := some 18) (v := ?_) (a' := ?_) #[T,T,T,F,T,T,T,F,F,F,F,T,T,T,F,F,F,F] rfl rfl (aO HT_.out (by kernel_rfl)) (fun _ _ _ h => h) (Or.inl ⟨by rfl, ?_⟩) ?_ ?_; rotate_left; (·intro w'; go_simp; with_reducible rfl); rotate_left; (·simp only [Act.put, sI, sZ, sS, iW, jW]; rfl)
   refine take_ (i := 3) (N := some 8) (v := ?_) (a' := ?_) #[T,T,T,T,T,T,T,F,F,F,F,T,T,T,F,F,F,F] rfl rfl (tW HT_.out HW_.out (by kernel_rfl)) (fun _ _ _ h => h) (Or.inl ⟨by rfl, ?_⟩) hHeld ?_ ?_; rotate_left; (·rintro w' ⟨s0, s1, s2, s3, s4, s5, s6, s7, s8, s9, s10, s11⟩; go_simp; with_reducible rfl); rotate_left; (·simp only [Act.put, sI, sZ, sS, iW, jW]; rfl)
   refine take_ (i := 7) (N := some 12) (v := ?_) (a' := ?_) #[T,T,T,T,T,T,T,T,F,F,F,T,T,T,F,F,F,F] rfl rfl (tW HT_.out HW_.out (by kernel_rfl)) (fun _ _ _ h => h) (Or.inl ⟨by rfl, ?_⟩) hHeld ?_ ?_; rotate_left; (·rintro w' ⟨s0, s1, s2, s3, s4, s5, s6, s7, s8, s9, s10, s11⟩; go_simp; with_reducible rfl); rotate_left; (·simp only [Act.put, sI, sZ, sS, iW, jW]; rfl)
   refine take_ (i := 14) (N := some 19) (v := ?_) (a' := ?_) #[T,T,T,T,T,T,T,T,F,F,F,T,T,T,T,F,F,F] rfl rfl (tW HT_.out HW_.out (by kernel_rfl)) (fun _ _ _ h => h) (Or.inl ⟨by rfl, ?_⟩) hHeld ?_ ?_; rotate_left; (·rintro w' ⟨s0, s1, s2, s3, s4, s5, s6, s7, s8, s9, s10, s11⟩; go_simp; with_reducible rfl); rotate_left; (·simp only [Act.put, sI, sZ, sS, iW, jW]; rfl)
   refine one_ (i := 8) (N := some 13) #[T,T,T,T,T,T,T,T,T,F,F,T,T,T,T,F,F,F] rfl rfl (oO HT_.out (by kernel_rfl)) (by decide) (fun K hK => ?_)
   refine Kd.R_lit_step (Kd.int .i64) _ 2 ?hg (N := 13) ?hd (xs := ([a0_0, a0_1] : List Int)) (inner := [.int .i64 a0_0, .int .i64 a0_1]) (ok := fun _ => True) (okp := fun _ => True) ?hr ?hp (fun _ hk => hk) trivial (Below.refl _ _) (Nat.le_refl _) (by simp) ?_; (case hd => rfl); (case hg => rfl); (case hr => first | (go_simp; done) | (go_simp; rfl)); (case hp => exact (Reps.one (show Kd.M (Kd.int .i64) _ _ _ a0_0 [.int .i64 a0_0] from rfl) (Reps.one (show Kd.M (Kd.int .i64) _ _ _ a0_1 [.int .i64 a0_1] from rfl) (Reps.none _ _))))
   intro v160 w7 ho8 hb hg_ hnew_
   clear hg_ hnew_
   (first | rw [← Ny159.out] at ho8 | (simp only [Int.reduceToNat] at ho8; rw [← Ny159.out] at ho8))
   have n0_ := Aside0.mk (rL ho8 (bZ (by repeat (first | (with_reducible first | exact HB.out | apply bA | apply bN | apply bD) | exact HB.out))))
   have n1_ := Aside0.mk (bP (by repeat (first | (with_reducible first | exact HB.out | apply bA | apply bN | apply bD) | exact HB.out)) hb)
   clear HB
   have HO161 := n0_
   have HB := n1_
   clear n0_ n1_
   clear hb ho8
   obtain ⟨Ao9, co9, eo9⟩ := Kd.R_slice HO161.out
   (first | subst eo9 | (injection eo9 with f1_ f2_ f3_; have f4_ := f1_.symm; have f5_ := f3_.symm; clear f1_ f2_ f3_; subst f4_; subst f5_))
   refine hK.out _ _ ⟨((HB.out.cell (World.block_lt_of_cell? w _ hw157_0)).trans hw157_0), ((HB.out.cell (World.block_lt_of_cell? w _ hw157_1)).trans hw157_1), ((HB.out.cell (World.block_lt_of_cell? w _ hw157_2)).trans hw157_2), ((HB.out.cell (World.block_lt_of_cell? w _ hw157_3)).trans hw157_3), ((HB.out.cell (World.block_lt_of_cell? w _ hw158_0)).trans hw158_0), ((HB.out.cell (World.block_lt_of_cell? w _ hw158_1)).trans hw158_1), ((HB.out.cell (World.block_lt_of_cell? w _ hw158_2)).trans hw158_2), ((HB.out.cell (World.block_lt_of_cell? w _ hw158_3)).trans hw158_3), ((HB.out.cell (World.block_lt_of_cell? w _ hw163_0)).trans hw163_0), ((HB.out.cell (World.block_lt_of_cell? w _ hw163_1)).trans hw163_1), ((HB.out.cell (World.block_lt_of_cell? w _ hw163_2)).trans hw163_2), ((HB.out.cell (World.block_lt_of_cell? w _ hw163_3)).trans hw163_3)⟩ (fun hHeld => ?_)
   clear hK K
   refine norm_ (a' := ?_) ?_ ?_
   rotate_left
   ·show Act.put _ (some 13) _ = _
    simp only [Act.put, sI, sZ, sS, iW, jW]
    rfl
   refine one_ (i := 9) (N := some 14) #[T,T,T,T,T,T,T,T,T,T,F,T,T,T,T,F,F,F] rfl rfl (oO HT_.out (by kernel_rfl)) (by decide) (fun K hK => ?_)
   refine goes_ Tryd.func70 (by kernel_rfl) rfl #[.slice Ao9 y159.length co9] (by rfl) rfl rfl (by (try simp only [List.map_toArray, List.map_cons, List.map_nil]); first | done | rfl | (simp only [List.length_drop, List.length_take]; rfl)) ?_
   with_reducible refine (spec_l01List.calls k _ _ y159 t162 _ ?side1 ?side2 A2.out).mono ?_
   (case side1 => repeat (first | exact (Kd.R_reads' HO161.out).2.2 | (with_reducible refine cA ?_ _) | (with_reducible refine cN ?_ _) | (with_reducible refine cD ?_)))
   (case side2 => exact (Kd.R_reads' HO161.out).2.1)
   rintro e w10 ⟨rfl, hb⟩
   refine ⟨_, rfl, ?_⟩
   have n0_ := Aside0.mk (rB (by (with_reducible repeat (first | apply rA | apply rN | apply rD)); exact HO161.out) hb)
   have n1_ := Aside0.mk (bP (by repeat (first | (with_reducible first | exact HB.out | apply bA | apply bN | apply bD) | exact HB.out)) hb)
   clear HO161
   clear HB
   have HO161 := n0_
   have HB := n1_
   clear n0_ n1_
   (try clear hb)
   (try clear hb2)
   (try clear hk)
   (try clear hi)
   refine hK.out _ _ ⟨((HB.out.cell (World.block_lt_of_cell? w _ hw157_0)).trans hw157_0), ((HB.out.cell (World.block_lt_of_cell? w _ hw157_1)).trans hw157_1), ((HB.out.cell (World.block_lt_of_cell? w _ hw157_2)).trans hw157_2), ((HB.out.cell (World.block_lt_of_cell? w _ hw157_3)).trans hw157_3), ((HB.out.cell (World.block_lt_of_cell? w _ hw158_0)).trans hw158_0), ((HB.out.cell (World.block_lt_of_cell? w _ hw158_1)).trans hw158_1), ((HB.out.cell (World.block_lt_of_cell? w _ hw158_2)).trans hw158_2), ((HB.out.cell (World.block_lt_of_cell? w _ hw158_3)).trans hw158_3), ((HB.out.cell (World.block_lt_of_cell? w _ hw163_0)).trans hw163_0), ((HB.out.cell (World.block_lt_of_cell? w _ hw163_1)).trans hw163_1), ((HB.out.cell (World.block_lt_of_cell? w _ hw163_2)).trans hw163_2), ((HB.out.cell (World.block_lt_of_cell? w _ hw163_3)).trans hw163_3)⟩ (fun hHeld => ?_)
   clear hK K
   refine norm_ (a' := ?_) ?_ ?_
   rotate_left
   ·show Act.put _ (some 14) _ = _
    simp only [Act.put, sI, sZ, sS, iW, jW]
    rfl
   refine pure_ (i := 10) (N := some 15) (v := ?_) (a' := ?_) #[T,T,T,T,T,T,T,T,T,T,T,T,T,T,T,F,F,F] rfl rfl (aO HT_.out (by kernel_rfl)) (fun _ _ _ h => h) (Or.inl ⟨by rfl, ?_⟩) ?_ ?_; rotate_left; (·intro w'; go_simp; with_reducible rfl); rotate_left; (·simp only [Act.put, sI, sZ, sS, iW, jW]; rfl)
   refine one_ (i := 15) (N := some 20) #[T,T,T,T,T,T,T,T,T,T,T,T,T,T,T,T,F,F] rfl rfl (oO HT_.out (by kernel_rfl)) (by decide) (fun K hK => ?_)
   refine goes_ Tryd.func70 (by kernel_rfl) rfl #[.slice A157_2 l0_2.length c157_2] (by rfl) rfl rfl (by (try simp only [List.map_toArray, List.map_cons, List.map_nil]); first | done | rfl | (simp only [List.length_drop, List.length_take]; rfl)) ?_
   with_reducible refine (spec_l01List.calls k _ _ l0_2 t164 _ ?side1 ?side2 A4.out).mono ?_
   (case side1 => repeat (first | exact (cB HR163_2.out HB.out) | (with_reducible refine cA ?_ _) | (with_reducible refine cN ?_ _) | (with_reducible refine cD ?_)))
   (case side2 => exact HC163_2.out)
   rintro e w11 ⟨rfl, hb⟩
   refine ⟨_, rfl, ?_⟩
   have n0_ := Aside0.mk (rB (by (with_reducible repeat (first | apply rA | apply rN | apply rD)); exact HO161.out) hb)
   have n1_ := Aside0.mk (bP (by repeat (first | (with_reducible first | exact HB.out | apply bA | apply bN | apply bD) | exact HB.out)) hb)
   clear HO161
   clear HB
   have HO161 := n0_
   have HB := n1_
   clear n0_ n1_
   (try clear hb)
   (try clear hb2)
   (try clear hk)
   (try clear hi)
   refine hK.out _ _ ⟨((HB.out.cell (World.block_lt_of_cell? w _ hw157_0)).trans hw157_0), ((HB.out.cell (World.block_lt_of_cell? w _ hw157_1)).trans hw157_1), ((HB.out.cell (World.block_lt_of_cell? w _ hw157_2)).trans hw157_2), ((HB.out.cell (World.block_lt_of_cell? w _ hw157_3)).trans hw157_3), ((HB.out.cell (World.block_lt_of_cell? w _ hw158_0)).trans hw158_0), ((HB.out.cell (World.block_lt_of_cell? w _ hw158_1)).trans hw158_1), ((HB.out.cell (World.block_lt_of_cell? w _ hw158_2)).trans hw158_2), ((HB.out.cell (World.block_lt_of_cell? w _ hw158_3)).trans hw158_3), ((HB.out.cell (World.block_lt_of_cell? w _ hw163_0)).trans hw163_0), ((HB.out.cell (World.block_lt_of_cell? w _ hw163_1)).trans hw163_1), ((HB.out.cell (World.block_lt_of_cell? w _ hw163_2)).trans hw163_2), ((HB.out.cell (World.block_lt_of_cell? w _ hw163_3)).trans hw163_3)⟩ (fun hHeld => ?_)
   clear hK K
   refine norm_ (a' := ?_) ?_ ?_
   rotate_left
   ·show Act.put _ (some 20) _ = _
    simp only [Act.put, sI, sZ, sS, iW, jW]
    rfl
   refine pure_ (i := 16) (N := some 21) (v := ?_) (a' := ?_) #[T,T,T,T,T,T,T,T,T,T,T,T,T,T,T,T,T,F] rfl rfl (aO HT_.out (by kernel_rfl)) (fun _ _ _ h => h) (Or.inl ⟨by rfl, ?_⟩) ?_ ?_; rotate_left; (·intro w'; go_simp; with_reducible rfl); rotate_left; (·simp only [Act.put, sI, sZ, sS, iW, jW]; rfl)
   refine pure_ (i := 17) (N := some 3) (v := ?_) (a' := ?_) #[T,T,T,T,T,T,T,T,T,T,T,T,T,T,T,T,T,T] rfl rfl (aO HT_.out (by kernel_rfl)) (fun _ _ _ h => h) (Or.inl ⟨by rfl, ?_⟩) ?_ ?_; rotate_left; (·intro w'; go_simp; with_reducible rfl); rotate_left; (·simp only [Act.put, sI, sZ, sS, iW, jW]; rfl)
   refine done_ (done_of HT_.out (by kernel_rfl)) ?_
   try go_wp2
   go_loopg [3, 4] k (fun kq v3 v4 w' => ∃ (x3_1 : ByteArray) (x4_1 : Int), v3 = .string x3_1 ∧ v4 = .int .i64 x4_1 ∧ Aside0 (spec_l07Text.l0 kq x3_1 x4_1 a0_0 a0_1 l0_2 l0_3 = some r) ∧ Aside0 (kq ≤ k) ∧ Aside0 (Below w.heap.size w w'))
   case atStart => exact ⟨((t162 ++ (⟨#[59]⟩ : ByteArray)) ++ t164), (0), (by first | rfl | (simp; done) | (simp [*]; done)), (by first | rfl | (simp; done) | (simp [*]; done)), H', ⟨Nat.le_refl _⟩, ⟨by repeat (first | (with_reducible first | exact HB.out | apply bA | apply bN | apply bD) | exact HB.out)⟩⟩
   case round =>
    clear H'
    try clear c1
    try clear p1
    try clear q1
    try clear hx1
    try clear qi1
    try clear p2
    try clear c3
    try clear c3b0
    try clear c3b1
    try clear c3b2
    try clear c4
    try clear c5
    try clear c5b0
    try clear c5b1
    try clear c5b2
    try clear c7
    try clear hx157_0
    try clear hx157_1
    try clear hx157_2
    try clear hx157_3
    try clear hx158_0
    try clear hx158_1
    try clear hx158_2
    try clear hx158_3
    try clear hx163_0
    try clear hx163_1
    try clear hx163_2
    try clear hx163_3
    try clear p157
    try clear p158
    try clear p163
    try clear q157
    try clear q158
    try clear q163
    obtain ⟨x3_1, x4_1, rfl, rfl, HA, HK1, HB⟩ := hrel
    cases gk with
    | zero => exact absurd HA.out (by simp [spec_l07Text.l0])
    | succ k1 =>
     have H := HA.out
     clear HA
     simp only [spec_l07Text.l0] at H
     by_cases c12 : x4_1 < (l0_3.length : Int)
     ·rw [if_pos c12] at H
      have c12b0 : decide (x4_1 < (l0_3.length : Int)) = true := decide_eq_true c12
      clear c12
      by_cases c13 : 0 ≤ x4_1
      ·rw [if_pos c13] at H
       have c13b0 : decide (0 ≤ x4_1) = true := decide_eq_true c13
       clear c13
       obtain ⟨y172, hy172⟩ : ∃ y_ : List Int, y_ = (([(rd_T63 l0_3 x4_1).f0, (rd_T63 l0_3 x4_1).f1, (rd_T63 l0_3 x4_1).f2] : List Int)) := ⟨_, rfl⟩
       replace H : ((spec_l01List.f k1 y172).bind fun t175 => (if 1 + t175.size ≤ 9223372036854775807 then (if x3_1.size + ((⟨#[59]⟩ : ByteArray) ++ t175).size ≤ 9223372036854775807 then (spec_l07Text.l0 k1 (x3_1 ++ ((⟨#[59]⟩ : ByteArray) ++ t175)) (wrap64 (x4_1 + 1)) a0_0 a0_1 l0_2 l0_3) else (none)) else (none))) = some r := by first | (rw [hy172]; with_reducible exact H) | (have H2_ := (Option.bind_some _ _).symm.trans H; rw [hy172]; with_reducible exact H2_) | (have H2_ := (Option.bind_some _ _).symm.trans H; with_reducible exact H2_) | with_reducible exact H | (rw [hy172]; exact H) | exact H
       have Ny172 := Aside0.mk hy172
       clear hy172
       replace H := Option.bind_eq_some_iff.mp H
       obtain ⟨t175, A140, H⟩ := H
       replace H : (if 1 + t175.size ≤ 9223372036854775807 then (if x3_1.size + ((⟨#[59]⟩ : ByteArray) ++ t175).size ≤ 9223372036854775807 then (spec_l07Text.l0 k1 (x3_1 ++ ((⟨#[59]⟩ : ByteArray) ++ t175)) (wrap64 (x4_1 + 1)) a0_0 a0_1 l0_2 l0_3) else (none)) else (none)) = some r := H
       have A14 := Aside0.mk A140
       clear A140
       by_cases c15 : 1 + t175.size ≤ 9223372036854775807
       ·rw [if_pos c15] at H
        have c15b0 := eq_true c15
        have c15b1 : decide (1 + t175.size ≤ 9223372036854775807) = true := decide_eq_true c15
        try have c15b2 : (9223372036854775807 < 1 + t175.size) = False := eq_false (Nat.not_lt.2 c15)
        by_cases c16 : x3_1.size + ((⟨#[59]⟩ : ByteArray) ++ t175).size ≤ 9223372036854775807
        ·rw [if_pos c16] at H
         have c16b0 := eq_true c16
         have c16b1 : decide (x3_1.size + ((⟨#[59]⟩ : ByteArray) ++ t175).size ≤ 9223372036854775807) = true := decide_eq_true c16
         try have c16b2 : (9223372036854775807 < x3_1.size + ((⟨#[59]⟩ : ByteArray) ++ t175).size) = False := eq_false (Nat.not_lt.2 c16)
         try have c16z : (9223372036854775807 < x3_1.size + (1 + t175.size)) = False := by simpa only [ByteArray.size_append, show ByteArray.size (⟨#[59]⟩ : ByteArray) = 1 from rfl] using c16b2
         have H' := Aside0.mk H
         clear H
         have p165 : 0 ≤ (0 : Int) := (by omega)
         have q165 : 0 < ([(⟨a0_0, a0_1, l0_2, l0_3⟩ : S31)].length : Int) := (by simp)
         obtain ⟨ad165, A165_2, c165_2, A165_3, c165_3, e165, hx165_0, hx165_1, hx165_2, hx165_3, hl165_2, hi165_2, hl165_3, hi165_3⟩ := at_T31 HRp0.out 0 p165 q165
         replace hx165_0 : _ = (some (.int .i64 a0_0) : Option Value) := hx165_0
         replace hx165_1 : _ = (some (.int .i64 a0_1) : Option Value) := hx165_1
         replace hx165_2 : _ = (some (.slice A165_2 l0_2.length c165_2) : Option Value) := hx165_2
         replace hi165_2 : Kd.C (Kd.int .i64) _ _ l0_2.length l0_2 := hi165_2
         replace hl165_2 : l0_2.length ≤ _ := hl165_2
         replace hx165_3 : _ = (some (.slice A165_3 l0_3.length c165_3) : Option Value) := hx165_3
         replace hi165_3 : Kd.C k63 _ _ l0_3.length l0_3 := hi165_3
         replace hl165_3 : l0_3.length ≤ _ := hl165_3
         obtain rfl : adp0 = ad165 := (by injection e165)
         have qi165 : (0 < [(⟨a0_0, a0_1, l0_2, l0_3⟩ : S31)].length) = True := eq_true (by simp)
         (try rw [show ((0 : Int)).toNat = 0 from rfl] at hx165_0)
         (try rw [show 0 * 4 = 0 from rfl] at hx165_0)
         (try rw [Addr.add_zero'] at hx165_0)
         (try rw [show ((0 : Int)).toNat = 0 from rfl] at hx165_1)
         (try rw [show 0 * 4 = 0 from rfl] at hx165_1)
         (try rw [Addr.add_zero'] at hx165_1)
         (try rw [show ((0 : Int)).toNat = 0 from rfl] at hx165_2)
         (try rw [show 0 * 4 = 0 from rfl] at hx165_2)
         (try rw [Addr.add_zero'] at hx165_2)
         (try rw [show ((0 : Int)).toNat = 0 from rfl] at hx165_3)
         (try rw [show 0 * 4 = 0 from rfl] at hx165_3)
         (try rw [Addr.add_zero'] at hx165_3)
         replace hx165_0 := (HB.out.cell (World.block_lt_of_cell? w _ hx165_0)).trans hx165_0
         replace hx165_1 := (HB.out.cell (World.block_lt_of_cell? w _ hx165_1)).trans hx165_1
         replace hx165_2 := (HB.out.cell (World.block_lt_of_cell? w _ hx165_2)).trans hx165_2
         replace hx165_3 := (HB.out.cell (World.block_lt_of_cell? w _ hx165_3)).trans hx165_3
         have HR165_2 := Aside0.mk hi165_2
         have HC165_2 := Aside0.mk hl165_2
         clear hi165_2 hl165_2
         have HR165_3 := Aside0.mk hi165_3
         have HC165_3 := Aside0.mk hl165_3
         clear hi165_3 hl165_3
         replace p165 := eq_true p165
         replace q165 := eq_true q165
         try go_wp2
         have n0_ := Aside0.mk (bD HB.out)
         clear HB
         have HB := n0_
         clear n0_
         have p166 : 0 ≤ (0 : Int) := (by omega)
         have q166 : 0 < ([(⟨a0_0, a0_1, l0_2, l0_3⟩ : S31)].length : Int) := (by simp)
         obtain ⟨ad166, A166_2, c166_2, A166_3, c166_3, e166, hx166_0, hx166_1, hx166_2, hx166_3, hl166_2, hi166_2, hl166_3, hi166_3⟩ := at_T31 HRp0.out 0 p166 q166
         have hw166_3 := hx166_3
         (try rw [show ((0 : Int)).toNat = 0 from rfl] at hw166_3)
         (try rw [show 0 * 4 = 0 from rfl] at hw166_3)
         (try rw [Addr.add_zero'] at hw166_3)
         have hw166_2 := hx166_2
         (try rw [show ((0 : Int)).toNat = 0 from rfl] at hw166_2)
         (try rw [show 0 * 4 = 0 from rfl] at hw166_2)
         (try rw [Addr.add_zero'] at hw166_2)
         have hw166_1 := hx166_1
         (try rw [show ((0 : Int)).toNat = 0 from rfl] at hw166_1)
         (try rw [show 0 * 4 = 0 from rfl] at hw166_1)
         (try rw [Addr.add_zero'] at hw166_1)
         have hw166_0 := hx166_0
         (try rw [show ((0 : Int)).toNat = 0 from rfl] at hw166_0)
         (try rw [show 0 * 4 = 0 from rfl] at hw166_0)
         (try rw [Addr.add_zero'] at hw166_0)
         replace hx166_0 : _ = (some (.int .i64 a0_0) : Option Value) := hx166_0
         replace hx166_1 : _ = (some (.int .i64 a0_1) : Option Value) := hx166_1
         replace hx166_2 : _ = (some (.slice A166_2 l0_2.length c166_2) : Option Value) := hx166_2
         replace hi166_2 : Kd.C (Kd.int .i64) _ _ l0_2.length l0_2 := hi166_2
         replace hl166_2 : l0_2.length ≤ _ := hl166_2
         replace hx166_3 : _ = (some (.slice A166_3 l0_3.length c166_3) : Option Value) := hx166_3
         replace hi166_3 : Kd.C k63 _ _ l0_3.length l0_3 := hi166_3
         replace hl166_3 : l0_3.length ≤ _ := hl166_3
         obtain rfl : adp0 = ad166 := (by injection e166)
         have qi166 : (0 < [(⟨a0_0, a0_1, l0_2, l0_3⟩ : S31)].length) = True := eq_true (by simp)
         (try rw [show ((0 : Int)).toNat = 0 from rfl] at hx166_0)
         (try rw [show 0 * 4 = 0 from rfl] at hx166_0)
         (try rw [Addr.add_zero'] at hx166_0)
         (try rw [show ((0 : Int)).toNat = 0 from rfl] at hx166_1)
         (try rw [show 0 * 4 = 0 from rfl] at hx166_1)
         (try rw [Addr.add_zero'] at hx166_1)
         (try rw [show ((0 : Int)).toNat = 0 from rfl] at hx166_2)
         (try rw [show 0 * 4 = 0 from rfl] at hx166_2)
         (try rw [Addr.add_zero'] at hx166_2)
         (try rw [show ((0 : Int)).toNat = 0 from rfl] at hx166_3)
         (try rw [show 0 * 4 = 0 from rfl] at hx166_3)
         (try rw [Addr.add_zero'] at hx166_3)
         replace hx166_0 := (HB.out.cell (World.block_lt_of_cell? w _ hx166_0)).trans hx166_0
         replace hx166_1 := (HB.out.cell (World.block_lt_of_cell? w _ hx166_1)).trans hx166_1
         replace hx166_2 := (HB.out.cell (World.block_lt_of_cell? w _ hx166_2)).trans hx166_2
         replace hx166_3 := (HB.out.cell (World.block_lt_of_cell? w _ hx166_3)).trans hx166_3
         have HR166_2 := Aside0.mk hi166_2
         have HC166_2 := Aside0.mk hl166_2
         clear hi166_2 hl166_2
         have HR166_3 := Aside0.mk hi166_3
         have HC166_3 := Aside0.mk hl166_3
         clear hi166_3 hl166_3
         replace p166 := eq_true p166
         replace q166 := eq_true q166
         have p167 : 0 ≤ (x4_1 : Int) := of_decide_eq_true (by first | (with_reducible assumption) | assumption)
         have q167 : x4_1 < (l0_3.length : Int) := of_decide_eq_true (by first | (with_reducible assumption) | assumption)
         obtain ⟨ad167, e167, hx167_0, hx167_1, hx167_2⟩ := at_T63 HR166_3.out x4_1 p167 q167
         have hw167_2 := hx167_2
         have hw167_1 := hx167_1
         have hw167_0 := hx167_0
         cases e167
         replace hx167_0 := (HB.out.cell (World.block_lt_of_cell? w _ hx167_0)).trans hx167_0
         replace hx167_1 := (HB.out.cell (World.block_lt_of_cell? w _ hx167_1)).trans hx167_1
         replace hx167_2 := (HB.out.cell (World.block_lt_of_cell? w _ hx167_2)).trans hx167_2
         replace p167 := eq_true p167
         replace q167 := eq_true q167
         have p168 : 0 ≤ (0 : Int) := (by omega)
         have q168 : 0 < ([(⟨a0_0, a0_1, l0_2, l0_3⟩ : S31)].length : Int) := (by simp)
         obtain ⟨ad168, A168_2, c168_2, A168_3, c168_3, e168, hx168_0, hx168_1, hx168_2, hx168_3, hl168_2, hi168_2, hl168_3, hi168_3⟩ := at_T31 HRp0.out 0 p168 q168
         have hw168_3 := hx168_3
         (try rw [show ((0 : Int)).toNat = 0 from rfl] at hw168_3)
         (try rw [show 0 * 4 = 0 from rfl] at hw168_3)
         (try rw [Addr.add_zero'] at hw168_3)
         have hw168_2 := hx168_2
         (try rw [show ((0 : Int)).toNat = 0 from rfl] at hw168_2)
         (try rw [show 0 * 4 = 0 from rfl] at hw168_2)
         (try rw [Addr.add_zero'] at hw168_2)
         have hw168_1 := hx168_1
         (try rw [show ((0 : Int)).toNat = 0 from rfl] at hw168_1)
         (try rw [show 0 * 4 = 0 from rfl] at hw168_1)
         (try rw [Addr.add_zero'] at hw168_1)
         have hw168_0 := hx168_0
         (try rw [show ((0 : Int)).toNat = 0 from rfl] at hw168_0)
         (try rw [show 0 * 4 = 0 from rfl] at hw168_0)
         (try rw [Addr.add_zero'] at hw168_0)
         replace hx168_0 : _ = (some (.int .i64 a0_0) : Option Value) := hx168_0
         replace hx168_1 : _ = (some (.int .i64 a0_1) : Option Value) := hx168_1
         replace hx168_2 : _ = (some (.slice A168_2 l0_2.length c168_2) : Option Value) := hx168_2
         replace hi168_2 : Kd.C (Kd.int .i64) _ _ l0_2.length l0_2 := hi168_2
         replace hl168_2 : l0_2.length ≤ _ := hl168_2
         replace hx168_3 : _ = (some (.slice A168_3 l0_3.length c168_3) : Option Value) := hx168_3
         replace hi168_3 : Kd.C k63 _ _ l0_3.length l0_3 := hi168_3
         replace hl168_3 : l0_3.length ≤ _ := hl168_3
         obtain rfl : adp0 = ad168 := (by injection e168)
         have qi168 : (0 < [(⟨a0_0, a0_1, l0_2, l0_3⟩ : S31)].length) = True := eq_true (by simp)
         (try rw [show ((0 : Int)).toNat = 0 from rfl] at hx168_0)
         (try rw [show 0 * 4 = 0 from rfl] at hx168_0)
         (try rw [Addr.add_zero'] at hx168_0)
         (try rw [show ((0 : Int)).toNat = 0 from rfl] at hx168_1)
         (try rw [show 0 * 4 = 0 from rfl] at hx168_1)
         (try rw [Addr.add_zero'] at hx168_1)
         (try rw [show ((0 : Int)).toNat = 0 from rfl] at hx168_2)
         (try rw [show 0 * 4 = 0 from rfl] at hx168_2)
         (try rw [Addr.add_zero'] at hx168_2)
         (try rw [show ((0 : Int)).toNat = 0 from rfl] at hx168_3)
         (try rw [show 0 * 4 = 0 from rfl] at hx168_3)
         (try rw [Addr.add_zero'] at hx168_3)
         replace hx168_0 := (HB.out.cell (World.block_lt_of_cell? w _ hx168_0)).trans hx168_0
         replace hx168_1 := (HB.out.cell (World.block_lt_of_cell? w _ hx168_1)).trans hx168_1
         replace hx168_2 := (HB.out.cell (World.block_lt_of_cell? w _ hx168_2)).trans hx168_2
         replace hx168_3 := (HB.out.cell (World.block_lt_of_cell? w _ hx168_3)).trans hx168_3
         have HR168_2 := Aside0.mk hi168_2
         have HC168_2 := Aside0.mk hl168_2
         clear hi168_2 hl168_2
         have HR168_3 := Aside0.mk hi168_3
         have HC168_3 := Aside0.mk hl168_3
         clear hi168_3 hl168_3
         replace p168 := eq_true p168
         replace q168 := eq_true q168
         have ea_ := Option.some.inj (hx166_2.symm.trans hx168_2)
         injection ea_ with ea_ en_ ec_
         subst ea_
         subst ec_
         clear en_
         have ea_ := Option.some.inj (hx166_3.symm.trans hx168_3)
         injection ea_ with ea_ en_ ec_
         subst ea_
         subst ec_
         clear en_
         have p169 : 0 ≤ (x4_1 : Int) := of_decide_eq_true (by first | (with_reducible assumption) | assumption)
         have q169 : x4_1 < (l0_3.length : Int) := of_decide_eq_true (by first | (with_reducible assumption) | assumption)
         obtain ⟨ad169, e169, hx169_0, hx169_1, hx169_2⟩ := at_T63 HR168_3.out x4_1 p169 q169
         have hw169_2 := hx169_2
         have hw169_1 := hx169_1
         have hw169_0 := hx169_0
         cases e169
         replace hx169_0 := (HB.out.cell (World.block_lt_of_cell? w _ hx169_0)).trans hx169_0
         replace hx169_1 := (HB.out.cell (World.block_lt_of_cell? w _ hx169_1)).trans hx169_1
         replace hx169_2 := (HB.out.cell (World.block_lt_of_cell? w _ hx169_2)).trans hx169_2
         replace p169 := eq_true p169
         replace q169 := eq_true q169
         have p170 : 0 ≤ (0 : Int) := (by omega)
         have q170 : 0 < ([(⟨a0_0, a0_1, l0_2, l0_3⟩ : S31)].length : Int) := (by simp)
         obtain ⟨ad170, A170_2, c170_2, A170_3, c170_3, e170, hx170_0, hx170_1, hx170_2, hx170_3, hl170_2, hi170_2, hl170_3, hi170_3⟩ := at_T31 HRp0.out 0 p170 q170
         have hw170_3 := hx170_3
         (try rw [show ((0 : Int)).toNat = 0 from rfl] at hw170_3)
         (try rw [show 0 * 4 = 0 from rfl] at hw170_3)
         (try rw [Addr.add_zero'] at hw170_3)
         have hw170_2 := hx170_2
         (try rw [show ((0 : Int)).toNat = 0 from rfl] at hw170_2)
         (try rw [show 0 * 4 = 0 from rfl] at hw170_2)
         (try rw [Addr.add_zero'] at hw170_2)
         have hw170_1 := hx170_1
         (try rw [show ((0 : Int)).toNat = 0 from rfl] at hw170_1)
         (try rw [show 0 * 4 = 0 from rfl] at hw170_1)
         (try rw [Addr.add_zero'] at hw170_1)
         have hw170_0 := hx170_0
         (try rw [show ((0 : Int)).toNat = 0 from rfl] at hw170_0)
         (try rw [show 0 * 4 = 0 from rfl] at hw170_0)
         (try rw [Addr.add_zero'] at hw170_0)
         replace hx170_0 : _ = (some (.int .i64 a0_0) : Option Value) := hx170_0
         replace hx170_1 : _ = (some (.int .i64 a0_1) : Option Value) := hx170_1
         replace hx170_2 : _ = (some (.slice A170_2 l0_2.length c170_2) : Option Value) := hx170_2
         replace hi170_2 : Kd.C (Kd.int .i64) _ _ l0_2.length l0_2 := hi170_2
         replace hl170_2 : l0_2.length ≤ _ := hl170_2
         replace hx170_3 : _ = (some (.slice A170_3 l0_3.length c170_3) : Option Value) := hx170_3
         replace hi170_3 : Kd.C k63 _ _ l0_3.length l0_3 := hi170_3
         replace hl170_3 : l0_3.length ≤ _ := hl170_3
         obtain rfl : adp0 = ad170 := (by injection e170)
         have qi170 : (0 < [(⟨a0_0, a0_1, l0_2, l0_3⟩ : S31)].length) = True := eq_true (by simp)
         (try rw [show ((0 : Int)).toNat = 0 from rfl] at hx170_0)
         (try rw [show 0 * 4 = 0 from rfl] at hx170_0)
         (try rw [Addr.add_zero'] at hx170_0)
         (try rw [show ((0 : Int)).toNat = 0 from rfl] at hx170_1)
         (try rw [show 0 * 4 = 0 from rfl] at hx170_1)
         (try rw [Addr.add_zero'] at hx170_1)
         (try rw [show ((0 : Int)).toNat = 0 from rfl] at hx170_2)
         (try rw [show 0 * 4 = 0 from rfl] at hx170_2)
         (try rw [Addr.add_zero'] at hx170_2)
         (try rw [show ((0 : Int)).toNat = 0 from rfl] at hx170_3)
         (try rw [show 0 * 4 = 0 from rfl] at hx170_3)
         (try rw [Addr.add_zero'] at hx170_3)
         replace hx170_0 := (HB.out.cell (World.block_lt_of_cell? w _ hx170_0)).trans hx170_0
         replace hx170_1 := (HB.out.cell (World.block_lt_of_cell? w _ hx170_1)).trans hx170_1
         replace hx170_2 := (HB.out.cell (World.block_lt_of_cell? w _ hx170_2)).trans hx170_2
         replace hx170_3 := (HB.out.cell (World.block_lt_of_cell? w _ hx170_3)).trans hx170_3
         have HR170_2 := Aside0.mk hi170_2
         have HC170_2 := Aside0.mk hl170_2
         clear hi170_2 hl170_2
         have HR170_3 := Aside0.mk hi170_3
         have HC170_3 := Aside0.mk hl170_3
         clear hi170_3 hl170_3
         replace p170 := eq_true p170
         replace q170 := eq_true q170
         have ea_ := Option.some.inj (hx166_2.symm.trans hx170_2)
         injection ea_ with ea_ en_ ec_
         subst ea_
         subst ec_
         clear en_
         have ea_ := Option.some.inj (hx166_3.symm.trans hx170_3)
         injection ea_ with ea_ en_ ec_
         subst ea_
         subst ec_
         clear en_
         have p171 : 0 ≤ (x4_1 : Int) := of_decide_eq_true (by first | (with_reducible assumption) | assumption)
         have q171 : x4_1 < (l0_3.length : Int) := of_decide_eq_true (by first | (with_reducible assumption) | assumption)
         obtain ⟨ad171, e171, hx171_0, hx171_1, hx171_2⟩ := at_T63 HR170_3.out x4_1 p171 q171
         have hw171_2 := hx171_2
         have hw171_1 := hx171_1
         have hw171_0 := hx171_0
         cases e171
         replace hx171_0 := (HB.out.cell (World.block_lt_of_cell? w _ hx171_0)).trans hx171_0
         replace hx171_1 := (HB.out.cell (World.block_lt_of_cell? w _ hx171_1)).trans hx171_1
         replace hx171_2 := (HB.out.cell (World.block_lt_of_cell? w _ hx171_2)).trans hx171_2
         replace p171 := eq_true p171
         replace q171 := eq_true q171
         refine start_ (n := 30) (S := fun w' => w'.cell? adp0 = some (.int .i64 a0_0) ∧ w'.cell? ⟨adp0.block, adp0.off + 1, none⟩ = some (.int .i64 a0_1) ∧ w'.cell? ⟨adp0.block, adp0.off + 2, none⟩ = some (.slice A166_2 l0_2.length c166_2) ∧ w'.cell? ⟨adp0.block, adp0.off + 3, none⟩ = some (.slice (some ad167) l0_3.length c166_3) ∧ w'.cell? (ad167.add ((x4_1).toNat * 3)) = some (.int .i64 ((rd_T63 l0_3 x4_1).f0)) ∧ w'.cell? ⟨(ad167.add ((x4_1).toNat * 3)).block, (ad167.add ((x4_1).toNat * 3)).off + 1, none⟩ = some (.int .i64 ((rd_T63 l0_3 x4_1).f1)) ∧ w'.cell? ⟨(ad167.add ((x4_1).toNat * 3)).block, (ad167.add ((x4_1).toNat * 3)).off + 2, none⟩ = some (.int .i64 ((rd_T63 l0_3 x4_1).f2)) ∧ w'.cell? adp0 = some (.int .i64 a0_0) ∧ w'.cell? ⟨adp0.block, adp0.off + 1, none⟩ = some (.int .i64 a0_1) ∧ w'.cell? ⟨adp0.block, adp0.off + 2, none⟩ = some (.slice A166_2 l0_2.length c166_2) ∧ w'.cell? ⟨adp0.block, adp0.off + 3, none⟩ = some (.slice (some ad167) l0_3.length c166_3) ∧ w'.cell? (ad167.add ((x4_1).toNat * 3)) = some (.int .i64 ((rd_T63 l0_3 x4_1).f0)) ∧ w'.cell? ⟨(ad167.add ((x4_1).toNat * 3)).block, (ad167.add ((x4_1).toNat * 3)).off + 1, none⟩ = some (.int .i64 ((rd_T63 l0_3 x4_1).f1)) ∧ w'.cell? ⟨(ad167.add ((x4_1).toNat * 3)).block, (ad167.add ((x4_1).toNat * 3)).off + 2, none⟩ = some (.int .i64 ((rd_T63 l0_3 x4_1).f2)) ∧ w'.cell? adp0 = some (.int .i64 a0_0) ∧ w'.cell? ⟨adp0.block, adp0.off + 1, none⟩ = some (.int .i64 a0_1) ∧ w'.cell? ⟨adp0.block, adp0.off + 2, none⟩ = some (.slice A166_2 l0_2.length c166_2) ∧ w'.cell? ⟨adp0.block, adp0.off + 3, none⟩ = some (.slice (some ad167) l0_3.length c166_3) ∧ w'.cell? (ad167.add ((x4_1).toNat * 3)) = some (.int .i64 ((rd_T63 l0_3 x4_1).f0)) ∧ w'.cell? ⟨(ad167.add ((x4_1).toNat * 3)).block, (ad167.add ((x4_1).toNat * 3)).off + 1, none⟩ = some (.int .i64 ((rd_T63 l0_3 x4_1).f1)) ∧ w'.cell? ⟨(ad167.add ((x4_1).toNat * 3)).block, (ad167.add ((x4_1).toNat * 3)).off + 2, none⟩ = some (.int .i64 ((rd_T63 l0_3 x4_1).f2))) (ds := []) #[F,F,F,F,F,F,F,F,F,F,F,F,F,F,F,F,F,F,F,F,F,F,F,F,F,F,F,F,F,F] (by kernel_rfl) rfl rfl ⟨((HB.out.cell (World.block_lt_of_cell? w _ hw166_0)).trans hw166_0), ((HB.out.cell (World.block_lt_of_cell? w _ hw166_1)).trans hw166_1), ((HB.out.cell (World.block_lt_of_cell? w _ hw166_2)).trans hw166_2), ((HB.out.cell (World.block_lt_of_cell? w _ hw166_3)).trans hw166_3), ((HB.out.cell (World.block_lt_of_cell? w _ hw167_0)).trans hw167_0), ((HB.out.cell (World.block_lt_of_cell? w _ hw167_1)).trans hw167_1), ((HB.out.cell (World.block_lt_of_cell? w _ hw167_2)).trans hw167_2), ((HB.out.cell (World.block_lt_of_cell? w _ hw168_0)).trans hw168_0), ((HB.out.cell (World.block_lt_of_cell? w _ hw168_1)).trans hw168_1), ((HB.out.cell (World.block_lt_of_cell? w _ hw168_2)).trans hw168_2), ((HB.out.cell (World.block_lt_of_cell? w _ hw168_3)).trans hw168_3), ((HB.out.cell (World.block_lt_of_cell? w _ hw169_0)).trans hw169_0), ((HB.out.cell (World.block_lt_of_cell? w _ hw169_1)).trans hw169_1), ((HB.out.cell (World.block_lt_of_cell? w _ hw169_2)).trans hw169_2), ((HB.out.cell (World.block_lt_of_cell? w _ hw170_0)).trans hw170_0), ((HB.out.cell (World.block_lt_of_cell? w _ hw170_1)).trans hw170_1), ((HB.out.cell (World.block_lt_of_cell? w _ hw170_2)).trans hw170_2), ((HB.out.cell (World.block_lt_of_cell? w _ hw170_3)).trans hw170_3), ((HB.out.cell (World.block_lt_of_cell? w _ hw171_0)).trans hw171_0), ((HB.out.cell (World.block_lt_of_cell? w _ hw171_1)).trans hw171_1), ((HB.out.cell (World.block_lt_of_cell? w _ hw171_2)).trans hw171_2)⟩ (fun hHeld => ?_); refine with_tabW spec_l07Text.tab5 spec_l07Text.bits5 (fun HT_ HW_ => ?_)
         generalize wr.drew = w17 at HB HR166_2 HR166_3 HR168_2 HR168_3 HR170_2 HR170_3 hx166_0 hx166_1 hx166_2 hx166_3 hx167_0 hx167_1 hx167_2 hx168_0 hx168_1 hx168_2 hx168_3 hx169_0 hx169_1 hx169_2 hx170_0 hx170_1 hx170_2 hx170_3 hx171_0 hx171_1 hx171_2 hHeld ⊢
         refine pure_ (i := 0) (N := some 31) (v := ?_) (a' := ?_) #[T,F,F,F,F,F,F,F,F,F,F,F,F,F,F,F,F,F,F,F,F,F,F,F,F,F,F,F,F,F] rfl rfl (aO HT_.out (by kernel_rfl)) (fun _ _ _ h => h) (Or.inl ⟨by rfl, ?_⟩) ?_ ?_; rotate_left; (·intro w'; go_simp; with_reducible rfl); rotate_left; (·simp only [Act.put, sI, sZ, sS, iW, jW]; rfl)
         refine pure_ (i := 1) (N := some 32) (v := ?_) (a' := ?_) #[T,T,F,F,F,F,F,F,F,F,F,F,F,F,F,F,F,F,F,F,F,F,F,F,F,F,F,F,F,F] rfl rfl (aO HT_.out (by kernel_rfl)) (fun _ _ _ h => h) (Or.inl ⟨by rfl, ?_⟩) ?_ ?_; rotate_left; (·intro w'; go_simp; with_reducible rfl); rotate_left; (·simp only [Act.put, sI, sZ, sS, iW, jW]; rfl)
         refine pure_ (i := 2) (N := some 33) (v := ?_) (a' := ?_) #[T,T,T,F,F,F,F,F,F,F,F,F,F,F,F,F,F,F,F,F,F,F,F,F,F,F,F,F,F,F] rfl rfl (aO HT_.out (by kernel_rfl)) (fun _ _ _ h => h) (Or.inl ⟨by rfl, ?_⟩) ?_ ?_; rotate_left; (·intro w'; go_simp; with_reducible rfl); rotate_left; (·simp only [Act.put, sI, sZ, sS, iW, jW]; rfl)
         refine pure_ (i := 3) (N := some 34) (v := ?_) (a' := ?_) #[T,T,T,T,F,F,F,F,F,F,F,F,F,F,F,F,F,F,F,F,F,F,F,F,F,F,F,F,F,F] rfl rfl (aO HT_.out (by kernel_rfl)) (fun _ _ _ h => h) (Or.inl ⟨by rfl, ?_⟩) ?_ ?_; rotate_left; (·intro w'; go_simp; with_reducible rfl); rotate_left; (·simp only [Act.put, sI, sZ, sS, iW, jW]; rfl)
         refine pure_ (i := 5) (N := some 36) (v := ?_) (a' := ?_) #[T,T,T,T,F,T,F,F,F,F,F,F,F,F,F,F,F,F,F,F,F,F,F,F,F,F,F,F,F,F] rfl rfl (aO HT_.out (by kernel_rfl)) (fun _ _ _ h => h) (Or.inl ⟨by rfl, ?_⟩) ?_ ?_; rotate_left; (·intro w'; go_simp; with_reducible rfl); rotate_left; (·simp only [Act.put, sI, sZ, sS, iW, jW]; rfl)
         refine pure_ (i := 9) (N := some 40) (v := ?_) (a' := ?_) #[T,T,T,T,F,T,F,F,F,T,F,F,F,F,F,F,F,F,F,F,F,F,F,F,F,F,F,F,F,F] rfl rfl (aO HT_.out (by kernel_rfl)) (fun _ _ _ h => h) (Or.inl ⟨by rfl, ?_⟩) ?_ ?_; rotate_left; (·intro w'; go_simp; with_reducible rfl); rotate_left; (·simp only [Act.put, sI, sZ, sS, iW, jW]; rfl)
         refine pure_ (i := 10) (N := some 41) (v := ?_) (a' := ?_) #[T,T,T,T,F,T,F,F,F,T,T,F,F,F,F,F,F,F,F,F,F,F,F,F,F,F,F,F,F,F] rfl rfl (aO HT_.out (by kernel_rfl)) (fun _ _ _ h => h) (Or.inl ⟨by rfl, ?_⟩) ?_ ?_; rotate_left; (·intro w'; go_simp; with_reducible rfl); rotate_left; (·simp only [Act.put, sI, sZ, sS, iW, jW]; rfl)
         refine pure_ (i := 11) (N := some 42) (v := ?_) (a' := ?_) #[T,T,T,T,F,T,F,F,F,T,T,T,F,F,F,F,F,F,F,F,F,F,F,F,F,F,F,F,F,F] rfl rfl (aO HT_.out (by kernel_rfl)) (fun _ _ _ h => h) (Or.inl ⟨by rfl, ?_⟩) ?_ ?_; rotate_left; (·intro w'; go_simp; with_reducible rfl); rotate_left; (·simp only [Act.put, sI, sZ, sS, iW, jW]; rfl)
         refine pure_ (i := 13) (N := some 44) (v := ?_) (a' := ?_) #[T,T,T,T,F,T,F,F,F,T,T,T,F,T,F,F,F,F,F,F,F,F,F,F,F,F,F,F,F,F] rfl rfl (aO HT_.out (by kernel_rfl)) (fun _ _ _ h => h) (Or.inl ⟨by rfl, ?_⟩) ?_ ?_; rotate_left; (·intro w'; go_simp; with_reducible rfl); rotate_left; (·simp only [Act.put, sI, sZ, sS, iW, jW]; rfl)
         refine pure_ (i := 17) (N := some 48) (v := ?_) (a' := ?_) #[T,T,T,T,F,T,F,F,F,T,T,T,F,T,F,F,F,T,F,F,F,F,F,F,F,F,F,F,F,F] rfl rfl (aO HT_.out (by kernel_rfl)) (fun _ _ _ h => h) (Or.inl ⟨by rfl, ?_⟩) ?_ ?_; rotate_left; (·intro w'; go_simp; with_reducible rfl); rotate_left; (·simp only [Act.put, sI, sZ, sS, iW, jW]; rfl)
         refine pure_ (i := 18) (N := some 49) (v := ?_) (a' := ?_) #[T,T,T,T,F,T,F,F,F,T,T,T,F,T,F,F,F,T,T,F,F,F,F,F,F,F,F,F,F,F] rfl rfl (aO HT_.out (by kernel_rfl)) (fun _ _ _ h => h) (Or.inl ⟨by rfl, ?_⟩) ?_ ?_; rotate_left; (·intro w'; go_simp; with_reducible rfl); rotate_left; (·simp only [Act.put, sI, sZ, sS, iW, jW]; rfl)
         refine pure_ (i := 19) (N := some 50) (v := ?_) (a' := ?_) #[T,T,T,T,F,T,F,F,F,T,T,T,F,T,F,F,F,T,T,T,F,F,F,F,F,F,F,F,F,F] rfl rfl (aO HT_.out (by kernel_rfl)) (fun _ _ _ h => h) (Or.inl ⟨by rfl, ?_⟩) ?_ ?_; rotate_left; (·intro w'; go_simp; with_reducible rfl); rotate_left; (·simp only [Act.put, sI, sZ, sS, iW, jW]; rfl)
         refine pure_ (i := 21) (N := some 52) (v := ?_) (a' := ?_) #[T,T,T,T,F,T,F,F,F,T,T,T,F,T,F,F,F,T,T,T,F,T,F,F,F,F,F,F,F,F] rfl rfl (aO HT_.out (by kernel_rfl)) (fun _ _ _ h => h) (Or.inl ⟨by rfl, ?_⟩) ?_ ?_; rotate_left; (·intro w'; go_simp; with_reducible rfl); rotate_left; (·simp only [Act.put, sI, sZ, sS, iW, jW]; rfl)
         refine take_ (i := 4) (N := some 35) (v := ?_) (a' := ?_) #[T,T,T,T,T,T,F,F,F,T,T,T,F,T,F,F,F,T,T,T,F,T,F,F,F,F,F,F,F,F] rfl rfl (tW HT_.out HW_.out (by kernel_rfl)) (fun _ _ _ h => h) (Or.inl ⟨by rfl, ?_⟩) hHeld ?_ ?_; rotate_left; (·rintro w' ⟨s0, s1, s2, s3, s4, s5, s6, s7, s8, s9, s10, s11, s12, s13, s14, s15, s16, s17, s18, s19, s20⟩; go_simp; with_reducible rfl); rotate_left; (·simp only [Act.put, sI, sZ, sS, iW, jW]; rfl)
         refine pure_ (i := 6) (N := some 37) (v := ?_) (a' := ?_) #[T,T,T,T,T,T,T,F,F,T,T,T,F,T,F,F,F,T,T,T,F,T,F,F,F,F,F,F,F,F] rfl rfl (aO HT_.out (by kernel_rfl)) (fun _ _ _ h => h) (Or.inl ⟨by rfl, ?_⟩) ?_ ?_; rotate_left; (·intro w'; go_simp; with_reducible rfl); rotate_left; (·simp only [Act.put, sI, sZ, sS, iW, jW]; rfl)
         refine pure_ (i := 7) (N := some 38) (v := ?_) (a' := ?_) #[T,T,T,T,T,T,T,T,F,T,T,T,F,T,F,F,F,T,T,T,F,T,F,F,F,F,F,F,F,F] rfl rfl (aO HT_.out (by kernel_rfl)) (fun _ _ _ h => h) (Or.inl ⟨by rfl, ?_⟩) ?_ ?_; rotate_left; (·intro w'; go_simp; with_reducible rfl); rotate_left; (·simp only [Act.put, sI, sZ, sS, iW, jW]; rfl)
         refine take_ (i := 8) (N := some 39) (v := ?_) (a' := ?_) #[T,T,T,T,T,T,T,T,T,T,T,T,F,T,F,F,F,T,T,T,F,T,F,F,F,F,F,F,F,F] rfl rfl (tW HT_.out HW_.out (by kernel_rfl)) (fun _ _ _ h => h) (Or.inl ⟨by rfl, ?_⟩) hHeld ?_ ?_; rotate_left; (·rintro w' ⟨s0, s1, s2, s3, s4, s5, s6, s7, s8, s9, s10, s11, s12, s13, s14, s15, s16, s17, s18, s19, s20⟩; go_simp; with_reducible rfl); rotate_left; (·simp only [Act.put, sI, sZ, sS, iW, jW]; rfl)
         refine take_ (i := 12) (N := some 43) (v := ?_) (a' := ?_) #[T,T,T,T,T,T,T,T,T,T,T,T,T,T,F,F,F,T,T,T,F,T,F,F,F,F,F,F,F,F] rfl rfl (tW HT_.out HW_.out (by kernel_rfl)) (fun _ _ _ h => h) (Or.inl ⟨by rfl, ?_⟩) hHeld ?_ ?_; rotate_left; (·rintro w' ⟨s0, s1, s2, s3, s4, s5, s6, s7, s8, s9, s10, s11, s12, s13, s14, s15, s16, s17, s18, s19, s20⟩; go_simp; with_reducible rfl); rotate_left; (·simp only [Act.put, sI, sZ, sS, iW, jW]; rfl)
         refine pure_ (i := 14) (N := some 45) (v := ?_) (a' := ?_) #[T,T,T,T,T,T,T,T,T,T,T,T,T,T,T,F,F,T,T,T,F,T,F,F,F,F,F,F,F,F] rfl rfl (aO HT_.out (by kernel_rfl)) (fun _ _ _ h => h) (Or.inl ⟨by rfl, ?_⟩) ?_ ?_; rotate_left; (·intro w'; go_simp; with_reducible rfl); rotate_left; (·simp only [Act.put, sI, sZ, sS, iW, jW]; rfl)
         refine pure_ (i := 15) (N := some 46) (v := ?_) (a' := ?_) #[T,T,T,T,T,T,T,T,T,T,T,T,T,T,T,T,F,T,T,T,F,T,F,F,F,F,F,F,F,F] rfl rfl (aO HT_.out (by kernel_rfl)) (fun _ _ _ h => h) (Or.inl ⟨by rfl, ?_⟩) ?_ ?_; rotate_left; (·intro w'; go_simp; with_reducible rfl); rotate_left; (·simp only [Act.put, sI, sZ, sS, iW, jW]; rfl)
         refine take_ (i := 16) (N := some 47) (v := ?_) (a' := ?_) #[T,T,T,T,T,T,T,T,T,T,T,T,T,T,T,T,T,T,T,T,F,T,F,F,F,F,F,F,F,F] rfl rfl (tW HT_.out HW_.out (by kernel_rfl)) (fun _ _ _ h => h) (Or.inl ⟨by rfl, ?_⟩) hHeld ?_ ?_; rotate_left; (·rintro w' ⟨s0, s1, s2, s3, s4, s5, s6, s7, s8, s9, s10, s11, s12, s13, s14, s15, s16, s17, s18, s19, s20⟩; go_simp; with_reducible rfl); rotate_left; (·simp only [Act.put, sI, sZ, sS, iW, jW]; rfl)
         refine take_ (i := 20) (N := some 51) (v := ?_) (a' := ?_) #[T,T,T,T,T,T,T,T,T,T,T,T,T,T,T,T,T,T,T,T,T,T,F,F,F,F,F,F,F,F] rfl rfl (tW HT_.out HW_.out (by kernel_rfl)) (fun _ _ _ h => h) (Or.inl ⟨by rfl, ?_⟩) hHeld ?_ ?_; rotate_left; (·rintro w' ⟨s0, s1, s2, s3, s4, s5, s6, s7, s8, s9, s10, s11, s12, s13, s14, s15, s16, s17, s18, s19, s20⟩; go_simp; with_reducible rfl); rotate_left; (·simp only [Act.put, sI, sZ, sS, iW, jW]; rfl)
         refine pure_ (i := 22) (N := some 53) (v := ?_) (a' := ?_) #[T,T,T,T,T,T,T,T,T,T,T,T,T,T,T,T,T,T,T,T,T,T,T,F,F,F,F,F,F,F] rfl rfl (aO HT_.out (by kernel_rfl)) (fun _ _ _ h => h) (Or.inl ⟨by rfl, ?_⟩) ?_ ?_; rotate_left; (·intro w'; go_simp; with_reducible rfl); rotate_left; (·simp only [Act.put, sI, sZ, sS, iW, jW]; rfl)
         refine pure_ (i := 23) (N := some 54) (v := ?_) (a' := ?_) #[T,T,T,T,T,T,T,T,T,T,T,T,T,T,T,T,T,T,T,T,T,T,T,T,F,F,F,F,F,F] rfl rfl (aO HT_.out (by kernel_rfl)) (fun _ _ _ h => h) (Or.inl ⟨by rfl, ?_⟩) ?_ ?_; rotate_left; (·intro w'; go_simp; with_reducible rfl); rotate_left; (·simp only [Act.put, sI, sZ, sS, iW, jW]; rfl)
         refine take_ (i := 24) (N := some 55) (v := ?_) (a' := ?_) #[T,T,T,T,T,T,T,T,T,T,T,T,T,T,T,T,T,T,T,T,T,T,T,T,T,F,F,F,F,F] rfl rfl (tW HT_.out HW_.out (by kernel_rfl)) (fun _ _ _ h => h) (Or.inl ⟨by rfl, ?_⟩) hHeld ?_ ?_; rotate_left; (·rintro w' ⟨s0, s1, s2, s3, s4, s5, s6, s7, s8, s9, s10, s11, s12, s13, s14, s15, s16, s17, s18, s19, s20⟩; go_simp; with_reducible rfl); rotate_left; (·simp only [Act.put, sI, sZ, sS, iW, jW]; rfl)
         refine one_ (i := 25) (N := some 56) #[T,T,T,T,T,T,T,T,T,T,T,T,T,T,T,T,T,T,T,T,T,T,T,T,T,T,F,F,F,F] rfl rfl (oO HT_.out (by kernel_rfl)) (by decide) (fun K hK => ?_)
         refine Kd.R_lit_step (Kd.int .i64) _ 2 ?hg (N := 56) ?hd (xs := ([(rd_T63 l0_3 x4_1).f0, (rd_T63 l0_3 x4_1).f1, (rd_T63 l0_3 x4_1).f2] : List Int)) (inner := [.int .i64 ((rd_T63 l0_3 x4_1).f0), .int .i64 ((rd_T63 l0_3 x4_1).f1), .int .i64 ((rd_T63 l0_3 x4_1).f2)]) (ok := fun _ => True) (okp := fun _ => True) ?hr ?hp (fun _ hk => hk) trivial (Below.refl _ _) (Nat.le_refl _) (by simp) ?_; (case hd => rfl); (case hg => rfl); (case hr => first | (go_simp; done) | (go_simp; rfl)); (case hp => exact (Reps.one (show Kd.M (Kd.int .i64) _ _ _ ((rd_T63 l0_3 x4_1).f0) [.int .i64 ((rd_T63 l0_3 x4_1).f0)] from rfl) (Reps.one (show Kd.M (Kd.int .i64) _ _ _ ((rd_T63 l0_3 x4_1).f1) [.int .i64 ((rd_T63 l0_3 x4_1).f1)] from rfl) (Reps.one (show Kd.M (Kd.int .i64) _ _ _ ((rd_T63 l0_3 x4_1).f2) [.int .i64 ((rd_T63 l0_3 x4_1).f2)] from rfl) (Reps.none _ _)))))
         intro v173 w18 ho19 hb hg_ hnew_
         clear hg_ hnew_
         (first | rw [← Ny172.out] at ho19 | (simp only [Int.reduceToNat] at ho19; rw [← Ny172.out] at ho19))
         have n0_ := Aside0.mk (rL ho19 (bZ (by repeat (first | (with_reducible first | exact HB.out | apply bA | apply bN | apply bD) | exact HB.out))))
         have n1_ := Aside0.mk (bP (by repeat (first | (with_reducible first | exact HB.out | apply bA | apply bN | apply bD) | exact HB.out)) hb)
         clear HB
         have HO174 := n0_
         have HB := n1_
         clear n0_ n1_
         clear hb ho19
         obtain ⟨Ao20, co20, eo20⟩ := Kd.R_slice HO174.out
         (first | subst eo20 | (injection eo20 with f1_ f2_ f3_; have f4_ := f1_.symm; have f5_ := f3_.symm; clear f1_ f2_ f3_; subst f4_; subst f5_))
         refine hK.out _ _ ⟨((HB.out.cell (World.block_lt_of_cell? w _ hw166_0)).trans hw166_0), ((HB.out.cell (World.block_lt_of_cell? w _ hw166_1)).trans hw166_1), ((HB.out.cell (World.block_lt_of_cell? w _ hw166_2)).trans hw166_2), ((HB.out.cell (World.block_lt_of_cell? w _ hw166_3)).trans hw166_3), ((HB.out.cell (World.block_lt_of_cell? w _ hw167_0)).trans hw167_0), ((HB.out.cell (World.block_lt_of_cell? w _ hw167_1)).trans hw167_1), ((HB.out.cell (World.block_lt_of_cell? w _ hw167_2)).trans hw167_2), ((HB.out.cell (World.block_lt_of_cell? w _ hw168_0)).trans hw168_0), ((HB.out.cell (World.block_lt_of_cell? w _ hw168_1)).trans hw168_1), ((HB.out.cell (World.block_lt_of_cell? w _ hw168_2)).trans hw168_2), ((HB.out.cell (World.block_lt_of_cell? w _ hw168_3)).trans hw168_3), ((HB.out.cell (World.block_lt_of_cell? w _ hw169_0)).trans hw169_0), ((HB.out.cell (World.block_lt_of_cell? w _ hw169_1)).trans hw169_1), ((HB.out.cell (World.block_lt_of_cell? w _ hw169_2)).trans hw169_2), ((HB.out.cell (World.block_lt_of_cell? w _ hw170_0)).trans hw170_0), ((HB.out.cell (World.block_lt_of_cell? w _ hw170_1)).trans hw170_1), ((HB.out.cell (World.block_lt_of_cell? w _ hw170_2)).trans hw170_2), ((HB.out.cell (World.block_lt_of_cell? w _ hw170_3)).trans hw170_3), ((HB.out.cell (World.block_lt_of_cell? w _ hw171_0)).trans hw171_0), ((HB.out.cell (World.block_lt_of_cell? w _ hw171_1)).trans hw171_1), ((HB.out.cell (World.block_lt_of_cell? w _ hw171_2)).trans hw171_2)⟩ (fun hHeld => ?_)
         clear hK K
         refine norm_ (a' := ?_) ?_ ?_
         rotate_left
         ·show Act.put _ (some 56) _ = _
          simp only [Act.put, sI, sZ, sS, iW, jW]
          rfl
         refine one_ (i := 26) (N := some 57) #[T,T,T,T,T,T,T,T,T,T,T,T,T,T,T,T,T,T,T,T,T,T,T,T,T,T,T,F,F,F] rfl rfl (oO HT_.out (by kernel_rfl)) (by decide) (fun K hK => ?_)
         refine goes_ Tryd.func70 (by kernel_rfl) rfl #[.slice Ao20 y172.length co20] (by rfl) rfl rfl (by (try simp only [List.map_toArray, List.map_cons, List.map_nil]); first | done | rfl | (simp only [List.length_drop, List.length_take]; rfl)) ?_
         with_reducible refine (spec_l01List.calls k1 _ _ y172 t175 _ ?side1 ?side2 A14.out).mono ?_
         (case side1 => repeat (first | exact (Kd.R_reads' HO174.out).2.2 | (with_reducible refine cA ?_ _) | (with_reducible refine cN ?_ _) | (with_reducible refine cD ?_)))
         (case side2 => exact (Kd.R_reads' HO174.out).2.1)
         rintro e w21 ⟨rfl, hb⟩
         refine ⟨_, rfl, ?_⟩
         have n0_ := Aside0.mk (rB (by (with_reducible repeat (first | apply rA | apply rN | apply rD)); exact HO174.out) hb)
         have n1_ := Aside0.mk (bP (by repeat (first | (with_reducible first | exact HB.out | apply bA | apply bN | apply bD) | exact HB.out)) hb)
         clear HO174
         clear HB
         have HO174 := n0_
         have HB := n1_
         clear n0_ n1_
         (try clear hb)
         (try clear hb2)
         (try clear hk)
         (try clear hi)
         refine hK.out _ _ ⟨((HB.out.cell (World.block_lt_of_cell? w _ hw166_0)).trans hw166_0), ((HB.out.cell (World.block_lt_of_cell? w _ hw166_1)).trans hw166_1), ((HB.out.cell (World.block_lt_of_cell? w _ hw166_2)).trans hw166_2), ((HB.out.cell (World.block_lt_of_cell? w _ hw166_3)).trans hw166_3), ((HB.out.cell (World.block_lt_of_cell? w _ hw167_0)).trans hw167_0), ((HB.out.cell (World.block_lt_of_cell? w _ hw167_1)).trans hw167_1), ((HB.out.cell (World.block_lt_of_cell? w _ hw167_2)).trans hw167_2), ((HB.out.cell (World.block_lt_of_cell? w _ hw168_0)).trans hw168_0), ((HB.out.cell (World.block_lt_of_cell? w _ hw168_1)).trans hw168_1), ((HB.out.cell (World.block_lt_of_cell? w _ hw168_2)).trans hw168_2), ((HB.out.cell (World.block_lt_of_cell? w _ hw168_3)).trans hw168_3), ((HB.out.cell (World.block_lt_of_cell? w _ hw169_0)).trans hw169_0), ((HB.out.cell (World.block_lt_of_cell? w _ hw169_1)).trans hw169_1), ((HB.out.cell (World.block_lt_of_cell? w _ hw169_2)).trans hw169_2), ((HB.out.cell (World.block_lt_of_cell? w _ hw170_0)).trans hw170_0), ((HB.out.cell (World.block_lt_of_cell? w _ hw170_1)).trans hw170_1), ((HB.out.cell (World.block_lt_of_cell? w _ hw170_2)).trans hw170_2), ((HB.out.cell (World.block_lt_of_cell? w _ hw170_3)).trans hw170_3), ((HB.out.cell (World.block_lt_of_cell? w _ hw171_0)).trans hw171_0), ((HB.out.cell (World.block_lt_of_cell? w _ hw171_1)).trans hw171_1), ((HB.out.cell (World.block_lt_of_cell? w _ hw171_2)).trans hw171_2)⟩ (fun hHeld => ?_)
         clear hK K
         refine norm_ (a' := ?_) ?_ ?_
         rotate_left
         ·show Act.put _ (some 57) _ = _
          simp only [Act.put, sI, sZ, sS, iW, jW]
          rfl
         refine pure_ (i := 27) (N := some 58) (v := ?_) (a' := ?_) #[T,T,T,T,T,T,T,T,T,T,T,T,T,T,T,T,T,T,T,T,T,T,T,T,T,T,T,T,F,F] rfl rfl (aO HT_.out (by kernel_rfl)) (fun _ _ _ h => h) (Or.inl ⟨by rfl, ?_⟩) ?_ ?_; rotate_left; (·intro w'; go_simp; with_reducible rfl); rotate_left; (·simp only [Act.put, sI, sZ, sS, iW, jW]; rfl)
         refine pure_ (i := 28) (N := some 59) (v := ?_) (a' := ?_) #[T,T,T,T,T,T,T,T,T,T,T,T,T,T,T,T,T,T,T,T,T,T,T,T,T,T,T,T,T,F] rfl rfl (aO HT_.out (by kernel_rfl)) (fun _ _ _ h => h) (Or.inl ⟨by rfl, ?_⟩) ?_ ?_; rotate_left; (·intro w'; go_simp; with_reducible rfl); rotate_left; (·simp only [Act.put, sI, sZ, sS, iW, jW]; rfl)
         refine pure_ (i := 29) (N := some 3) (v := ?_) (a' := ?_) #[T,T,T,T,T,T,T,T,T,T,T,T,T,T,T,T,T,T,T,T,T,T,T,T,T,T,T,T,T,T] rfl rfl (aO HT_.out (by kernel_rfl)) (fun _ _ _ h => h) (Or.inl ⟨by rfl, ?_⟩) ?_ ?_; rotate_left; (·intro w'; go_simp; with_reducible rfl); rotate_left; (·simp only [Act.put, sI, sZ, sS, iW, jW]; rfl)
         refine done_ (done_of HT_.out (by kernel_rfl)) ?_
         try go_wp2
         go_roundg k1
         case measure => have := HK1.out; omega
         case rel => exact ⟨(x3_1 ++ ((⟨#[59]⟩ : ByteArray) ++ t175)), (wrap64 (x4_1 + 1)), (by first | rfl | (simp; done) | (simp [*]; done)), (by first | rfl | (simp; done) | (simp [*]; done)), H', ⟨by have := HK1.out; omega⟩, ⟨by repeat (first | (with_reducible first | exact HB.out | apply bA | apply bN | apply bD) | exact HB.out)⟩⟩
        ·rw [if_neg c16] at H
         exact absurd H (by simp)
       ·rw [if_neg c15] at H
        exact absurd H (by simp)
      ·rw [if_neg c13] at H
       exact absurd H (by simp)
     ·rw [if_neg c12] at H
      have c12b0 : decide (x4_1 < (l0_3.length : Int)) = false := decide_eq_false c12
      clear c12
      obtain rfl := Option.some.inj H
      have p165 : 0 ≤ (0 : Int) := (by omega)
      have q165 : 0 < ([(⟨a0_0, a0_1, l0_2, l0_3⟩ : S31)].length : Int) := (by simp)
      obtain ⟨ad165, A165_2, c165_2, A165_3, c165_3, e165, hx165_0, hx165_1, hx165_2, hx165_3, hl165_2, hi165_2, hl165_3, hi165_3⟩ := at_T31 HRp0.out 0 p165 q165
      replace hx165_0 : _ = (some (.int .i64 a0_0) : Option Value) := hx165_0
      replace hx165_1 : _ = (some (.int .i64 a0_1) : Option Value) := hx165_1
      replace hx165_2 : _ = (some (.slice A165_2 l0_2.length c165_2) : Option Value) := hx165_2
      replace hi165_2 : Kd.C (Kd.int .i64) _ _ l0_2.length l0_2 := hi165_2
      replace hl165_2 : l0_2.length ≤ _ := hl165_2
      replace hx165_3 : _ = (some (.slice A165_3 l0_3.length c165_3) : Option Value) := hx165_3
      replace hi165_3 : Kd.C k63 _ _ l0_3.length l0_3 := hi165_3
      replace hl165_3 : l0_3.length ≤ _ := hl165_3
      obtain rfl : adp0 = ad165 := (by injection e165)
      have qi165 : (0 < [(⟨a0_0, a0_1, l0_2, l0_3⟩ : S31)].length) = True := eq_true (by simp)
      (try rw [show ((0 : Int)).toNat = 0 from rfl] at hx165_0)
      (try rw [show 0 * 4 = 0 from rfl] at hx165_0)
      (try rw [Addr.add_zero'] at hx165_0)
      (try rw [show ((0 : Int)).toNat = 0 from rfl] at hx165_1)
      (try rw [show 0 * 4 = 0 from rfl] at hx165_1)
      (try rw [Addr.add_zero'] at hx165_1)
      (try rw [show ((0 : Int)).toNat = 0 from rfl] at hx165_2)
      (try rw [show 0 * 4 = 0 from rfl] at hx165_2)
      (try rw [Addr.add_zero'] at hx165_2)
      (try rw [show ((0 : Int)).toNat = 0 from rfl] at hx165_3)
      (try rw [show 0 * 4 = 0 from rfl] at hx165_3)
      (try rw [Addr.add_zero'] at hx165_3)
      replace hx165_0 := (HB.out.cell (World.block_lt_of_cell? w _ hx165_0)).trans hx165_0
      replace hx165_1 := (HB.out.cell (World.block_lt_of_cell? w _ hx165_1)).trans hx165_1
      replace hx165_2 := (HB.out.cell (World.block_lt_of_cell? w _ hx165_2)).trans hx165_2
      replace hx165_3 := (HB.out.cell (World.block_lt_of_cell? w _ hx165_3)).trans hx165_3
      have HR165_2 := Aside0.mk hi165_2
      have HC165_2 := Aside0.mk hl165_2
      clear hi165_2 hl165_2
      have HR165_3 := Aside0.mk hi165_3
      have HC165_3 := Aside0.mk hl165_3
      clear hi165_3 hl165_3
      replace p165 := eq_true p165
      replace q165 := eq_true q165
      go_wp2
      go_ret
      exact ⟨by first | rfl | (simp [errW_none, errW_some] <;> rfl) | (simp [*, errW_none, errW_some] <;> rfl), by repeat (first | (with_reducible first | exact HB.out | apply bA | apply bN | apply bD) | exact HB.out)⟩
  ·rw [if_neg c5] at H
   exact absurd H (by simp)
 ·rw [if_neg c3] at H
  exact absurd H (by simp)

end Go.Proofs.YtlmeijlandogaaaDoor.I
-- shrunk
-- tight
