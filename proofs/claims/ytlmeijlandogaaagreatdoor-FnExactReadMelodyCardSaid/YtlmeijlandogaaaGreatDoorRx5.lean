/- What functions of the given program compute, as plain Lean functions, and that the code comes to just that; by a program of this session over the kit's print. No condition. -/
import Derived.Test.YtlmeijlandogaaaGreatDoorRx0
import Derived.Test.YtlmeijlandogaaaGreatDoorRx1
import Derived.Test.YtlmeijlandogaaaGreatDoorRx3
import Derived.Test.YtlmeijlandogaaaGreatDoorRx4
namespace Go.Proofs.YtlmeijlandogaaaGreatDoor.R
open Go.RowKit Go.Proofs.YtlmeijlandogaaaGreatDoorW.PrintWords Go.Proofs.YtlmeijlandogaaaGreatDoorW.PrintLast Go.Proofs.YtlmeijlandogaaaGreatDoorW.PrintMore
open Go.Proofs.YtlmeijlandogaaaGreatDoorW.PrintWords renaming below_alloc → bA, pw_below_drewN → bN, below_drew1 → bD, below_set → bS, blk_drewN → kN, blk_drew → kD, blk_alloc → kA, below_size → bZ, below_step → bP, gate_callee → gC, box_event → bE, blk_cell → kC
open Go.Proofs.YtlmeijlandogaaaGreatDoorW.PrintLast renaming i64_w → iW, i32_w → jW
open List renaming setIfInBounds_toArray → sI, set_cons_zero → sZ, set_cons_succ → sS
attribute [local go_sem] max2_int min2_int max_two min_two max_three min_three max_four min_four   -- for this text's walks alone
set_option linter.unusedVariables false
set_option linter.unusedSimpArgs false

/-! ### spec_l09ReadOne: function 17 -/
mutual
def spec_l09ReadOne.j0 : Nat → ByteArray → Bool → Option (Int × Int × Bool)
 | 0, _, _ => none
 | k + 1, x0, x15 => if x15 = true then (some (0, 0, false)) else (if 0 < (x0.size : Int) then ((spec_l03Named.f k (bt x0 0)).bind fun t115 => (if 1 ≤ (x0.size : Int) then (if (x0.extract 1 x0.size).toList = ([] : List UInt8) then (spec_l09ReadOne.j1 k t115 (x0.extract 1 x0.size) false) else (if 0 < ((x0.extract 1 x0.size).size : Int) then (spec_l09ReadOne.j1 k t115 (x0.extract 1 x0.size) ((bt (x0.extract 1 x0.size) 0) == 44)) else (none))) else (none))) else (none))
def spec_l09ReadOne.j1 : Nat → Int → ByteArray → Bool → Option (Int × Int × Bool)
 | 0, _, _, _ => none
 | k + 1, x4, x5, x28 => if x28 = true then (if 1 ≤ (x5.size : Int) then (spec_l09ReadOne.j2 k (wrap64 (x4 - 12)) (x5.extract 1 x5.size)) else (none)) else (if x5.toList = ([] : List UInt8) then (spec_l09ReadOne.j2 k x4 x5) else (if 0 < (x5.size : Int) then (if (bt x5 0) = 39 then (if 1 ≤ (x5.size : Int) then (spec_l09ReadOne.j2 k (wrap64 (x4 + 12)) (x5.extract 1 x5.size)) else (none)) else (spec_l09ReadOne.j2 k x4 x5)) else (none)))
def spec_l09ReadOne.j2 : Nat → Int → ByteArray → Option (Int × Int × Bool)
 | 0, _, _ => none
 | k + 1, x4, x5 => if x5.toList = ([] : List UInt8) then (some (x4, 1, true)) else ((spec_l01Number.f k x5).bind fun bt116 => (if bt116.2 = true then (if bt116.1 = 1 then (some (0, 0, false)) else ((spec_l09Length.f bt116.1).bind fun t118 => (if t118 = true then (some (x4, bt116.1, true)) else (some (0, 0, false))))) else (some (0, 0, false))))
end
def spec_l09ReadOne.f (k : Nat) (a0 : ByteArray) : Option (Int × Int × Bool) := if a0.toList = ([] : List UInt8) then (spec_l09ReadOne.j0 k a0 true) else (if 0 < (a0.size : Int) then ((spec_l03Named.f k (bt a0 0)).bind fun t114 => (spec_l09ReadOne.j0 k a0 (decide (t114 < 0)))) else (none))
theorem spec_l09ReadOne.mono_l : ∀ k, (∀ y0 y1, LeO (spec_l09ReadOne.j0 k y0 y1) (spec_l09ReadOne.j0 (k + 1) y0 y1)) ∧ (∀ y0 y1 y2, LeO (spec_l09ReadOne.j1 k y0 y1 y2) (spec_l09ReadOne.j1 (k + 1) y0 y1 y2)) ∧ (∀ y0 y1, LeO (spec_l09ReadOne.j2 k y0 y1) (spec_l09ReadOne.j2 (k + 1) y0 y1))
 | 0 => ⟨fun _ _ r h => by simp [spec_l09ReadOne.j0] at h, fun _ _ _ r h => by simp [spec_l09ReadOne.j1] at h, fun _ _ r h => by simp [spec_l09ReadOne.j2] at h⟩
 | k + 1 => by
  obtain ⟨ih0, ih1, ih2⟩ := spec_l09ReadOne.mono_l k
  refine ⟨?_, ?_, ?_⟩
  ·intro y0 y1
   unfold spec_l09ReadOne.j0
   repeat' first
   | (with_reducible exact ih0 _ _)
   | (with_reducible exact ih1 _ _ _)
   | (with_reducible exact ih2 _ _)
   | (with_reducible exact spec_l01Number.mono _ _)
   | (with_reducible exact spec_l03Named.mono _ _)
   | (with_reducible exact LeO.refl _)
   | (with_reducible exact LeO.none _)
   | (with_reducible refine LeO.ite ?_ ?_)
   | (with_reducible refine LeO.bind ?_ (fun _ => ?_))
   | exact ih0 _ _
   | exact ih1 _ _ _
   | exact ih2 _ _
   | exact spec_l01Number.mono _ _
   | exact spec_l03Named.mono _ _
   | exact LeO.none _
   | refine LeO.ite ?_ ?_
   | refine LeO.bind ?_ (fun _ => ?_)
  ·intro y0 y1 y2
   unfold spec_l09ReadOne.j1
   repeat' first
   | (with_reducible exact ih0 _ _)
   | (with_reducible exact ih1 _ _ _)
   | (with_reducible exact ih2 _ _)
   | (with_reducible exact spec_l01Number.mono _ _)
   | (with_reducible exact spec_l03Named.mono _ _)
   | (with_reducible exact LeO.refl _)
   | (with_reducible exact LeO.none _)
   | (with_reducible refine LeO.ite ?_ ?_)
   | (with_reducible refine LeO.bind ?_ (fun _ => ?_))
   | exact ih0 _ _
   | exact ih1 _ _ _
   | exact ih2 _ _
   | exact spec_l01Number.mono _ _
   | exact spec_l03Named.mono _ _
   | exact LeO.none _
   | refine LeO.ite ?_ ?_
   | refine LeO.bind ?_ (fun _ => ?_)
  ·intro y0 y1
   unfold spec_l09ReadOne.j2
   repeat' first
   | (with_reducible exact ih0 _ _)
   | (with_reducible exact ih1 _ _ _)
   | (with_reducible exact ih2 _ _)
   | (with_reducible exact spec_l01Number.mono _ _)
   | (with_reducible exact spec_l03Named.mono _ _)
   | (with_reducible exact LeO.refl _)
   | (with_reducible exact LeO.none _)
   | (with_reducible refine LeO.ite ?_ ?_)
   | (with_reducible refine LeO.bind ?_ (fun _ => ?_))
   | exact ih0 _ _
   | exact ih1 _ _ _
   | exact ih2 _ _
   | exact spec_l01Number.mono _ _
   | exact spec_l03Named.mono _ _
   | exact LeO.none _
   | refine LeO.ite ?_ ?_
   | refine LeO.bind ?_ (fun _ => ?_)
theorem spec_l09ReadOne.mono : ∀ a0 k, LeO (spec_l09ReadOne.f k a0) (spec_l09ReadOne.f (k + 1) a0) := by
 intro a0 k
 obtain ⟨ih0, ih1, ih2⟩ := spec_l09ReadOne.mono_l k
 unfold spec_l09ReadOne.f
 repeat' first
   | (with_reducible exact ih0 _ _)
   | (with_reducible exact ih1 _ _ _)
   | (with_reducible exact ih2 _ _)
   | (with_reducible exact spec_l01Number.mono _ _)
   | (with_reducible exact spec_l03Named.mono _ _)
   | (with_reducible exact LeO.refl _)
   | (with_reducible exact LeO.none _)
   | (with_reducible refine LeO.ite ?_ ?_)
   | (with_reducible refine LeO.bind ?_ (fun _ => ?_))
   | exact ih0 _ _
   | exact ih1 _ _ _
   | exact ih2 _ _
   | exact spec_l01Number.mono _ _
   | exact spec_l03Named.mono _ _
   | exact LeO.none _
   | refine LeO.ite ?_ ?_
   | refine LeO.bind ?_ (fun _ => ?_)
set_option maxHeartbeats 8000000 in
set_option maxRecDepth 100000 in
theorem spec_l09ReadOne.calls (k : Nat) (a0 : ByteArray) (r1 : Int) (r2 : Int) (r3 : Bool) (w : World) (h : spec_l09ReadOne.f k a0 = some (r1, r2, r3)) :
  Calls Tryz.prog 17 #[.string a0] w fun e w' => e = .returned (.tuple #[.agg #[.int .i64 r1, .int .i64 r2], .bool r3]) ∧ Below w.heap.size w w' := by
 have hu34 := Tryz.underlying34
 have HB := Aside0.mk (Below.refl w.heap.size w)
 have H : (if a0.toList = ([] : List UInt8) then (spec_l09ReadOne.j0 k a0 true) else (if 0 < (a0.size : Int) then ((spec_l03Named.f k (bt a0 0)).bind fun t114 => (spec_l09ReadOne.j0 k a0 (decide (t114 < 0)))) else (none))) = some (r1, r2, r3) := h
 clear h
 have HC2 := Aside0.mk H
 clear H
 go_enter Tryz.func17, Tryz.ntmps17
 go_upto_region 1 with (first | ((with_reducible refine gate_dst (N := 2) rfl ?_); refine bE ?hg (N := 2) ?hd (cs := #[.int .i64 0, .int .i64 0]) (t := 34) ?hr ?_; (case hd => rfl); (case hg => rfl); (case hr => first | (go_simp; done) | (go_simp; rfl)); intro gb113 hg w3 hbox hb; have n0_ := Aside0.mk (bP (by repeat (first | (with_reducible first | exact HB.out | apply bA | apply bN | apply bD) | exact HB.out)) hb); have n1_ := Aside0.mk (hbox); have n2_ := Aside0.mk ((by rw [hg]; exact (bZ (by repeat (first | (with_reducible first | exact HB.out | apply bA | apply bN | apply bD) | exact HB.out))) : w.heap.size ≤ gb113)); have n3_ := Aside0.mk ((by rw [hg]; exact (bZ (by repeat (first | (with_reducible first | exact HB.out | apply bA | apply bN | apply bD) | exact HB.out))) : w.heap.size ≤ gb113)); clear HB; have HB := n0_; have BK113 := n1_; have GW113 := n2_; have GE113 := n3_; clear n0_ n1_ n2_ n3_; clear hb hbox hg))
 (try simp only [Act.put, sI, sZ, sS])
 go_cut [15] (fun v15 wc => ∃ (kq : Nat) (x15_1 : Bool), v15 = .bool x15_1 ∧ Aside0 (spec_l09ReadOne.j0 kq a0 x15_1 = some (r1, r2, r3)) ∧ Aside0 (kq ≤ k) ∧ Aside0 (wc.heap[gb113]? = some (.cells #[.int .i64 0, .int .i64 0] 34 (0, 0))) ∧ Aside0 (Below w.heap.size w wc))
 case first =>
  have H := HC2.out
  clear HC2
  by_cases c4 : a0.toList = ([] : List UInt8)
  ·rw [if_pos c4] at H
   have c4b0 : (a0.toList == ([] : List UInt8)) = true := beq_iff_eq.mpr c4
   have c4b1 : (a0.toList != ([] : List UInt8)) = false := bne_eq_false_iff_eq.mpr c4
   clear c4
   (first | rw [c4b0] | (simp only [iW, jW]; rw [c4b0]) | skip)
   have H' := Aside0.mk H
   clear H
   go_wp2
   go_meet
   case rel => exact ⟨_, (true), (by first | (with_reducible rfl) | (simp; done) | (simp [*]; done) | rfl), H', ⟨by first | omega | exact Nat.le_refl _⟩, ⟨by (with_reducible repeat (first | refine kN ?_ _ | refine kD ?_ | refine kA ?_ _)); exact BK113.out⟩, ⟨by repeat (first | (with_reducible first | exact HB.out | apply bA | apply bN | apply bD | refine bS ?_ GE113.out) | exact HB.out)⟩⟩
  ·rw [if_neg c4] at H
   have c4b0 : (a0.toList == ([] : List UInt8)) = false := beq_eq_false_iff_ne.mpr c4
   have c4b1 : (a0.toList != ([] : List UInt8)) = true := bne_iff_ne.mpr c4
   (first | rw [c4b0] | (simp only [iW, jW]; rw [c4b0]) | skip)
   by_cases c5 : 0 < (a0.size : Int)
   ·rw [if_pos c5] at H
    have c5b0 : decide (0 < (a0.size : Int)) = true := decide_eq_true c5
    have c5b1 : decide (0 < a0.size) = true := decide_eq_true (by omega)
    clear c5
    replace H := Option.bind_eq_some_iff.mp H
    obtain ⟨t114, A70, H⟩ := H
    replace H : (spec_l09ReadOne.j0 k a0 (decide (t114 < 0))) = some (r1, r2, r3) := H
    have A7 := Aside0.mk A70
    clear A70
    have H' := Aside0.mk H
    clear H
    have p6 : 0 ≤ (0 : Int) := (by omega)
    have q6 : 0 < a0.size := (by have : (0 : Int) < (a0.size : Int) := of_decide_eq_true (by first | (with_reducible assumption) | assumption); omega)
    have hx6 : ∀ h : 0 < a0.size, ((a0[0]'h).toNat : Int) = bt a0 0 := bt_at a0 0
    clear p6
    have qi6 : (0 < (a0.size : Int)) = True := eq_true (of_decide_eq_true (by first | (with_reducible assumption) | assumption))
    replace q6 := eq_true q6
    go_wp2_with (first | (go_at_call 32; (with_reducible refine (spec_l03Named.calls k (bt a0 0) t114 _ A7.out).mono ?_); rintro e w' ⟨rfl, ⟨nd, rfl⟩⟩))
    go_meet
    case rel => exact ⟨_, (decide (t114 < 0)), (by first | (with_reducible rfl) | (simp; done) | (simp [*]; done) | rfl), H', ⟨by first | omega | exact Nat.le_refl _⟩, ⟨by (with_reducible repeat (first | refine kN ?_ _ | refine kD ?_ | refine kA ?_ _)); exact BK113.out⟩, ⟨by repeat (first | (with_reducible first | exact HB.out | apply bA | apply bN | apply bD | refine bS ?_ GE113.out) | exact HB.out)⟩⟩
   ·rw [if_neg c5] at H
    exact absurd H (by simp)
 case rest =>
  clear HC2
  try clear c1
  try clear p2
  try clear c4
  try clear c4b0
  try clear c4b1
  try clear c5
  try clear c5b0
  try clear c5b1
  try clear p6
  try clear q6
  try clear hx6
  try clear qi6
  try clear p6
  try clear q6
  obtain ⟨kq, x15_1, rfl, HA, HJ1, BK113, HB⟩ := hcut
  cases kq with
  | zero => exact absurd HA.out (by simp [spec_l09ReadOne.j0])
  | succ kj1 =>
   have H := HA.out
   clear HA
   simp only [spec_l09ReadOne.j0] at H
   by_cases c8 : x15_1 = true
   ·subst c8
    have H1 : (some (0, 0, false)) = some (r1, r2, r3) := by rw [if_pos rfl] at H; exact H
    clear H
    have H := H1
    clear H1
    simp only [Option.some.injEq, Prod.mk.injEq] at H
    obtain ⟨rfl, rfl, rfl⟩ := H
    have hcz9_0 : wc.cell? ⟨gb113, 0, none⟩ = some (.int .i64 0) := (kC BK113.out 0).trans rfl
    have hcz9_1 : wc.cell? ⟨gb113, 1, none⟩ = some (.int .i64 0) := (kC BK113.out 1).trans rfl
    have hfz9_0 := blk_frozen BK113.out 0
    have hfz9_1 := blk_frozen BK113.out 1
    go_wp2
    refine bodyPost_ret (results_ct rfl _ _ gb113 34 #[.int .i64 0, .int .i64 0] (0, 0) _ rfl (by (with_reducible repeat (first | refine kN ?_ _ | refine kD ?_ | refine kA ?_ _)); refine blk_put (cs := #[.int .i64 0, .int .i64 0]) ?_ 1 _ rfl; (with_reducible repeat (first | refine kN ?_ _ | refine kD ?_ | refine kA ?_ _)); refine blk_put (cs := #[.int .i64 0, .int .i64 0]) ?_ 0 _ rfl; (with_reducible repeat (first | refine kN ?_ _ | refine kD ?_ | refine kA ?_ _)); exact BK113.out) Tryz.underlying34 rfl (by kernel_rfl)) rfl ?_
    exact ⟨by first | rfl | (simp [errW_none, errW_some] <;> rfl) | (simp [*, errW_none, errW_some] <;> rfl), by repeat (first | (with_reducible first | exact HB.out | apply bA | apply bN | apply bD | refine bS ?_ GE113.out) | exact HB.out)⟩
   ·replace c8 := Bool.eq_false_iff.mpr c8
    subst c8
    have H1 : (if 0 < (a0.size : Int) then ((spec_l03Named.f kj1 (bt a0 0)).bind fun t115 => (if 1 ≤ (a0.size : Int) then (if (a0.extract 1 a0.size).toList = ([] : List UInt8) then (spec_l09ReadOne.j1 kj1 t115 (a0.extract 1 a0.size) false) else (if 0 < ((a0.extract 1 a0.size).size : Int) then (spec_l09ReadOne.j1 kj1 t115 (a0.extract 1 a0.size) ((bt (a0.extract 1 a0.size) 0) == 44)) else (none))) else (none))) else (none)) = some (r1, r2, r3) := by rw [if_neg (show ¬ (false = true) by decide)] at H; exact H
    clear H
    have H := H1
    clear H1
    by_cases c10 : 0 < (a0.size : Int)
    ·rw [if_pos c10] at H
     have c10b0 : decide (0 < (a0.size : Int)) = true := decide_eq_true c10
     have c10b1 : decide (0 < a0.size) = true := decide_eq_true (by omega)
     clear c10
     replace H := Option.bind_eq_some_iff.mp H
     obtain ⟨t115, A120, H⟩ := H
     replace H : (if 1 ≤ (a0.size : Int) then (if (a0.extract 1 a0.size).toList = ([] : List UInt8) then (spec_l09ReadOne.j1 kj1 t115 (a0.extract 1 a0.size) false) else (if 0 < ((a0.extract 1 a0.size).size : Int) then (spec_l09ReadOne.j1 kj1 t115 (a0.extract 1 a0.size) ((bt (a0.extract 1 a0.size) 0) == 44)) else (none))) else (none)) = some (r1, r2, r3) := H
     have A12 := Aside0.mk A120
     clear A120
     by_cases c13 : 1 ≤ (a0.size : Int)
     ·rw [if_pos c13] at H
      have c13b0 := eq_true c13
      have c13b1 : decide (1 ≤ (a0.size : Int)) = true := decide_eq_true c13
      clear c13
      have HC14 := Aside0.mk H
      clear H
      have p11 : 0 ≤ (0 : Int) := (by omega)
      have q11 : 0 < a0.size := (by have : (0 : Int) < (a0.size : Int) := of_decide_eq_true (by first | (with_reducible assumption) | assumption); omega)
      have hx11 : ∀ h : 0 < a0.size, ((a0[0]'h).toNat : Int) = bt a0 0 := bt_at a0 0
      clear p11
      have qi11 : (0 < (a0.size : Int)) = True := eq_true (of_decide_eq_true (by first | (with_reducible assumption) | assumption))
      replace q11 := eq_true q11
      go_upto_region 5 with (first | ((with_reducible refine gC (f := 32) rfl ?_); refine goesL_ (some 19) rfl rfl Tryz.func32 (by kernel_rfl) rfl #[.int .u8 (bt a0 0)] rfl (by (try simp only [List.map_toArray, List.map_cons, List.map_nil]); first | done | rfl | (simp only [List.length_drop, List.length_take]; rfl)) ?_; (with_reducible refine (spec_l03Named.calls kj1 (bt a0 0) t115 _ A12.out).mono ?_); rintro e w' ⟨rfl, ⟨nd, rfl⟩⟩; refine ⟨_, rfl, ?_⟩))
      (try simp only [Act.put, sI, sZ, sS])
      go_cut [28] (fun v28 wc => ∃ (kq : Nat) (x28_13 : Bool), v28 = .bool x28_13 ∧ Aside0 (spec_l09ReadOne.j1 kq t115 (a0.extract 1 a0.size) x28_13 = some (r1, r2, r3)) ∧ Aside0 (kq ≤ kj1) ∧ Aside0 (wc.heap[gb113]? = some (.cells #[.int .i64 0, .int .i64 0] 34 (0, 0))) ∧ Aside0 (Below w.heap.size w wc))
      case first =>
       have H := HC14.out
       clear HC14
       by_cases c15 : (a0.extract 1 a0.size).toList = ([] : List UInt8)
       ·rw [if_pos c15] at H
        have c15b0 : ((a0.extract 1 a0.size).toList == ([] : List UInt8)) = true := beq_iff_eq.mpr c15
        have c15b1 : ((a0.extract 1 a0.size).toList != ([] : List UInt8)) = false := bne_eq_false_iff_eq.mpr c15
        clear c15
        (first | rw [c15b0] | (simp only [iW, jW]; rw [c15b0]) | skip)
        have H' := Aside0.mk H
        clear H
        go_wp2
        go_meet
        case rel => exact ⟨_, (false), (by first | (with_reducible rfl) | (simp; done) | (simp [*]; done) | rfl), H', ⟨by have := HJ1.out; first | omega | exact Nat.le_refl _⟩, ⟨by (with_reducible repeat (first | refine kN ?_ _ | refine kD ?_ | refine kA ?_ _)); exact BK113.out⟩, ⟨by repeat (first | (with_reducible first | exact HB.out | apply bA | apply bN | apply bD | refine bS ?_ GE113.out) | exact HB.out)⟩⟩
       ·rw [if_neg c15] at H
        have c15b0 : ((a0.extract 1 a0.size).toList == ([] : List UInt8)) = false := beq_eq_false_iff_ne.mpr c15
        have c15b1 : ((a0.extract 1 a0.size).toList != ([] : List UInt8)) = true := bne_iff_ne.mpr c15
        (first | rw [c15b0] | (simp only [iW, jW]; rw [c15b0]) | skip)
        by_cases c16 : 0 < ((a0.extract 1 a0.size).size : Int)
        ·rw [if_pos c16] at H
         have c16b0 : decide (0 < ((a0.extract 1 a0.size).size : Int)) = true := decide_eq_true c16
         have zcut_ : (a0.extract 1 a0.size).size = a0.size - 1 := (by rw [ByteArray.size_extract]; omega)
         have zc1_ : (0 < a0.size - 1) = True := eq_true (by have := c16; omega)
         have zc2_ : (((a0.size - 1 : Nat) : Int) < 1) = False := eq_false (by have := c16; omega)
         have zc3_ : ¬ ((a0.size - 1 : Nat) : Int) < 1 := (by have := c16; omega)
         have zc4_ : decide (((a0.size - 1 : Nat) : Int) < 1) = false := decide_eq_false zc3_
         have zc5_ : (1 ≤ ((a0.size - 1 : Nat) : Int)) = True := eq_true (by have := c16; omega)
         have zc6_ : decide (1 ≤ ((a0.size - 1 : Nat) : Int)) = true := decide_eq_true (by have := c16; omega)
         clear zcut_
         have c16b1 : decide (0 < (a0.extract 1 a0.size).size) = true := decide_eq_true (by omega)
         clear c16
         have H' := Aside0.mk H
         clear H
         have p17 : 0 ≤ (0 : Int) := (by omega)
         have q17 : 0 < (a0.extract 1 a0.size).size := (by have : (0 : Int) < ((a0.extract 1 a0.size).size : Int) := of_decide_eq_true (by first | (with_reducible assumption) | assumption); omega)
         have hx17 : ∀ h : 0 < (a0.extract 1 a0.size).size, (((a0.extract 1 a0.size)[0]'h).toNat : Int) = bt (a0.extract 1 a0.size) 0 := bt_at (a0.extract 1 a0.size) 0
         clear p17
         have qi17 : (0 < ((a0.extract 1 a0.size).size : Int)) = True := eq_true (of_decide_eq_true (by first | (with_reducible assumption) | assumption))
         replace q17 := eq_true q17
         go_wp2
         go_meet
         case rel => exact ⟨_, (((bt (a0.extract 1 a0.size) 0) == 44)), (by first | (with_reducible rfl) | (simp; done) | (simp [*]; done) | rfl), H', ⟨by have := HJ1.out; first | omega | exact Nat.le_refl _⟩, ⟨by (with_reducible repeat (first | refine kN ?_ _ | refine kD ?_ | refine kA ?_ _)); exact BK113.out⟩, ⟨by repeat (first | (with_reducible first | exact HB.out | apply bA | apply bN | apply bD | refine bS ?_ GE113.out) | exact HB.out)⟩⟩
        ·rw [if_neg c16] at H
         exact absurd H (by simp)
      case rest =>
       clear HC14
       try clear c1
       try clear p1
       try clear q1
       try clear hx1
       try clear qi1
       try clear p2
       try clear c3
       try clear c4
       try clear c4b0
       try clear c4b1
       try clear c5
       try clear c5b0
       try clear c5b1
       try clear p6
       try clear q6
       try clear hx6
       try clear qi6
       try clear c8
       try clear c10
       try clear c10b0
       try clear c10b1
       try clear p11
       try clear q11
       try clear hx11
       try clear qi11
       try clear c13
       try clear c13b0
       try clear c13b1
       try clear c15
       try clear c15b0
       try clear c15b1
       try clear c16
       try clear c16b0
       try clear c16b1
       try clear c17
       try clear p17
       try clear q17
       try clear hx17
       try clear qi17
       try clear hcz9_0
       try clear hcz9_1
       try clear hfz9_0
       try clear hfz9_1
       try clear p11
       try clear p17
       try clear p2
       try clear p6
       try clear q11
       try clear q17
       try clear q6
       obtain ⟨kq, x28_13, rfl, HA, HJ13, BK113, HB⟩ := hcut
       cases kq with
       | zero => exact absurd HA.out (by simp [spec_l09ReadOne.j1])
       | succ kj13 =>
        have H := HA.out
        clear HA
        simp only [spec_l09ReadOne.j1] at H
        have HC18 := Aside0.mk H
        clear H
        go_upto_if 28 with (fail)
        go_cut [4, 5] (fun v4 v5 wc => ∃ (kq : Nat) (x4_17 : Int) (x5_17 : ByteArray), v4 = .int .i64 x4_17 ∧ v5 = .string x5_17 ∧ Aside0 (spec_l09ReadOne.j2 kq x4_17 x5_17 = some (r1, r2, r3)) ∧ Aside0 (kq ≤ kj13) ∧ Aside0 (wc.heap[gb113]? = some (.cells #[.int .i64 0, .int .i64 0] 34 (0, 0))) ∧ Aside0 (Below w.heap.size w wc))
        case first =>
         have H := HC18.out
         clear HC18
         by_cases c19 : x28_13 = true
         ·subst c19
          have H1 : (if 1 ≤ ((a0.extract 1 a0.size).size : Int) then (spec_l09ReadOne.j2 kj13 (wrap64 (t115 - 12)) ((a0.extract 1 a0.size).extract 1 (a0.extract 1 a0.size).size)) else (none)) = some (r1, r2, r3) := by rw [if_pos rfl] at H; exact H
          clear H
          have H := H1
          clear H1
          by_cases c20 : 1 ≤ ((a0.extract 1 a0.size).size : Int)
          ·rw [if_pos c20] at H
           have c20b0 := eq_true c20
           have c20b1 : decide (1 ≤ ((a0.extract 1 a0.size).size : Int)) = true := decide_eq_true c20
           have zcut_ : (a0.extract 1 a0.size).size = a0.size - 1 := (by rw [ByteArray.size_extract]; omega)
           have zc1_ : (0 < a0.size - 1) = True := eq_true (by have := c20; omega)
           have zc2_ : (((a0.size - 1 : Nat) : Int) < 1) = False := eq_false (by have := c20; omega)
           have zc3_ : ¬ ((a0.size - 1 : Nat) : Int) < 1 := (by have := c20; omega)
           have zc4_ : decide (((a0.size - 1 : Nat) : Int) < 1) = false := decide_eq_false zc3_
           have zc5_ : (1 ≤ ((a0.size - 1 : Nat) : Int)) = True := eq_true (by have := c20; omega)
           have zc6_ : decide (1 ≤ ((a0.size - 1 : Nat) : Int)) = true := decide_eq_true (by have := c20; omega)
           clear zcut_
           clear c20
           have H' := Aside0.mk H
           clear H
           go_wp2
           go_meet
           case rel => exact ⟨_, (wrap64 (t115 - 12)), ((a0.extract 1 a0.size).extract 1 (a0.extract 1 a0.size).size), (by first | (with_reducible rfl) | (simp; done) | (simp [*]; done) | rfl), (by first | (with_reducible rfl) | (simp; done) | (simp [*]; done) | rfl), H', ⟨by have := HJ1.out; have := HJ13.out; first | omega | exact Nat.le_refl _⟩, ⟨by (with_reducible repeat (first | refine kN ?_ _ | refine kD ?_ | refine kA ?_ _)); exact BK113.out⟩, ⟨by repeat (first | (with_reducible first | exact HB.out | apply bA | apply bN | apply bD | refine bS ?_ GE113.out) | exact HB.out)⟩⟩
          ·rw [if_neg c20] at H
           exact absurd H (by simp)
         ·replace c19 := Bool.eq_false_iff.mpr c19
          subst c19
          have H1 : (if (a0.extract 1 a0.size).toList = ([] : List UInt8) then (spec_l09ReadOne.j2 kj13 t115 (a0.extract 1 a0.size)) else (if 0 < ((a0.extract 1 a0.size).size : Int) then (if (bt (a0.extract 1 a0.size) 0) = 39 then (if 1 ≤ ((a0.extract 1 a0.size).size : Int) then (spec_l09ReadOne.j2 kj13 (wrap64 (t115 + 12)) ((a0.extract 1 a0.size).extract 1 (a0.extract 1 a0.size).size)) else (none)) else (spec_l09ReadOne.j2 kj13 t115 (a0.extract 1 a0.size))) else (none))) = some (r1, r2, r3) := by rw [if_neg (show ¬ (false = true) by decide)] at H; exact H
          clear H
          have H := H1
          clear H1
          by_cases c21 : (a0.extract 1 a0.size).toList = ([] : List UInt8)
          ·rw [if_pos c21] at H
           have c21b0 : ((a0.extract 1 a0.size).toList == ([] : List UInt8)) = true := beq_iff_eq.mpr c21
           have c21b1 : ((a0.extract 1 a0.size).toList != ([] : List UInt8)) = false := bne_eq_false_iff_eq.mpr c21
           clear c21
           (first | rw [c21b0] | (simp only [iW, jW]; rw [c21b0]) | skip)
           have H' := Aside0.mk H
           clear H
           go_wp2
           go_meet
           case rel => exact ⟨_, (t115), ((a0.extract 1 a0.size)), (by first | (with_reducible rfl) | (simp; done) | (simp [*]; done) | rfl), (by first | (with_reducible rfl) | (simp; done) | (simp [*]; done) | rfl), H', ⟨by have := HJ1.out; have := HJ13.out; first | omega | exact Nat.le_refl _⟩, ⟨by (with_reducible repeat (first | refine kN ?_ _ | refine kD ?_ | refine kA ?_ _)); exact BK113.out⟩, ⟨by repeat (first | (with_reducible first | exact HB.out | apply bA | apply bN | apply bD | refine bS ?_ GE113.out) | exact HB.out)⟩⟩
          ·rw [if_neg c21] at H
           have c21b0 : ((a0.extract 1 a0.size).toList == ([] : List UInt8)) = false := beq_eq_false_iff_ne.mpr c21
           have c21b1 : ((a0.extract 1 a0.size).toList != ([] : List UInt8)) = true := bne_iff_ne.mpr c21
           (first | rw [c21b0] | (simp only [iW, jW]; rw [c21b0]) | skip)
           by_cases c22 : 0 < ((a0.extract 1 a0.size).size : Int)
           ·rw [if_pos c22] at H
            have c22b0 : decide (0 < ((a0.extract 1 a0.size).size : Int)) = true := decide_eq_true c22
            have zcut_ : (a0.extract 1 a0.size).size = a0.size - 1 := (by rw [ByteArray.size_extract]; omega)
            have zc1_ : (0 < a0.size - 1) = True := eq_true (by have := c22; omega)
            have zc2_ : (((a0.size - 1 : Nat) : Int) < 1) = False := eq_false (by have := c22; omega)
            have zc3_ : ¬ ((a0.size - 1 : Nat) : Int) < 1 := (by have := c22; omega)
            have zc4_ : decide (((a0.size - 1 : Nat) : Int) < 1) = false := decide_eq_false zc3_
            have zc5_ : (1 ≤ ((a0.size - 1 : Nat) : Int)) = True := eq_true (by have := c22; omega)
            have zc6_ : decide (1 ≤ ((a0.size - 1 : Nat) : Int)) = true := decide_eq_true (by have := c22; omega)
            clear zcut_
            have c22b1 : decide (0 < (a0.extract 1 a0.size).size) = true := decide_eq_true (by omega)
            clear c22
            by_cases c24 : (bt (a0.extract 1 a0.size) 0) = 39
            ·rw [if_pos c24] at H
             have c24b0 : ((bt (a0.extract 1 a0.size) 0) == 39) = true := beq_iff_eq.mpr c24
             have c24b1 : ((bt (a0.extract 1 a0.size) 0) != 39) = false := bne_eq_false_iff_eq.mpr c24
             clear c24
             by_cases c25 : 1 ≤ ((a0.extract 1 a0.size).size : Int)
             ·rw [if_pos c25] at H
              have c25b0 := eq_true c25
              have c25b1 : decide (1 ≤ ((a0.extract 1 a0.size).size : Int)) = true := decide_eq_true c25
              have zcut_ : (a0.extract 1 a0.size).size = a0.size - 1 := (by rw [ByteArray.size_extract]; omega)
              have zc1_ : (0 < a0.size - 1) = True := eq_true (by have := c25; omega)
              have zc2_ : (((a0.size - 1 : Nat) : Int) < 1) = False := eq_false (by have := c25; omega)
              have zc3_ : ¬ ((a0.size - 1 : Nat) : Int) < 1 := (by have := c25; omega)
              have zc4_ : decide (((a0.size - 1 : Nat) : Int) < 1) = false := decide_eq_false zc3_
              have zc5_ : (1 ≤ ((a0.size - 1 : Nat) : Int)) = True := eq_true (by have := c25; omega)
              have zc6_ : decide (1 ≤ ((a0.size - 1 : Nat) : Int)) = true := decide_eq_true (by have := c25; omega)
              clear zcut_
              clear c25
              have H' := Aside0.mk H
              clear H
              have p23 : 0 ≤ (0 : Int) := (by omega)
              have q23 : 0 < (a0.extract 1 a0.size).size := (by have : (0 : Int) < ((a0.extract 1 a0.size).size : Int) := of_decide_eq_true (by first | (with_reducible assumption) | assumption); omega)
              have hx23 : ∀ h : 0 < (a0.extract 1 a0.size).size, (((a0.extract 1 a0.size)[0]'h).toNat : Int) = bt (a0.extract 1 a0.size) 0 := bt_at (a0.extract 1 a0.size) 0
              clear p23
              have qi23 : (0 < ((a0.extract 1 a0.size).size : Int)) = True := eq_true (of_decide_eq_true (by first | (with_reducible assumption) | assumption))
              replace q23 := eq_true q23
              go_wp2
              go_meet
              case rel => exact ⟨_, (wrap64 (t115 + 12)), ((a0.extract 1 a0.size).extract 1 (a0.extract 1 a0.size).size), (by first | (with_reducible rfl) | (simp; done) | (simp [*]; done) | rfl), (by first | (with_reducible rfl) | (simp; done) | (simp [*]; done) | rfl), H', ⟨by have := HJ1.out; have := HJ13.out; first | omega | exact Nat.le_refl _⟩, ⟨by (with_reducible repeat (first | refine kN ?_ _ | refine kD ?_ | refine kA ?_ _)); exact BK113.out⟩, ⟨by repeat (first | (with_reducible first | exact HB.out | apply bA | apply bN | apply bD | refine bS ?_ GE113.out) | exact HB.out)⟩⟩
             ·rw [if_neg c25] at H
              exact absurd H (by simp)
            ·rw [if_neg c24] at H
             have c24b0 : ((bt (a0.extract 1 a0.size) 0) == 39) = false := beq_eq_false_iff_ne.mpr c24
             have c24b1 : ((bt (a0.extract 1 a0.size) 0) != 39) = true := bne_iff_ne.mpr c24
             have H' := Aside0.mk H
             clear H
             have p23 : 0 ≤ (0 : Int) := (by omega)
             have q23 : 0 < (a0.extract 1 a0.size).size := (by have : (0 : Int) < ((a0.extract 1 a0.size).size : Int) := of_decide_eq_true (by first | (with_reducible assumption) | assumption); omega)
             have hx23 : ∀ h : 0 < (a0.extract 1 a0.size).size, (((a0.extract 1 a0.size)[0]'h).toNat : Int) = bt (a0.extract 1 a0.size) 0 := bt_at (a0.extract 1 a0.size) 0
             clear p23
             have qi23 : (0 < ((a0.extract 1 a0.size).size : Int)) = True := eq_true (of_decide_eq_true (by first | (with_reducible assumption) | assumption))
             replace q23 := eq_true q23
             go_wp2
             go_meet
             case rel => exact ⟨_, (t115), ((a0.extract 1 a0.size)), (by first | (with_reducible rfl) | (simp; done) | (simp [*]; done) | rfl), (by first | (with_reducible rfl) | (simp; done) | (simp [*]; done) | rfl), H', ⟨by have := HJ1.out; have := HJ13.out; first | omega | exact Nat.le_refl _⟩, ⟨by (with_reducible repeat (first | refine kN ?_ _ | refine kD ?_ | refine kA ?_ _)); exact BK113.out⟩, ⟨by repeat (first | (with_reducible first | exact HB.out | apply bA | apply bN | apply bD | refine bS ?_ GE113.out) | exact HB.out)⟩⟩
           ·rw [if_neg c22] at H
            exact absurd H (by simp)
        case rest =>
         clear HC18
         try clear c1
         try clear p1
         try clear q1
         try clear hx1
         try clear qi1
         try clear c2
         try clear p2
         try clear q2
         try clear hx2
         try clear qi2
         try clear c3
         try clear c4
         try clear c4b0
         try clear c4b1
         try clear c5
         try clear c5b0
         try clear c5b1
         try clear p6
         try clear q6
         try clear hx6
         try clear qi6
         try clear c8
         try clear c10
         try clear c10b0
         try clear c10b1
         try clear p11
         try clear q11
         try clear hx11
         try clear qi11
         try clear c13
         try clear c13b0
         try clear c13b1
         try clear c15
         try clear c15b0
         try clear c15b1
         try clear c16
         try clear c16b0
         try clear c16b1
         try clear c17
         try clear p17
         try clear q17
         try clear hx17
         try clear qi17
         try clear c19
         try clear c20
         try clear c20b0
         try clear c20b1
         try clear c21
         try clear c21b0
         try clear c21b1
         try clear c22
         try clear c22b0
         try clear c22b1
         try clear p23
         try clear q23
         try clear hx23
         try clear qi23
         try clear c24
         try clear c24b0
         try clear c24b1
         try clear c25
         try clear c25b0
         try clear c25b1
         try clear hcz9_0
         try clear hcz9_1
         try clear hfz9_0
         try clear hfz9_1
         try clear p1
         try clear p11
         try clear p17
         try clear p2
         try clear p23
         try clear p6
         try clear q1
         try clear q11
         try clear q17
         try clear q23
         try clear q6
         obtain ⟨kq, x4_17, x5_17, rfl, rfl, HA, HJ17, BK113, HB⟩ := hcut
         cases kq with
         | zero => exact absurd HA.out (by simp [spec_l09ReadOne.j2])
         | succ kj17 =>
          have H := HA.out
          clear HA
          simp only [spec_l09ReadOne.j2] at H
          by_cases c26 : x5_17.toList = ([] : List UInt8)
          ·rw [if_pos c26] at H
           have c26b0 : (x5_17.toList == ([] : List UInt8)) = true := beq_iff_eq.mpr c26
           have c26b1 : (x5_17.toList != ([] : List UInt8)) = false := bne_eq_false_iff_eq.mpr c26
           clear c26
           simp only [Option.some.injEq, Prod.mk.injEq] at H
           obtain ⟨rfl, rfl, rfl⟩ := H
           have hcz27_0 : wc.cell? ⟨gb113, 0, none⟩ = some (.int .i64 0) := (kC BK113.out 0).trans rfl
           have hcz27_1 : wc.cell? ⟨gb113, 1, none⟩ = some (.int .i64 0) := (kC BK113.out 1).trans rfl
           have hfz27_0 := blk_frozen BK113.out 0
           have hfz27_1 := blk_frozen BK113.out 1
           go_wp2
           refine bodyPost_ret (results_ct rfl _ _ gb113 34 #[.int .i64 x4_17, .int .i64 1] (0, 0) _ rfl (by (with_reducible repeat (first | refine kN ?_ _ | refine kD ?_ | refine kA ?_ _)); refine blk_put (cs := #[.int .i64 x4_17, .int .i64 0]) ?_ 1 _ rfl; (with_reducible repeat (first | refine kN ?_ _ | refine kD ?_ | refine kA ?_ _)); refine blk_put (cs := #[.int .i64 0, .int .i64 0]) ?_ 0 _ rfl; (with_reducible repeat (first | refine kN ?_ _ | refine kD ?_ | refine kA ?_ _)); exact BK113.out) Tryz.underlying34 rfl (by kernel_rfl)) rfl ?_
           exact ⟨by first | rfl | (simp [errW_none, errW_some] <;> rfl) | (simp [*, errW_none, errW_some] <;> rfl), by repeat (first | (with_reducible first | exact HB.out | apply bA | apply bN | apply bD | refine bS ?_ GE113.out) | exact HB.out)⟩
          ·rw [if_neg c26] at H
           have c26b0 : (x5_17.toList == ([] : List UInt8)) = false := beq_eq_false_iff_ne.mpr c26
           have c26b1 : (x5_17.toList != ([] : List UInt8)) = true := bne_iff_ne.mpr c26
           replace H := Option.bind_eq_some_iff.mp H
           obtain ⟨⟨t116, t117⟩, A280, H⟩ := H
           replace H : (if t117 = true then (if t116 = 1 then (some (0, 0, false)) else ((spec_l09Length.f t116).bind fun t118 => (if t118 = true then (some (x4_17, t116, true)) else (some (0, 0, false))))) else (some (0, 0, false))) = some (r1, r2, r3) := H
           have A28 := Aside0.mk A280
           clear A280
           by_cases c29 : t117 = true
           ·subst c29
            have H1 : (if t116 = 1 then (some (0, 0, false)) else ((spec_l09Length.f t116).bind fun t118 => (if t118 = true then (some (x4_17, t116, true)) else (some (0, 0, false))))) = some (r1, r2, r3) := by rw [if_pos rfl] at H; exact H
            clear H
            have H := H1
            clear H1
            by_cases c30 : t116 = 1
            ·rw [if_pos c30] at H
             have c30b0 : (t116 == 1) = true := beq_iff_eq.mpr c30
             have c30b1 : (t116 != 1) = false := bne_eq_false_iff_eq.mpr c30
             clear c30
             simp only [Option.some.injEq, Prod.mk.injEq] at H
             obtain ⟨rfl, rfl, rfl⟩ := H
             go_wp2_with (first | ((with_reducible refine gC (f := 33) rfl ?_); refine goesL_ (some 50) rfl rfl Tryz.func33 (by kernel_rfl) rfl #[.string x5_17] rfl (by (try simp only [List.map_toArray, List.map_cons, List.map_nil]); first | done | rfl | (simp only [List.length_drop, List.length_take]; rfl)) ?_; (with_reducible refine (spec_l01Number.calls kj17 x5_17 t116 true _ A28.out).mono ?_); rintro e w' ⟨rfl, ⟨nd, rfl⟩⟩; refine ⟨_, rfl, ?_⟩; (try (rw [drewN_self wc]; generalize hq_ : World.drewN wc _ = wc; have n0_ : Aside0 (wc.heap[gb113]? = some (.cells #[.int .i64 0, .int .i64 0] 34 (0, 0))) := ⟨by rw [← hq_]; exact (by (with_reducible repeat (first | refine kN ?_ _ | refine kD ?_ | refine kA ?_ _)); exact BK113.out)⟩; have n1_ : Aside0 (Below w.heap.size w wc) := ⟨by rw [← hq_]; exact (by repeat (first | (with_reducible first | exact HB.out | apply bA | apply bN | apply bD | refine bS ?_ GE113.out) | exact HB.out))⟩; clear BK113 HB hq_; have BK113 := n0_; have HB := n1_; clear n0_ n1_)); have hcz31_0 : wc.cell? ⟨gb113, 0, none⟩ = some (.int .i64 0) := (kC BK113.out 0).trans rfl; have hcz31_1 : wc.cell? ⟨gb113, 1, none⟩ = some (.int .i64 0) := (kC BK113.out 1).trans rfl; have hfz31_0 := blk_frozen BK113.out 0; have hfz31_1 := blk_frozen BK113.out 1))
             refine bodyPost_ret (results_ct rfl _ _ gb113 34 #[.int .i64 0, .int .i64 0] (0, 0) _ rfl (by (with_reducible repeat (first | refine kN ?_ _ | refine kD ?_ | refine kA ?_ _)); refine blk_put (cs := #[.int .i64 0, .int .i64 0]) ?_ 1 _ rfl; (with_reducible repeat (first | refine kN ?_ _ | refine kD ?_ | refine kA ?_ _)); refine blk_put (cs := #[.int .i64 0, .int .i64 0]) ?_ 0 _ rfl; (with_reducible repeat (first | refine kN ?_ _ | refine kD ?_ | refine kA ?_ _)); exact BK113.out) Tryz.underlying34 rfl (by kernel_rfl)) rfl ?_
             exact ⟨by first | rfl | (simp [errW_none, errW_some] <;> rfl) | (simp [*, errW_none, errW_some] <;> rfl), by repeat (first | (with_reducible first | exact HB.out | apply bA | apply bN | apply bD | refine bS ?_ GE113.out) | exact HB.out)⟩
            ·rw [if_neg c30] at H
             have c30b0 : (t116 == 1) = false := beq_eq_false_iff_ne.mpr c30
             have c30b1 : (t116 != 1) = true := bne_iff_ne.mpr c30
             replace H := Option.bind_eq_some_iff.mp H
             obtain ⟨t118, A320, H⟩ := H
             replace H : (if t118 = true then (some (x4_17, t116, true)) else (some (0, 0, false))) = some (r1, r2, r3) := H
             have A32 := Aside0.mk A320
             clear A320
             by_cases c33 : t118 = true
             ·subst c33
              have H1 : (some (x4_17, t116, true)) = some (r1, r2, r3) := by rw [if_pos rfl] at H; exact H
              clear H
              have H := H1
              clear H1
              simp only [Option.some.injEq, Prod.mk.injEq] at H
              obtain ⟨rfl, rfl, rfl⟩ := H
              go_wp2_with (first | ((with_reducible refine gC (f := 33) rfl ?_); refine goesL_ (some 50) rfl rfl Tryz.func33 (by kernel_rfl) rfl #[.string x5_17] rfl (by (try simp only [List.map_toArray, List.map_cons, List.map_nil]); first | done | rfl | (simp only [List.length_drop, List.length_take]; rfl)) ?_; (with_reducible refine (spec_l01Number.calls kj17 x5_17 t116 true _ A28.out).mono ?_); rintro e w' ⟨rfl, ⟨nd, rfl⟩⟩; refine ⟨_, rfl, ?_⟩; (try (rw [drewN_self wc]; generalize hq_ : World.drewN wc _ = wc; have n0_ : Aside0 (wc.heap[gb113]? = some (.cells #[.int .i64 0, .int .i64 0] 34 (0, 0))) := ⟨by rw [← hq_]; exact (by (with_reducible repeat (first | refine kN ?_ _ | refine kD ?_ | refine kA ?_ _)); exact BK113.out)⟩; have n1_ : Aside0 (Below w.heap.size w wc) := ⟨by rw [← hq_]; exact (by repeat (first | (with_reducible first | exact HB.out | apply bA | apply bN | apply bD | refine bS ?_ GE113.out) | exact HB.out))⟩; clear BK113 HB hq_; have BK113 := n0_; have HB := n1_; clear n0_ n1_))) | (go_at_call 34; (with_reducible refine (spec_l09Length.calls t116 true _ A32.out).mono ?_); rintro e w' ⟨rfl, ⟨nd, rfl⟩⟩; (try (rw [drewN_self wc]; generalize hq_ : World.drewN wc _ = wc; have n0_ : Aside0 (wc.heap[gb113]? = some (.cells #[.int .i64 0, .int .i64 0] 34 (0, 0))) := ⟨by rw [← hq_]; exact (by (with_reducible repeat (first | refine kN ?_ _ | refine kD ?_ | refine kA ?_ _)); exact BK113.out)⟩; have n1_ : Aside0 (Below w.heap.size w wc) := ⟨by rw [← hq_]; exact (by repeat (first | (with_reducible first | exact HB.out | apply bA | apply bN | apply bD | refine bS ?_ GE113.out) | exact HB.out))⟩; clear BK113 HB hq_; have BK113 := n0_; have HB := n1_; clear n0_ n1_)); have hcz34_0 : wc.cell? ⟨gb113, 0, none⟩ = some (.int .i64 0) := (kC BK113.out 0).trans rfl; have hcz34_1 : wc.cell? ⟨gb113, 1, none⟩ = some (.int .i64 0) := (kC BK113.out 1).trans rfl; have hfz34_0 := blk_frozen BK113.out 0; have hfz34_1 := blk_frozen BK113.out 1))
              refine bodyPost_ret (results_ct rfl _ _ gb113 34 #[.int .i64 x4_17, .int .i64 t116] (0, 0) _ rfl (by (with_reducible repeat (first | refine kN ?_ _ | refine kD ?_ | refine kA ?_ _)); refine blk_put (cs := #[.int .i64 x4_17, .int .i64 0]) ?_ 1 _ rfl; (with_reducible repeat (first | refine kN ?_ _ | refine kD ?_ | refine kA ?_ _)); refine blk_put (cs := #[.int .i64 0, .int .i64 0]) ?_ 0 _ rfl; (with_reducible repeat (first | refine kN ?_ _ | refine kD ?_ | refine kA ?_ _)); exact BK113.out) Tryz.underlying34 rfl (by kernel_rfl)) rfl ?_
              exact ⟨by first | rfl | (simp [errW_none, errW_some] <;> rfl) | (simp [*, errW_none, errW_some] <;> rfl), by repeat (first | (with_reducible first | exact HB.out | apply bA | apply bN | apply bD | refine bS ?_ GE113.out) | exact HB.out)⟩
             ·replace c33 := Bool.eq_false_iff.mpr c33
              subst c33
              have H1 : (some (0, 0, false)) = some (r1, r2, r3) := by rw [if_neg (show ¬ (false = true) by decide)] at H; exact H
              clear H
              have H := H1
              clear H1
              simp only [Option.some.injEq, Prod.mk.injEq] at H
              obtain ⟨rfl, rfl, rfl⟩ := H
              go_wp2_with (first | ((with_reducible refine gC (f := 33) rfl ?_); refine goesL_ (some 50) rfl rfl Tryz.func33 (by kernel_rfl) rfl #[.string x5_17] rfl (by (try simp only [List.map_toArray, List.map_cons, List.map_nil]); first | done | rfl | (simp only [List.length_drop, List.length_take]; rfl)) ?_; (with_reducible refine (spec_l01Number.calls kj17 x5_17 t116 true _ A28.out).mono ?_); rintro e w' ⟨rfl, ⟨nd, rfl⟩⟩; refine ⟨_, rfl, ?_⟩; (try (rw [drewN_self wc]; generalize hq_ : World.drewN wc _ = wc; have n0_ : Aside0 (wc.heap[gb113]? = some (.cells #[.int .i64 0, .int .i64 0] 34 (0, 0))) := ⟨by rw [← hq_]; exact (by (with_reducible repeat (first | refine kN ?_ _ | refine kD ?_ | refine kA ?_ _)); exact BK113.out)⟩; have n1_ : Aside0 (Below w.heap.size w wc) := ⟨by rw [← hq_]; exact (by repeat (first | (with_reducible first | exact HB.out | apply bA | apply bN | apply bD | refine bS ?_ GE113.out) | exact HB.out))⟩; clear BK113 HB hq_; have BK113 := n0_; have HB := n1_; clear n0_ n1_))) | (go_at_call 34; (with_reducible refine (spec_l09Length.calls t116 false _ A32.out).mono ?_); rintro e w' ⟨rfl, ⟨nd, rfl⟩⟩; (try (rw [drewN_self wc]; generalize hq_ : World.drewN wc _ = wc; have n0_ : Aside0 (wc.heap[gb113]? = some (.cells #[.int .i64 0, .int .i64 0] 34 (0, 0))) := ⟨by rw [← hq_]; exact (by (with_reducible repeat (first | refine kN ?_ _ | refine kD ?_ | refine kA ?_ _)); exact BK113.out)⟩; have n1_ : Aside0 (Below w.heap.size w wc) := ⟨by rw [← hq_]; exact (by repeat (first | (with_reducible first | exact HB.out | apply bA | apply bN | apply bD | refine bS ?_ GE113.out) | exact HB.out))⟩; clear BK113 HB hq_; have BK113 := n0_; have HB := n1_; clear n0_ n1_)); have hcz35_0 : wc.cell? ⟨gb113, 0, none⟩ = some (.int .i64 0) := (kC BK113.out 0).trans rfl; have hcz35_1 : wc.cell? ⟨gb113, 1, none⟩ = some (.int .i64 0) := (kC BK113.out 1).trans rfl; have hfz35_0 := blk_frozen BK113.out 0; have hfz35_1 := blk_frozen BK113.out 1))
              refine bodyPost_ret (results_ct rfl _ _ gb113 34 #[.int .i64 0, .int .i64 0] (0, 0) _ rfl (by (with_reducible repeat (first | refine kN ?_ _ | refine kD ?_ | refine kA ?_ _)); refine blk_put (cs := #[.int .i64 0, .int .i64 0]) ?_ 1 _ rfl; (with_reducible repeat (first | refine kN ?_ _ | refine kD ?_ | refine kA ?_ _)); refine blk_put (cs := #[.int .i64 0, .int .i64 0]) ?_ 0 _ rfl; (with_reducible repeat (first | refine kN ?_ _ | refine kD ?_ | refine kA ?_ _)); exact BK113.out) Tryz.underlying34 rfl (by kernel_rfl)) rfl ?_
              exact ⟨by first | rfl | (simp [errW_none, errW_some] <;> rfl) | (simp [*, errW_none, errW_some] <;> rfl), by repeat (first | (with_reducible first | exact HB.out | apply bA | apply bN | apply bD | refine bS ?_ GE113.out) | exact HB.out)⟩
           ·replace c29 := Bool.eq_false_iff.mpr c29
            subst c29
            have H1 : (some (0, 0, false)) = some (r1, r2, r3) := by rw [if_neg (show ¬ (false = true) by decide)] at H; exact H
            clear H
            have H := H1
            clear H1
            simp only [Option.some.injEq, Prod.mk.injEq] at H
            obtain ⟨rfl, rfl, rfl⟩ := H
            go_wp2_with (first | ((with_reducible refine gC (f := 33) rfl ?_); refine goesL_ (some 50) rfl rfl Tryz.func33 (by kernel_rfl) rfl #[.string x5_17] rfl (by (try simp only [List.map_toArray, List.map_cons, List.map_nil]); first | done | rfl | (simp only [List.length_drop, List.length_take]; rfl)) ?_; (with_reducible refine (spec_l01Number.calls kj17 x5_17 t116 false _ A28.out).mono ?_); rintro e w' ⟨rfl, ⟨nd, rfl⟩⟩; refine ⟨_, rfl, ?_⟩; (try (rw [drewN_self wc]; generalize hq_ : World.drewN wc _ = wc; have n0_ : Aside0 (wc.heap[gb113]? = some (.cells #[.int .i64 0, .int .i64 0] 34 (0, 0))) := ⟨by rw [← hq_]; exact (by (with_reducible repeat (first | refine kN ?_ _ | refine kD ?_ | refine kA ?_ _)); exact BK113.out)⟩; have n1_ : Aside0 (Below w.heap.size w wc) := ⟨by rw [← hq_]; exact (by repeat (first | (with_reducible first | exact HB.out | apply bA | apply bN | apply bD | refine bS ?_ GE113.out) | exact HB.out))⟩; clear BK113 HB hq_; have BK113 := n0_; have HB := n1_; clear n0_ n1_)); have hcz36_0 : wc.cell? ⟨gb113, 0, none⟩ = some (.int .i64 0) := (kC BK113.out 0).trans rfl; have hcz36_1 : wc.cell? ⟨gb113, 1, none⟩ = some (.int .i64 0) := (kC BK113.out 1).trans rfl; have hfz36_0 := blk_frozen BK113.out 0; have hfz36_1 := blk_frozen BK113.out 1))
            refine bodyPost_ret (results_ct rfl _ _ gb113 34 #[.int .i64 0, .int .i64 0] (0, 0) _ rfl (by (with_reducible repeat (first | refine kN ?_ _ | refine kD ?_ | refine kA ?_ _)); refine blk_put (cs := #[.int .i64 0, .int .i64 0]) ?_ 1 _ rfl; (with_reducible repeat (first | refine kN ?_ _ | refine kD ?_ | refine kA ?_ _)); refine blk_put (cs := #[.int .i64 0, .int .i64 0]) ?_ 0 _ rfl; (with_reducible repeat (first | refine kN ?_ _ | refine kD ?_ | refine kA ?_ _)); exact BK113.out) Tryz.underlying34 rfl (by kernel_rfl)) rfl ?_
            exact ⟨by first | rfl | (simp [errW_none, errW_some] <;> rfl) | (simp [*, errW_none, errW_some] <;> rfl), by repeat (first | (with_reducible first | exact HB.out | apply bA | apply bN | apply bD | refine bS ?_ GE113.out) | exact HB.out)⟩
     ·rw [if_neg c13] at H
      exact absurd H (by simp)
    ·rw [if_neg c10] at H
     exact absurd H (by simp)

end Go.Proofs.YtlmeijlandogaaaGreatDoor.R
-- shrunk
-- tight
