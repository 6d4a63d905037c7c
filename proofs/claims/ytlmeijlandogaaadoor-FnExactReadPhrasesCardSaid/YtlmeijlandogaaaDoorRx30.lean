/- What functions of the given program compute, as plain Lean functions, and that the code comes to just that; by a program of this session over the kit's print. No condition. -/
import Derived.Test.YtlmeijlandogaaaDoorTight
import Derived.Test.YtlmeijlandogaaaDoorRx0
import Derived.Test.YtlmeijlandogaaaDoorRx11
import Derived.Test.YtlmeijlandogaaaDoorRx23
import Derived.Test.YtlmeijlandogaaaDoorRx17
namespace Go.Proofs.YtlmeijlandogaaaDoor.R
open Go.RowKit Go.Proofs.YtlmeijlandogaaaDoorW.PrintWords Go.Proofs.YtlmeijlandogaaaDoorW.PrintLast Go.Proofs.YtlmeijlandogaaaDoorW.PrintMore
open Go.Proofs.YtlmeijlandogaaaDoorW.PrintWords renaming below_alloc → bA, pw_below_drewN → bN, below_drew1 → bD, below_size → bZ, below_step → bP, gate_callee → gC, below_set → bS, blk_cell → kC
open Go.Proofs.YtlmeijlandogaaaDoorW.PrintWords.Kd renaming R_alloc → rA, R_drewN → rN, R_drew → rD, C_alloc → cA, C_drewN → cN, C_drew → cD, R_lower → rL, R_below → rB, R_mono → rM
open List renaming set_cons_zero → sZ
attribute [local go_sem] max2_int min2_int max_two min_two max_three min_three max_four min_four   -- for this text's walks alone
set_option linter.unusedVariables false
set_option linter.unusedSimpArgs false

/-! ### impl_ReadPhrases: function 9 -/
def impl_ReadPhrases.l0 : Nat → ByteArray → List (List Int) → List ByteArray → Int → Int → Option ((List (List Int)) × Bool)
 | 0, _, _, _, _, _ => none
 | k + 1, x0, x4, x12, x13, x14 => if x14 < x13 then (if 0 ≤ x14 then (if x14 < (x12.length : Int) then ((impl_ReadList.f k (rdOf ByteArray.empty x12 x14)).bind fun bt399 => (if bt399.2 = true then (if x4.length < 5864062014805 then (impl_ReadPhrases.l0 k x0 (x4 ++ [bt399.1]) x12 x13 (wrap64 (x14 + 1))) else (none)) else (some (([] : List (List Int)), false)))) else (none)) else (none)) else ((impl_PhrasesText.f k x4).bind fun t406 => (if t406.toList = x0.toList then (some (x4, true)) else (some (([] : List (List Int)), false))))
def impl_ReadPhrases.f (k : Nat) (a0 : ByteArray) : Option ((List (List Int)) × Bool) := if a0.toList = ([] : List UInt8) then (some (([] : List (List Int)), true)) else ((strings_SplitN.f a0 (⟨#[59]⟩ : ByteArray) 13).bind fun t395 => (impl_ReadPhrases.l0 k a0 ([] : List (List Int)) t395 (t395.length : Int) 0))
theorem impl_ReadPhrases.mono_l : ∀ k, (∀ y0 y1 y2 y3 y4, LeO (impl_ReadPhrases.l0 k y0 y1 y2 y3 y4) (impl_ReadPhrases.l0 (k + 1) y0 y1 y2 y3 y4))
 | 0 => fun _ _ _ _ _ r h => by simp [impl_ReadPhrases.l0] at h
 | k + 1 => by
  have ih0 := impl_ReadPhrases.mono_l k
  ·intro y0 y1 y2 y3 y4
   unfold impl_ReadPhrases.l0
   repeat' first
   | (with_reducible exact ih0 _ _ _ _ _)
   | (with_reducible exact impl_PhrasesText.mono _ _)
   | (with_reducible exact impl_ReadList.mono _ _)
   | (with_reducible exact LeO.refl _)
   | (with_reducible exact LeO.none _)
   | (with_reducible refine LeO.ite ?_ ?_)
   | (with_reducible refine LeO.bind ?_ (fun _ => ?_))
   | exact ih0 _ _ _ _ _
   | exact impl_PhrasesText.mono _ _
   | exact impl_ReadList.mono _ _
   | exact LeO.none _
   | refine LeO.ite ?_ ?_
   | refine LeO.bind ?_ (fun _ => ?_)
theorem impl_ReadPhrases.mono : ∀ a0 k, LeO (impl_ReadPhrases.f k a0) (impl_ReadPhrases.f (k + 1) a0) := by
 intro a0 k
 have ih0 := impl_ReadPhrases.mono_l k
 unfold impl_ReadPhrases.f
 repeat' first
   | (with_reducible exact ih0 _ _ _ _ _)
   | (with_reducible exact impl_PhrasesText.mono _ _)
   | (with_reducible exact impl_ReadList.mono _ _)
   | (with_reducible exact LeO.refl _)
   | (with_reducible exact LeO.none _)
   | (with_reducible refine LeO.ite ?_ ?_)
   | (with_reducible refine LeO.bind ?_ (fun _ => ?_))
   | exact ih0 _ _ _ _ _
   | exact impl_PhrasesText.mono _ _
   | exact impl_ReadList.mono _ _
   | exact LeO.none _
   | refine LeO.ite ?_ ?_
   | refine LeO.bind ?_ (fun _ => ?_)
set_option maxHeartbeats 8000000 in
set_option maxRecDepth 100000 in
theorem impl_ReadPhrases.calls (k : Nat) (a0 : ByteArray) (r1 : List (List Int)) (r2 : Bool) (w : World) (hT : TabR w) (h : impl_ReadPhrases.f k a0 = some (r1, r2)) :
  Calls Tryd.prog 9 #[.string a0] w fun e w' => ∃ v0_ : Value, e = .returned (.tuple #[v0_, .bool r2]) ∧ Kd.S (Kd.slice 2 (Kd.int .i64)) 28 w' w.heap.size (fun _ => True) v0_ r1 ∧ Below w.heap.size w w' := by
 have HB := Aside0.mk (Below.refl w.heap.size w)
 have H : (if a0.toList = ([] : List UInt8) then (some (([] : List (List Int)), true)) else ((strings_SplitN.f a0 (⟨#[59]⟩ : ByteArray) 13).bind fun t395 => (impl_ReadPhrases.l0 k a0 ([] : List (List Int)) t395 (t395.length : Int) 0))) = some (r1, r2) := h
 clear h
 by_cases c2 : a0.toList = ([] : List UInt8)
 ·rw [if_pos c2] at H
  have c2b0 : (a0.toList == ([] : List UInt8)) = true := beq_iff_eq.mpr c2
  have c2b1 : (a0.toList != ([] : List UInt8)) = false := bne_eq_false_iff_eq.mpr c2
  clear c2
  simp only [Option.some.injEq, Prod.mk.injEq] at H
  obtain ⟨rfl, rfl⟩ := H
  go_enter Tryd.func9, Tryd.ntmps9
  go_wp2
  go_ret2
  exact ⟨_, by first | rfl | (simp [errW_none, errW_some] <;> rfl) | (simp [*, errW_none, errW_some] <;> rfl), by first | exact Kd.S_nil _ _ _ _ _ | exact Kd.N_nil _ _ _ _ _ | exact Kd.V_nil _ _ _ _ _ | exact Kd.Q_nil _ _ _ _ _ | exact Kd.R_nil _ _ _ _ _, hQ HB⟩
 ·rw [if_neg c2] at H
  have c2b0 : (a0.toList == ([] : List UInt8)) = false := beq_eq_false_iff_ne.mpr c2
  have c2b1 : (a0.toList != ([] : List UInt8)) = true := bne_iff_ne.mpr c2
  replace H := Option.bind_eq_some_iff.mp H
  obtain ⟨t395, A30, H⟩ := H
  replace H : (impl_ReadPhrases.l0 k a0 ([] : List (List Int)) t395 (t395.length : Int) 0) = some (r1, r2) := H
  have A3 := Aside0.mk A30
  clear A30
  have H' := Aside0.mk H
  clear H
  go_enter Tryd.func9, Tryd.ntmps9
  go_wp2_with (first | ((with_reducible refine gC (f := 31) rfl ?_); refine goesL_ (some 12) rfl rfl Tryd.func31 (by kernel_rfl) rfl #[.string a0, .string (⟨#[59]⟩ : ByteArray), .int .i64 13] rfl lQ ?_; (with_reducible refine (strings_SplitN.calls a0 (⟨#[59]⟩ : ByteArray) 13 t395 _ (by first | exact hT | exact TabR.below hT HB.out | exact TabR.below hT (hQ HB) | exact TabR.below hT (Below.refl _ _)) A3.out).mono ?_); rintro e w4 ⟨v396, rfl, ho0, hb⟩; refine ⟨_, rfl, ?_⟩; have z_ := bX hb (hQ HB); have n0_ := Aside0.mk (rL ho0 (bZ z_)); have n1_ := Aside0.mk (bP z_ hb); clear HB; have HO397 := n0_; have HB := n1_; clear z_ n0_ n1_; (try clear hb); (try clear hb2); (try clear hk); (try clear hi); (try clear ho0); obtain ⟨Ao5, co5, eo5⟩ := Kd.R_slice HO397.out; subst eo5))
  go_loopg [4, 14] k (fun kq v4 v14 w' => ∃ (x4_1 : List (List Int)) (x14_1 : Int), v14 = .int .i64 x14_1 ∧ Aside0 (impl_ReadPhrases.l0 kq a0 x4_1 t395 (t395.length : Int) x14_1 = some (r1, r2)) ∧ Aside0 (kq ≤ k) ∧ Aside0 (Kd.S (Kd.slice 2 (Kd.int .i64)) 28 w' w.heap.size (fun _ => True) v4 x4_1) ∧ Aside0 (Kd.R Kd.string 9 w' w.heap.size (fun _ => True) (.slice Ao5 t395.length co5) t395) ∧ Aside0 (Below w.heap.size w w'))
  case atStart => exact ⟨(([] : List (List Int))), (0), eT, H', ⟨Nat.le_refl _⟩, ⟨by first | exact Kd.S_nil _ _ _ _ _ | exact Kd.N_nil _ _ _ _ _ | exact Kd.V_nil _ _ _ _ _ | exact Kd.Q_nil _ _ _ _ _ | exact Kd.R_nil _ _ _ _ _⟩, ⟨rQ HO397⟩, ⟨hQ HB⟩⟩
  case round =>
   clear H'
   try clear c2
   try clear c2b0
   try clear c2b1
   try clear p2
   try clear c3
   obtain ⟨x4_1, x14_1, rfl, HA, HK1, HO_4, HO_12, HB⟩ := hrel
   cases gk with
   | zero => exact absurd HA.out (by simp [impl_ReadPhrases.l0])
   | succ k1 =>
    have H := HA.out
    clear HA
    simp only [impl_ReadPhrases.l0] at H
    by_cases c6 : x14_1 < (t395.length : Int)
    ·rw [if_pos c6] at H
     have c6b0 : decide (x14_1 < (t395.length : Int)) = true := decide_eq_true c6
     clear c6
     by_cases c7 : 0 ≤ x14_1
     ·rw [if_pos c7] at H
      have c7b0 : decide (0 ≤ x14_1) = true := decide_eq_true c7
      clear c7
      by_cases c8 : x14_1 < (t395.length : Int)
      ·rw [if_pos c8] at H
       have c8b0 : decide (x14_1 < (t395.length : Int)) = true := decide_eq_true c8
       clear c8
       replace H := Option.bind_eq_some_iff.mp H
       obtain ⟨⟨t399, t400⟩, A90, H⟩ := H
       replace H : (if t400 = true then (if x4_1.length < 5864062014805 then (impl_ReadPhrases.l0 k1 a0 (x4_1 ++ [t399]) t395 (t395.length : Int) (wrap64 (x14_1 + 1))) else (none)) else (some (([] : List (List Int)), false))) = some (r1, r2) := H
       have A9 := Aside0.mk A90
       clear A90
       by_cases c10 : t400 = true
       ·subst c10
        have H1 : (if x4_1.length < 5864062014805 then (impl_ReadPhrases.l0 k1 a0 (x4_1 ++ [t399]) t395 (t395.length : Int) (wrap64 (x14_1 + 1))) else (none)) = some (r1, r2) := by rw [if_pos rfl] at H; exact H
        clear H
        have H := H1
        clear H1
        by_cases c11 : x4_1.length < 5864062014805
        ·rw [if_pos c11] at H
         have LMc11 := Aside0.mk c11
         clear c11
         obtain ⟨y403, hy403⟩ : ∃ y_ : List (List Int), y_ = (x4_1 ++ [t399]) := ⟨_, rfl⟩
         replace H : (impl_ReadPhrases.l0 k1 a0 y403 t395 (t395.length : Int) (wrap64 (x14_1 + 1))) = some (r1, r2) := by first | (rw [hy403]; with_reducible exact H) | (have H2_ := (Option.bind_some _ _).symm.trans H; rw [hy403]; with_reducible exact H2_) | (have H2_ := (Option.bind_some _ _).symm.trans H; with_reducible exact H2_) | with_reducible exact H | (rw [hy403]; exact H) | exact H
         have Ny403 := Aside0.mk hy403
         clear hy403
         have H' := Aside0.mk H
         clear H
         have p398 : 0 ≤ (x14_1 : Int) := oT
         have q398 : x14_1 < (t395.length : Int) := oT
         obtain ⟨ad398, e398, hx398_0⟩ := Kd.at_string (Kd.R_reads' HO_12.out).2.2 x14_1 p398 q398
         cases e398
         replace p398 := eq_true p398
         replace q398 := eq_true q398
         go_wp2_with (first | ((with_reducible refine gC (f := 32) rfl ?_); refine goesL_ (some 20) rfl rfl Tryd.func32 (by kernel_rfl) rfl #[.string (rdOf ByteArray.empty t395 x14_1)] rfl lQ ?_; (with_reducible refine (impl_ReadList.calls k1 (rdOf ByteArray.empty t395 x14_1) t399 true _ (by first | exact hT | exact TabR.below hT HB.out | exact TabR.below hT (hQ HB) | exact TabR.below hT (Below.refl _ _)) A9.out).mono ?_); rintro e w12 ⟨v401, rfl, ho0, hb⟩; refine ⟨_, rfl, ?_⟩; have z_ := bX hb (hQ HB); have n0_ := Aside0.mk (Kd.S_elder' (by (with_reducible repeat (first | apply Kd.S_alloc | apply Kd.S_drewN | apply Kd.S_drew)); exact HO_4.out) (Kd.R_base ho0) hb); have n1_ := Aside0.mk (rB (rQ HO_12) hb); have n2_ := Aside0.mk (rL ho0 (bZ z_)); have n3_ := Aside0.mk (bP z_ hb); clear HO_4; clear HO_12; clear HB; have HO_4 := n0_; have HO_12 := n1_; have HO402 := n2_; have HB := n3_; clear z_ n0_ n1_ n2_ n3_; (try clear hb); (try clear hb2); (try clear hk); (try clear hi); (try clear ho0); obtain ⟨Ao14, co14, eo14⟩ := Kd.R_slice HO402.out; subst eo14) | ((with_reducible refine gate_builtin (b := .append) (xs := #[.tmp 25, .tmp 27]) rfl ?_); at_builtin; refine Kd.S_append (Kd.slice 2 (Kd.int .i64)) (w0 := w) w.heap.size rfl (.tmp 25) (.tmp 27) 22 28 (.slice none 0 0) 24 rfl Tryd.underlying22 info28 rfl (by decide) (by omega) u4 x4_1 t399 [.slice Ao14 t399.length co14] (fun _ => True) (fun k_ => some k_ = (.slice Ao14 t399.length co14 : Value).ownBlock) rfl rfl ?aP (fun k_ hk_ => ((rM (ok' := fun k_ => ((fun _ => True)) k_ ∧ some k_ ≠ (u4 : Value).ownBlock) (Kd.R_apart' (HO402.out) (Kd.S_typed HO_4.out) (by decide)) (fun k_ hk => ⟨trivial, hk.2⟩))).1 k_ hk_.symm) ?aF ?aO ?aB ?aS ?aL ?_; (case aP => exact Kd.M_row (rM (Kd.R_tight rfl (rM (ok' := fun k_ => ((fun _ => True)) k_ ∧ some k_ ≠ (u4 : Value).ownBlock) (Kd.R_apart' (HO402.out) (Kd.S_typed HO_4.out) (by decide)) (fun k_ hk => ⟨trivial, hk.2⟩))) (fun _ h_ => h_))); (case aB => exact (hQ HB)); (case aF => exact (fun _ _ => trivial)); (case aO => exact (by (with_reducible repeat (first | apply Kd.S_alloc | apply Kd.S_drewN | apply Kd.S_drew)); exact Kd.S_mono HO_4.out (fun k_ hk => ⟨trivial, fun e_ => hk.2 e_⟩))); (case aS => exact (bZ (hQ HB))); (case aL => have := LMc11.out; omega); intro v404 w13 ho hb hg hat; rw [← Ny403.out] at ho; have n0_ := Aside0.mk (Kd.R_over' (rQ HO_12) (Kd.S_typed (by (with_reducible repeat (first | apply Kd.S_alloc | apply Kd.S_drewN | apply Kd.S_drew)); exact HO_4.out)) (by decide) hg); have n1_ := Aside0.mk (hb); have n2_ := Aside0.mk (ho); clear HO_12; clear HB; clear HO_4; clear HO402; have HO_12 := n0_; have HB := n1_; have HO405 := n2_; clear n0_ n1_ n2_; clear ho hb hg hat))
         go_roundg k1
         case measure => have := HK1.out; omega
         case rel => exact ⟨(y403), (wrap64 (x14_1 + 1)), eT, H', ⟨by have := HK1.out; omega⟩, ⟨by (with_reducible repeat (first | apply Kd.S_alloc | apply Kd.S_drewN | apply Kd.S_drew)); exact HO405.out⟩, ⟨rQ HO_12⟩, ⟨hQ HB⟩⟩
        ·rw [if_neg c11] at H
         exact absurd H (by simp)
       ·replace c10 := Bool.eq_false_iff.mpr c10
        subst c10
        have H1 : (some (([] : List (List Int)), false)) = some (r1, r2) := by rw [if_neg (show ¬ (false = true) by decide)] at H; exact H
        clear H
        have H := H1
        clear H1
        simp only [Option.some.injEq, Prod.mk.injEq] at H
        obtain ⟨rfl, rfl⟩ := H
        have p398 : 0 ≤ (x14_1 : Int) := oT
        have q398 : x14_1 < (t395.length : Int) := oT
        obtain ⟨ad398, e398, hx398_0⟩ := Kd.at_string (Kd.R_reads' HO_12.out).2.2 x14_1 p398 q398
        cases e398
        replace p398 := eq_true p398
        replace q398 := eq_true q398
        go_wp2_with (first | ((with_reducible refine gC (f := 32) rfl ?_); refine goesL_ (some 20) rfl rfl Tryd.func32 (by kernel_rfl) rfl #[.string (rdOf ByteArray.empty t395 x14_1)] rfl lQ ?_; (with_reducible refine (impl_ReadList.calls k1 (rdOf ByteArray.empty t395 x14_1) t399 false _ (by first | exact hT | exact TabR.below hT HB.out | exact TabR.below hT (hQ HB) | exact TabR.below hT (Below.refl _ _)) A9.out).mono ?_); rintro e w15 ⟨v401, rfl, ho0, hb⟩; refine ⟨_, rfl, ?_⟩; have z_ := bX hb (hQ HB); have n0_ := Aside0.mk (Kd.S_elder' (by (with_reducible repeat (first | apply Kd.S_alloc | apply Kd.S_drewN | apply Kd.S_drew)); exact HO_4.out) (Kd.R_base ho0) hb); have n1_ := Aside0.mk (rB (rQ HO_12) hb); have n2_ := Aside0.mk (rL ho0 (bZ z_)); have n3_ := Aside0.mk (bP z_ hb); clear HO_4; clear HO_12; clear HB; have HO_4 := n0_; have HO_12 := n1_; have HO402 := n2_; have HB := n3_; clear z_ n0_ n1_ n2_ n3_; (try clear hb); (try clear hb2); (try clear hk); (try clear hi); (try clear ho0)))
        go_ret2
        exact ⟨_, by first | rfl | (simp [errW_none, errW_some] <;> rfl) | (simp [*, errW_none, errW_some] <;> rfl), by first | exact Kd.S_nil _ _ _ _ _ | exact Kd.N_nil _ _ _ _ _ | exact Kd.V_nil _ _ _ _ _ | exact Kd.Q_nil _ _ _ _ _ | exact Kd.R_nil _ _ _ _ _, hQ HB⟩
      ·rw [if_neg c8] at H
       exact absurd H (by simp)
     ·rw [if_neg c7] at H
      exact absurd H (by simp)
    ·rw [if_neg c6] at H
     have c6b0 : decide (x14_1 < (t395.length : Int)) = false := decide_eq_false c6
     clear c6
     replace H := Option.bind_eq_some_iff.mp H
     obtain ⟨t406, A160, H⟩ := H
     replace H : (if t406.toList = a0.toList then (some (x4_1, true)) else (some (([] : List (List Int)), false))) = some (r1, r2) := H
     have A16 := Aside0.mk A160
     clear A160
     by_cases c17 : t406.toList = a0.toList
     ·rw [if_pos c17] at H
      have c17b0 : (t406.toList == a0.toList) = true := beq_iff_eq.mpr c17
      have c17b1 : (t406.toList != a0.toList) = false := bne_eq_false_iff_eq.mpr c17
      clear c17
      simp only [Option.some.injEq, Prod.mk.injEq] at H
      obtain ⟨rfl, rfl⟩ := H
      obtain ⟨Ao18, co18, eo18⟩ := Kd.S_slice HO_4.out
      subst eo18
      go_wp2_with (first | ((with_reducible refine gC (f := 33) rfl ?_); refine goesL_ (some 31) rfl rfl Tryd.func33 (by kernel_rfl) rfl #[.slice Ao18 x4_1.length co18] rfl lQ ?_; (with_reducible refine (impl_PhrasesText.calls k1 _ _ x4_1 t406 _ ?side1 ?side2 (by first | exact hT | exact TabR.below hT HB.out | exact TabR.below hT (hQ HB) | exact TabR.below hT (Below.refl _ _)) A16.out).mono ?_); (case side1 => exact cP (Kd.S_reads' HO_4.out).2.2); (case side2 => exact (Kd.S_reads' HO_4.out).2.1); rintro e w19 ⟨rfl, hb⟩; refine ⟨_, rfl, ?_⟩; have n0_ := Aside0.mk (Kd.S_below (by (with_reducible repeat (first | apply Kd.S_alloc | apply Kd.S_drewN | apply Kd.S_drew)); exact HO_4.out) hb); have n1_ := Aside0.mk (rB (rQ HO_12) hb); have n2_ := Aside0.mk (bP (hQ HB) hb); clear HO_4; clear HO_12; clear HB; have HO_4 := n0_; have HO_12 := n1_; have HB := n2_; clear n0_ n1_ n2_; (try clear hb); (try clear hb2); (try clear hk); (try clear hi)))
      go_ret2
      exact ⟨_, by first | rfl | (simp [errW_none, errW_some] <;> rfl) | (simp [*, errW_none, errW_some] <;> rfl), by (with_reducible repeat (first | apply Kd.S_alloc | apply Kd.S_drewN | apply Kd.S_drew)); exact HO_4.out, hQ HB⟩
     ·rw [if_neg c17] at H
      have c17b0 : (t406.toList == a0.toList) = false := beq_eq_false_iff_ne.mpr c17
      have c17b1 : (t406.toList != a0.toList) = true := bne_iff_ne.mpr c17
      simp only [Option.some.injEq, Prod.mk.injEq] at H
      obtain ⟨rfl, rfl⟩ := H
      obtain ⟨Ao20, co20, eo20⟩ := Kd.S_slice HO_4.out
      subst eo20
      go_wp2_with (first | ((with_reducible refine gC (f := 33) rfl ?_); refine goesL_ (some 31) rfl rfl Tryd.func33 (by kernel_rfl) rfl #[.slice Ao20 x4_1.length co20] rfl lQ ?_; (with_reducible refine (impl_PhrasesText.calls k1 _ _ x4_1 t406 _ ?side1 ?side2 (by first | exact hT | exact TabR.below hT HB.out | exact TabR.below hT (hQ HB) | exact TabR.below hT (Below.refl _ _)) A16.out).mono ?_); (case side1 => exact cP (Kd.S_reads' HO_4.out).2.2); (case side2 => exact (Kd.S_reads' HO_4.out).2.1); rintro e w21 ⟨rfl, hb⟩; refine ⟨_, rfl, ?_⟩; have n0_ := Aside0.mk (Kd.S_below (by (with_reducible repeat (first | apply Kd.S_alloc | apply Kd.S_drewN | apply Kd.S_drew)); exact HO_4.out) hb); have n1_ := Aside0.mk (rB (rQ HO_12) hb); have n2_ := Aside0.mk (bP (hQ HB) hb); clear HO_4; clear HO_12; clear HB; have HO_4 := n0_; have HO_12 := n1_; have HB := n2_; clear n0_ n1_ n2_; (try clear hb); (try clear hb2); (try clear hk); (try clear hi)))
      go_ret2
      exact ⟨_, by first | rfl | (simp [errW_none, errW_some] <;> rfl) | (simp [*, errW_none, errW_some] <;> rfl), by first | exact Kd.S_nil _ _ _ _ _ | exact Kd.N_nil _ _ _ _ _ | exact Kd.V_nil _ _ _ _ _ | exact Kd.Q_nil _ _ _ _ _ | exact Kd.R_nil _ _ _ _ _, hQ HB⟩


/-! ### laws_eqInt64SS: function 10 -/
def laws_eqInt64SS.l0 : Nat → List (List Int) → List (List Int) → Int → Option (Bool)
 | 0, _, _, _ => none
 | k + 1, x0, x1, x5 => if x5 < (x0.length : Int) then (if 0 ≤ x5 then (if x5 < (x1.length : Int) then ((laws_eqInt64S.f k (rd_L3 x0 x5) (rd_L3 x1 x5)).bind fun t409 => (if t409 = true then (laws_eqInt64SS.l0 k x0 x1 (wrap64 (x5 + 1))) else (some false))) else (none)) else (none)) else (some true)
def laws_eqInt64SS.f (k : Nat) (l0 : List (List Int)) (l1 : List (List Int)) : Option (Bool) := if (l0.length : Int) = (l1.length : Int) then (laws_eqInt64SS.l0 k l0 l1 0) else (some false)
theorem laws_eqInt64SS.mono_l : ∀ k, (∀ y0 y1 y2, LeO (laws_eqInt64SS.l0 k y0 y1 y2) (laws_eqInt64SS.l0 (k + 1) y0 y1 y2))
 | 0 => fun _ _ _ r h => by simp [laws_eqInt64SS.l0] at h
 | k + 1 => by
  have ih0 := laws_eqInt64SS.mono_l k
  ·intro y0 y1 y2
   unfold laws_eqInt64SS.l0
   repeat' first
   | (with_reducible exact ih0 _ _ _)
   | (with_reducible exact laws_eqInt64S.mono _ _ _)
   | (with_reducible exact LeO.refl _)
   | (with_reducible exact LeO.none _)
   | (with_reducible refine LeO.ite ?_ ?_)
   | (with_reducible refine LeO.bind ?_ (fun _ => ?_))
   | exact ih0 _ _ _
   | exact laws_eqInt64S.mono _ _ _
   | exact LeO.none _
   | refine LeO.ite ?_ ?_
   | refine LeO.bind ?_ (fun _ => ?_)
theorem laws_eqInt64SS.mono : ∀ a0 a1 k, LeO (laws_eqInt64SS.f k a0 a1) (laws_eqInt64SS.f (k + 1) a0 a1) := by
 intro a0 a1 k
 have ih0 := laws_eqInt64SS.mono_l k
 unfold laws_eqInt64SS.f
 repeat' first
   | (with_reducible exact ih0 _ _ _)
   | (with_reducible exact laws_eqInt64S.mono _ _ _)
   | (with_reducible exact LeO.refl _)
   | (with_reducible exact LeO.none _)
   | (with_reducible refine LeO.ite ?_ ?_)
   | (with_reducible refine LeO.bind ?_ (fun _ => ?_))
   | exact ih0 _ _ _
   | exact laws_eqInt64S.mono _ _ _
   | exact LeO.none _
   | refine LeO.ite ?_ ?_
   | refine LeO.bind ?_ (fun _ => ?_)
set_option maxHeartbeats 8000000 in
set_option maxRecDepth 100000 in
theorem laws_eqInt64SS.calls (k : Nat) (A0 : Option Addr) (c0 : Nat) (l0 : List (List Int)) (A1 : Option Addr) (c1 : Nat) (l1 : List (List Int)) (r : Bool) (w : World) (hr0 : Kd.C (Kd.slice 2 (Kd.int .i64)) w A0 l0.length l0) (hc0 : l0.length ≤ c0) (hr1 : Kd.C (Kd.slice 2 (Kd.int .i64)) w A1 l1.length l1) (hc1 : l1.length ≤ c1) (h : laws_eqInt64SS.f k l0 l1 = some r) :
  Calls Tryd.prog 10 #[.slice A0 l0.length c0, .slice A1 l1.length c1] w fun e w' => e = .returned (.bool r) ∧ Drawn0 w w' := by
 have HR0 := Aside0.mk hr0
 have HC0 := Aside0.mk hc0
 clear hr0 hc0
 have HR1 := Aside0.mk hr1
 have HC1 := Aside0.mk hc1
 clear hr1 hc1
 have H : (if (l0.length : Int) = (l1.length : Int) then (laws_eqInt64SS.l0 k l0 l1 0) else (some false)) = some r := h
 clear h
 by_cases c3 : (l0.length : Int) = (l1.length : Int)
 ·rw [if_pos c3] at H
  have c3b0 : ((l0.length : Int) == (l1.length : Int)) = true := beq_iff_eq.mpr c3
  have c3b1 : ((l0.length : Int) != (l1.length : Int)) = false := bne_eq_false_iff_eq.mpr c3
  have c3b2 : (l0.length == l1.length) = true := by first | simpa using c3 | (simp at c3 ⊢; omega)
  clear c3
  have H' := Aside0.mk H
  clear H
  go_enter Tryd.func10, Tryd.ntmps10
  go_wp2
  repeat (go_quiet (fail); try go_wp2)
  go_loopg [5] k (fun kq v5 w' => ∃ (x5_1 : Int), v5 = .int .i64 x5_1 ∧ Aside0 (laws_eqInt64SS.l0 kq l0 l1 x5_1 = some r) ∧ Aside0 (kq ≤ k) ∧ Drawn0 w w')
  case atStart => exact ⟨(0), eT, H', ⟨Nat.le_refl _⟩, dR⟩
  case round =>
   clear H'
   try clear c1
   try clear p2
   try clear c3
   try clear c3b0
   try clear c3b1
   try clear c3b2
   obtain ⟨x5_1, rfl, HA, HK1, ⟨m1, rfl⟩⟩ := hrel
   cases gk with
   | zero => exact absurd HA.out (by simp [laws_eqInt64SS.l0])
   | succ k1 =>
    have H := HA.out
    clear HA
    simp only [laws_eqInt64SS.l0] at H
    by_cases c4 : x5_1 < (l0.length : Int)
    ·rw [if_pos c4] at H
     have c4b0 : decide (x5_1 < (l0.length : Int)) = true := decide_eq_true c4
     clear c4
     by_cases c5 : 0 ≤ x5_1
     ·rw [if_pos c5] at H
      have c5b0 : decide (0 ≤ x5_1) = true := decide_eq_true c5
      clear c5
      by_cases c6 : x5_1 < (l1.length : Int)
      ·rw [if_pos c6] at H
       have c6b0 : decide (x5_1 < (l1.length : Int)) = true := decide_eq_true c6
       clear c6
       replace H := Option.bind_eq_some_iff.mp H
       obtain ⟨t409, A70, H⟩ := H
       replace H : (if t409 = true then (laws_eqInt64SS.l0 k1 l0 l1 (wrap64 (x5_1 + 1))) else (some false)) = some r := H
       have A7 := Aside0.mk A70
       clear A70
       by_cases c8 : t409 = true
       ·subst c8
        have H1 : (laws_eqInt64SS.l0 k1 l0 l1 (wrap64 (x5_1 + 1))) = some r := by rw [if_pos rfl] at H; exact H
        clear H
        have H := H1
        clear H1
        have H' := Aside0.mk H
        clear H
        have p407 : 0 ≤ (x5_1 : Int) := oT
        have q407 : x5_1 < (l0.length : Int) := oT
        obtain ⟨ad407, A407_0, c407_0, e407, hx407_0, hl407_0, hi407_0⟩ := at_L3 HR0.out x5_1 p407 q407
        cases e407
        have HR407_0 := Aside0.mk hi407_0
        have HC407_0 := Aside0.mk hl407_0
        clear hi407_0 hl407_0
        replace p407 := eq_true p407
        replace q407 := eq_true q407
        have p408 : 0 ≤ (x5_1 : Int) := oT
        have q408 : x5_1 < (l1.length : Int) := oT
        obtain ⟨ad408, A408_0, c408_0, e408, hx408_0, hl408_0, hi408_0⟩ := at_L3 HR1.out x5_1 p408 q408
        cases e408
        have HR408_0 := Aside0.mk hi408_0
        have HC408_0 := Aside0.mk hl408_0
        clear hi408_0 hl408_0
        replace p408 := eq_true p408
        replace q408 := eq_true q408
        go_wp2_with (first | (go_at_call 34; (with_reducible refine (laws_eqInt64S.calls k1 _ _ (rd_L3 l0 x5_1) _ _ (rd_L3 l1 x5_1) true _ ?side1 ?side2 ?side3 ?side4 A7.out).mono ?_); (case side1 => exact cQ HR407_0); (case side2 => exact HC407_0.out); (case side3 => exact cQ HR408_0); (case side4 => exact HC408_0.out); rintro e w' ⟨rfl, ⟨nd, rfl⟩⟩; (try first | exact ⟨rfl, _, dN⟩ | exact ⟨rfl, _, dM⟩)))
        repeat (go_quiet (first | (go_at_call 34; (with_reducible refine (laws_eqInt64S.calls k1 _ _ (rd_L3 l0 x5_1) _ _ (rd_L3 l1 x5_1) true _ ?side1 ?side2 ?side3 ?side4 A7.out).mono ?_); (case side1 => exact cQ HR407_0); (case side2 => exact HC407_0.out); (case side3 => exact cQ HR408_0); (case side4 => exact HC408_0.out); rintro e w' ⟨rfl, ⟨nd, rfl⟩⟩; (try first | exact ⟨rfl, _, dN⟩ | exact ⟨rfl, _, dM⟩))); try go_wp2_with (first | (go_at_call 34; (with_reducible refine (laws_eqInt64S.calls k1 _ _ (rd_L3 l0 x5_1) _ _ (rd_L3 l1 x5_1) true _ ?side1 ?side2 ?side3 ?side4 A7.out).mono ?_); (case side1 => exact cQ HR407_0); (case side2 => exact HC407_0.out); (case side3 => exact cQ HR408_0); (case side4 => exact HC408_0.out); rintro e w' ⟨rfl, ⟨nd, rfl⟩⟩; (try first | exact ⟨rfl, _, dN⟩ | exact ⟨rfl, _, dM⟩))))
        go_roundg k1
        case measure => have := HK1.out; omega
        case rel => exact ⟨(wrap64 (x5_1 + 1)), eT, H', ⟨by have := HK1.out; omega⟩, dR⟩
       ·replace c8 := Bool.eq_false_iff.mpr c8
        subst c8
        have H1 : (some false) = some r := by rw [if_neg (show ¬ (false = true) by decide)] at H; exact H
        clear H
        have H := H1
        clear H1
        obtain rfl := Option.some.inj H
        have p407 : 0 ≤ (x5_1 : Int) := oT
        have q407 : x5_1 < (l0.length : Int) := oT
        obtain ⟨ad407, A407_0, c407_0, e407, hx407_0, hl407_0, hi407_0⟩ := at_L3 HR0.out x5_1 p407 q407
        cases e407
        have HR407_0 := Aside0.mk hi407_0
        have HC407_0 := Aside0.mk hl407_0
        clear hi407_0 hl407_0
        replace p407 := eq_true p407
        replace q407 := eq_true q407
        have p408 : 0 ≤ (x5_1 : Int) := oT
        have q408 : x5_1 < (l1.length : Int) := oT
        obtain ⟨ad408, A408_0, c408_0, e408, hx408_0, hl408_0, hi408_0⟩ := at_L3 HR1.out x5_1 p408 q408
        cases e408
        have HR408_0 := Aside0.mk hi408_0
        have HC408_0 := Aside0.mk hl408_0
        clear hi408_0 hl408_0
        replace p408 := eq_true p408
        replace q408 := eq_true q408
        go_wp2_with (first | (go_at_call 34; (with_reducible refine (laws_eqInt64S.calls k1 _ _ (rd_L3 l0 x5_1) _ _ (rd_L3 l1 x5_1) false _ ?side1 ?side2 ?side3 ?side4 A7.out).mono ?_); (case side1 => exact cQ HR407_0); (case side2 => exact HC407_0.out); (case side3 => exact cQ HR408_0); (case side4 => exact HC408_0.out); rintro e w' ⟨rfl, ⟨nd, rfl⟩⟩; (try first | exact ⟨rfl, _, dN⟩ | exact ⟨rfl, _, dM⟩)))
        repeat (go_quiet (first | (go_at_call 34; (with_reducible refine (laws_eqInt64S.calls k1 _ _ (rd_L3 l0 x5_1) _ _ (rd_L3 l1 x5_1) false _ ?side1 ?side2 ?side3 ?side4 A7.out).mono ?_); (case side1 => exact cQ HR407_0); (case side2 => exact HC407_0.out); (case side3 => exact cQ HR408_0); (case side4 => exact HC408_0.out); rintro e w' ⟨rfl, ⟨nd, rfl⟩⟩; (try first | exact ⟨rfl, _, dN⟩ | exact ⟨rfl, _, dM⟩))); try go_wp2_with (first | (go_at_call 34; (with_reducible refine (laws_eqInt64S.calls k1 _ _ (rd_L3 l0 x5_1) _ _ (rd_L3 l1 x5_1) false _ ?side1 ?side2 ?side3 ?side4 A7.out).mono ?_); (case side1 => exact cQ HR407_0); (case side2 => exact HC407_0.out); (case side3 => exact cQ HR408_0); (case side4 => exact HC408_0.out); rintro e w' ⟨rfl, ⟨nd, rfl⟩⟩; (try first | exact ⟨rfl, _, dN⟩ | exact ⟨rfl, _, dM⟩))))
        go_ret
        exact ⟨eT, dR⟩
      ·rw [if_neg c6] at H
       exact absurd H (by simp)
     ·rw [if_neg c5] at H
      exact absurd H (by simp)
    ·rw [if_neg c4] at H
     have c4b0 : decide (x5_1 < (l0.length : Int)) = false := decide_eq_false c4
     clear c4
     obtain rfl := Option.some.inj H
     go_wp2
     repeat (go_quiet (fail); try go_wp2)
     go_ret
     exact ⟨eT, dR⟩
 ·rw [if_neg c3] at H
  have c3b0 : ((l0.length : Int) == (l1.length : Int)) = false := beq_eq_false_iff_ne.mpr c3
  have c3b1 : ((l0.length : Int) != (l1.length : Int)) = true := bne_iff_ne.mpr c3
  have c3b2 : (l0.length == l1.length) = false := by first | simpa using c3 | (simp at c3 ⊢; omega)
  obtain rfl := Option.some.inj H
  go_enter Tryd.func10, Tryd.ntmps10
  go_wp2
  repeat (go_quiet (fail); try go_wp2)
  go_ret
  exact ⟨eT, dR⟩


/-! ### laws_markInt64SS: function 11 -/
def mkA : Nat → Int → Int
 | 0, a => a
 | n + 1, a => mkA n (wrap64 (a + 1))
def mkS : List (List Int) → Int → Int
 | [], a => a
 | x :: l, a => mkS l (mkA x.length a)
def WRow (w : World) (base : Nat) (P : Nat → Prop) (v : Value) (n : Nat) : Prop := ∃ (A : Option Addr) (cap : Nat), v = .slice A n cap ∧ n ≤ maxLen ∧ (n = 0 ∨ ∃ (g : Nat) (cur : Array Value), A = some ⟨g, 0, none⟩ ∧ base ≤ g ∧ P g ∧ w.heap[g]? = some (.cells cur 2 (0, 0)) ∧ n ≤ cur.size)
theorem WRow.of_R {w : World} {base : Nat} {P : Nat → Prop} {v : Value} {xs : List Int} (h : Kd.R (Kd.int .i64) 2 w base P v xs) : WRow w base P v xs.length := by
 obtain ⟨h0, inner, ⟨_, h1⟩, _⟩ := h
 rcases h1 with ⟨rfl, hn⟩ | ⟨g, cap, cur, rfl, hg, hh, hn, hc, hs, _⟩
 ·rw [hn]
  exact ⟨none, 0, rfl, Nat.zero_le _, .inl rfl⟩
 ·exact ⟨_, cap, rfl, by omega, .inr ⟨g, cur, rfl, hg, h0 g rfl, hh, by rw [hs]; simp [Kd.int, Kd.scalar]; omega⟩⟩
theorem setCell_blk {w : World} {g : Nat} {cur : Array Value} {t : TypeId} (h : w.heap[g]? = some (.cells cur t (0, 0))) (i : Nat) (v : Value) : (w.setCell ⟨g, i, none⟩ v).heap[g]? = some (.cells (cur.setIfInBounds i v) t (0, 0)) := by
 simp [World.setCell, Array.getElem?_modify, h]
def SzK (w W : World) : Prop := ∀ (g : Nat) (cur : Array Value), w.heap[g]? = some (.cells cur 2 (0, 0)) → ∃ cur' : Array Value, W.heap[g]? = some (.cells cur' 2 (0, 0)) ∧ cur'.size = cur.size
theorem SzK.refl (w : World) : SzK w w := fun _ cur h => ⟨cur, h, rfl⟩
theorem SzK.trans {w W W2 : World} (h : SzK w W) (h2 : SzK W W2) : SzK w W2 := fun g cur e => by
 obtain ⟨c1, e1, s1⟩ := h g cur e
 obtain ⟨c2, e2, s2⟩ := h2 g c1 e1
 exact ⟨c2, e2, s2.trans s1⟩
theorem SzK.set {w : World} {g : Nat} {cur : Array Value} (hg : w.heap[g]? = some (.cells cur 2 (0, 0))) (i : Nat) (v : Value) : SzK w (w.setCell ⟨g, i, none⟩ v) := fun k c e => by
 by_cases hk : k = g
 ·subst hk
  rw [hg] at e
  cases e
  exact ⟨_, setCell_blk hg i v, by simp⟩
 ·exact ⟨c, (Below.heap_setCell w ⟨g, i, none⟩ v k hk).trans e, rfl⟩
theorem SzK.drew {w W : World} (h : SzK w W) (n : Nat) : SzK w (W.drewN n) := h
theorem WRow.szk {w W : World} {base : Nat} {P : Nat → Prop} {v : Value} {n : Nat} (h : WRow w base P v n) (hs : SzK w W) : WRow W base P v n := by
 obtain ⟨A, cap, rfl, hm, h⟩ := h
 refine ⟨A, cap, rfl, hm, ?_⟩
 rcases h with h | ⟨g, cur, e, hb, hp, hh, hn⟩
 ·exact .inl h
 ·obtain ⟨c, e2, e3⟩ := hs g cur hh
  exact .inr ⟨g, c, e, hb, hp, e2, by omega⟩
theorem kept_set {w W : World} {S : Nat → Prop} {g : Nat} (h : Kept w W S) (hg : S g) (i : Nat) (v : Value) : Kept w (W.setCell ⟨g, i, none⟩ v) S := ⟨by have := h.1; simpa [World.setCell] using this, fun k hk hs => (Below.heap_setCell W ⟨g, i, none⟩ v k (fun e => hs (by rw [e]; exact hg))).trans (h.2 k hk hs)⟩
set_option maxHeartbeats 1600000 in
set_option maxRecDepth 100000 in
theorem mk31 (A : Option Addr) (n cap : Nat) (a : Int) (P : Nat → Prop) (w0 w : World) (hB : Below w0.heap.size w0 w) (hr : WRow w w0.heap.size P (.slice A n cap) n) :
  Calls Tryd.prog 35 #[.slice A n cap, .int .i64 a] w fun e w' => e = .returned (.int .i64 (mkA n a)) ∧ Below w0.heap.size w0 w' ∧ Kept w w' (fun k => 0 < n ∧ some k = (Value.slice A n cap).ownBlock) ∧ SzK w w' := by
 have HBB := Aside0.mk hB
 have HR := Aside0.mk hr
 clear hB hr
 go_enter Tryd.func35, Tryd.ntmps35
 go_wp2
 go_loopw [1, 5] (fun v1 v5 wr => ∃ (i : Nat) (a' : Int), v1 = .int .i64 a' ∧ v5 = .int .i64 (i : Int) ∧ i ≤ n ∧ Aside0 (mkA (n - i) a' = mkA n a) ∧ Aside0 (Below w0.heap.size w0 wr) ∧ Aside0 (Kept w wr (fun k => 0 < n ∧ some k = (Value.slice A n cap).ownBlock)) ∧ Aside0 (SzK w wr)) (fun _ v5 _ => n - (intOf v5).toNat)
 case atStart => exact ⟨0, a, rfl, rfl, Nat.zero_le _, ⟨rfl⟩, HBB, ⟨Kept.refl _ _⟩, ⟨SzK.refl _⟩⟩
 case round =>
  obtain ⟨i, a', rfl, rfl, hi, HA, HB, HK, HS⟩ := hrel
  obtain ⟨A', cap', e, hm, hg⟩ := HR.out.szk HS.out
  cases e
  have hm2 : n ≤ 9223372036854775807 := hm
  by_cases hlt : i < n
  ·rcases hg with hg | ⟨g, cur, rfl, hb, hp, hh, hn⟩
   ·omega
   ·have hx : wr.cell? ⟨g, i, none⟩ = some cur[i] := (kC hh i).trans (Array.getElem?_eq_getElem (by omega))
    have hf := blk_frozen hh i
    have HH := Aside0.mk hh
    have HBG := Aside0.mk hb
    clear hh hm hb
    go_wp2
    go_roundw
    case rel => exact ⟨i + 1, wrap64 (a' + 1), rfl, by go_num, by omega, ⟨by rw [← HA.out, show n - i = (n - (i + 1)) + 1 by omega, mkA]⟩, ⟨bS HB.out HBG.out⟩, ⟨kept_set HK.out ⟨by omega, rfl⟩ _ _⟩, ⟨HS.out.trans (SzK.set HH.out _ _)⟩⟩
    case measure => simp [intOf]; omega
  ·go_wp2
   go_ret
   have e0 : mkA (n - i) a' = a' := by rw [show n - i = 0 by omega]; rfl
   exact ⟨by rw [show mkA n a = a' from HA.out.symm.trans e0]; rfl, HB.out, HK.out, HS.out⟩
theorem Kept.via {w W W2 : World} {S S2 : Nat → Prop} (h : Kept w W S) (h2 : Kept W W2 S2) (hs : ∀ k, S2 k → S k) : Kept w W2 S := ⟨Nat.le_trans h.1 h2.1, fun k hk hn => (h2.2 k (Nat.lt_of_lt_of_le hk h.1) (fun e => hn (hs k e))).trans (h.2 k hk hn)⟩
/-- The rows inside: by their places alone. -/
def Inner (w : World) (base : Nat) (P : Nat → Prop) (cells : List Value) (l : List (List Int)) : Prop := cells.length = l.length ∧ ∀ (j : Nat) (x : List Int) (v : Value), l[j]? = some x → cells[j]? = some v → WRow w base P v x.length
theorem Inner.szk {w W : World} {base : Nat} {P : Nat → Prop} {cells : List Value} {l : List (List Int)} (h : Inner w base P cells l) (hs : SzK w W) : Inner W base P cells l := ⟨h.1, fun j x v e1 e2 => (h.2 j x v e1 e2).szk hs⟩
theorem rows_open {w : World} {base : Nat} {P : Nat → Prop} {u : Value} {l : List (List Int)} (h : Kd.R (Kd.slice 2 (Kd.int .i64)) 28 w base P u l) : ∃ (A : Option Addr) (cap : Nat) (cells : List Value), u = .slice A l.length cap ∧ l.length ≤ maxLen ∧ (l.length = 0 ∨ ∃ (G : Nat) (cur : Array Value), A = some ⟨G, 0, none⟩ ∧ w.heap[G]? = some (.cells cur 28 (0, 0)) ∧ (∀ j, j < l.length → cur[j]? = cells[j]?) ∧ G < w.heap.size) ∧ Inner w base (fun k => P k ∧ some k ≠ u.ownBlock) cells l := by
 obtain ⟨h0, inner, ⟨hl, h1⟩, hr⟩ := h
 have hin : Inner w base (fun k => P k ∧ some k ≠ u.ownBlock) inner l := by
  refine ⟨by rw [hl]; simp [Kd.slice], fun j x v e1 e2 => ?_⟩
  have q := hr.2 j x e1
  have hs : (inner.drop (j * 1)).take 1 = [v] := by
   rw [Nat.mul_one]
   have hj : j < inner.length := (List.getElem?_eq_some_iff.1 e2).1
   rw [List.drop_eq_getElem_cons hj]
   simp [(List.getElem?_eq_some_iff.1 e2).2]
  rw [show (Kd.slice 2 (Kd.int .i64)).sz = 1 from rfl, hs] at q
  obtain ⟨v2, e, hR⟩ := q
  cases e
  exact WRow.of_R hR
 rcases h1 with ⟨rfl, hn⟩ | ⟨g, cap, cur, rfl, hg, hh, hn, hc, hs, ht⟩
 ·refine ⟨none, 0, inner, by rw [hn], by rw [hn]; exact Nat.zero_le _, .inl hn, hin⟩
 ·refine ⟨_, cap, inner, rfl, by omega, .inr ⟨g, cur, rfl, hh, fun j hj => ?_, (Array.getElem?_eq_some_iff.1 hh).1⟩, hin⟩
  rw [← ht, show (Kd.slice 2 (Kd.int .i64)).sz = 1 from rfl, Nat.mul_one, List.getElem?_take, if_pos hj, Array.getElem?_toList]
def Outer (w : World) (A : Option Addr) (n : Nat) (cells : List Value) : Prop := n = 0 ∨ ∃ (G : Nat) (cur : Array Value), A = some ⟨G, 0, none⟩ ∧ w.heap[G]? = some (.cells cur 28 (0, 0)) ∧ (∀ j, j < n → cur[j]? = cells[j]?) ∧ G < w.heap.size
theorem Outer.kept {w W : World} {A : Option Addr} {n : Nat} {cells : List Value} (h : Outer w A n cells) {base n2 : Nat} {P : Nat → Prop} {v : Value} (hv : WRow w base P v n2) (hk : Kept w W (fun k => 0 < n2 ∧ some k = v.ownBlock)) : Outer W A n cells := by
 rcases h with h | ⟨G, cur, rfl, hh, hc, hG⟩
 ·exact .inl h
 ·refine .inr ⟨G, cur, rfl, (hk.2 G hG fun e => ?_).trans hh, hc, Nat.lt_of_lt_of_le hG hk.1⟩
  obtain ⟨A2, c2, rfl, _, hq⟩ := hv
  rcases hq with hq | ⟨g, cu, rfl, _, _, hg, _⟩
  ·have := e.1
   omega
  ·obtain rfl := Option.some.inj e.2
   rw [hh] at hg
   simp at hg
set_option maxHeartbeats 1600000 in
set_option maxRecDepth 100000 in
theorem ss98 (P : Nat → Prop) (A : Option Addr) (cap : Nat) (cells : List Value) (l0 : List (List Int)) (a1 : Int) (w0 w : World) (hB : Below w0.heap.size w0 w) (hm : l0.length ≤ maxLen) (hg : Outer w A l0.length cells) (hi : Inner w w0.heap.size P cells l0) (hp : ∀ k, P k → some k ≠ (Value.slice A l0.length cap).ownBlock) :
  Calls Tryd.prog 11 #[.slice A l0.length cap, .int .i64 a1] w fun e w' => e = .returned (.int .i64 (mkS l0 a1)) ∧ Below w0.heap.size w0 w' ∧ Kept w w' P := by
 have HBB := Aside0.mk hB
 have HG := Aside0.mk hg
 have HI := Aside0.mk hi
 have HP := Aside0.mk hp
 have hm2 : l0.length ≤ 9223372036854775807 := hm
 clear hB hi hm hg hp
 go_enter Tryd.func11, Tryd.ntmps11
 go_wp2
 go_loopw [1, 5] (fun v1 v5 wr => ∃ (i : Nat) (a' : Int), v1 = .int .i64 a' ∧ v5 = .int .i64 (i : Int) ∧ i ≤ l0.length ∧ Aside0 (mkS (l0.drop i) a' = mkS l0 a1) ∧ Aside0 (Below w0.heap.size w0 wr) ∧ Aside0 (Kept w wr P) ∧ Aside0 (SzK w wr)) (fun _ v5 _ => l0.length - (intOf v5).toNat)
 case atStart => exact ⟨0, a1, rfl, rfl, Nat.zero_le _, ⟨rfl⟩, HBB, ⟨Kept.refl _ _⟩, ⟨SzK.refl _⟩⟩
 case round =>
  obtain ⟨i, a', rfl, rfl, hi, HA, HB, HK, HS⟩ := hrel
  by_cases hlt : i < l0.length
  ·rcases HG.out with hg | ⟨G, cur, rfl, hh, hc, hG⟩
   ·omega
   ·obtain ⟨A2, cap2, e2, hm3, hg2⟩ := HI.out.2 i l0[i] (cells[i]'(by rw [HI.out.1]; exact hlt)) (List.getElem?_eq_getElem hlt) (List.getElem?_eq_getElem _)
    have hh2 := (HK.out.2 G hG (fun e => HP.out G e rfl)).trans hh
    have hx : wr.cell? ⟨G, i, none⟩ = some (.slice A2 l0[i].length cap2) := (kC hh2 i).trans ((hc i hlt).trans (by rw [List.getElem?_eq_getElem (by rw [HI.out.1]; exact hlt), e2]))
    have HW := Aside0.mk (show WRow w w0.heap.size P (.slice A2 l0[i].length cap2) l0[i].length from ⟨A2, cap2, rfl, hm3, hg2⟩)
    clear hh2 hg2 hm3 e2 hc hh
    go_wp2_with (go_at_call 35; (with_reducible refine (mk31 A2 l0[i].length cap2 a' P w0 _ HB.out (HW.out.szk HS.out)).mono ?_); rintro e w' ⟨rfl, hb, hk, hs⟩; have n1_ := Aside0.mk (Kept.via HK.out hk (fun k e => by
     obtain ⟨A3, c3, e3, _, hq⟩ := HW.out
     cases e3
     rcases hq with hq | ⟨g, cu, rfl, _, hp, _⟩
     ·have := e.1
      omega
     ·obtain rfl := Option.some.inj e.2
      exact hp)); have n2_ := Aside0.mk hb; have n3_ := Aside0.mk (HS.out.trans hs); clear hb hk hs HB HK HS; have HB := n2_; have HK := n1_; have HS := n3_; clear n1_ n2_ n3_)
    go_roundw
    case rel => exact ⟨i + 1, mkA l0[i].length a', rfl, by go_num, by omega, ⟨by rw [← HA.out, List.drop_eq_getElem_cons hlt, mkS]⟩, HB, HK, HS⟩
    case measure => simp [intOf]; omega
  ·go_wp2
   go_ret
   have e0 : mkS (l0.drop i) a' = a' := by rw [List.drop_eq_nil_of_le (by omega)]; rfl
   exact ⟨by rw [show mkS l0 a1 = a' from HA.out.symm.trans e0]; rfl, HB.out, HK.out⟩
def laws_markInt64SS.f (l0 : List (List Int)) (a1 : Int) : Option Int := some (mkS l0 a1)
theorem laws_markInt64SS.calls (P0_ : Nat → Prop) (u9000_ : Value) (l0 : List (List Int)) (a1 : Int) (r : Int) (w0 w : World) (hB : Below w0.heap.size w0 w) (ho0 : Kd.R (Kd.slice 2 (Kd.int .i64)) 28 w w0.heap.size P0_ u9000_ l0) (h : laws_markInt64SS.f l0 a1 = some r) :
  Calls Tryd.prog 11 #[u9000_, .int .i64 a1] w fun e w' => e = .returned (.int .i64 r) ∧ Below w0.heap.size w0 w' ∧ Kept w w' (fun k_ => P0_ k_) := by
 obtain ⟨A, cap, cells, rfl, hm, hg, hi⟩ := rows_open ho0
 obtain rfl := Option.some.inj h
 exact (ss98 _ A cap cells l0 a1 w0 w hB hm hg hi (fun k hk => hk.2)).mono fun e w' ⟨h1, h2, h3⟩ => ⟨h1, h2, h3.1, fun k hk hn => h3.2 k hk (fun e => hn e.1)⟩

/-! ### laws_heldInt64SS: function 12 -/
def laws_heldInt64SS.l0 : Nat → List (List Int) → Int → Int → Option (Int)
 | 0, _, _, _ => none
 | k + 1, x0, x1, x5 => if x5 < (x0.length : Int) then (if 0 ≤ x5 then ((laws_heldInt64S.f k (rd_L3 x0 x5) x1).bind fun t411 => (if t411 < 0 then (some (-1)) else (laws_heldInt64SS.l0 k x0 t411 (wrap64 (x5 + 1))))) else (none)) else (some x1)
def laws_heldInt64SS.f (k : Nat) (l0 : List (List Int)) (a1 : Int) : Option (Int) := laws_heldInt64SS.l0 k l0 a1 0
theorem laws_heldInt64SS.mono_l : ∀ k, (∀ y0 y1 y2, LeO (laws_heldInt64SS.l0 k y0 y1 y2) (laws_heldInt64SS.l0 (k + 1) y0 y1 y2))
 | 0 => fun _ _ _ r h => by simp [laws_heldInt64SS.l0] at h
 | k + 1 => by
  have ih0 := laws_heldInt64SS.mono_l k
  ·intro y0 y1 y2
   unfold laws_heldInt64SS.l0
   repeat' first
   | (with_reducible exact ih0 _ _ _)
   | (with_reducible exact laws_heldInt64S.mono _ _ _)
   | (with_reducible exact LeO.refl _)
   | (with_reducible exact LeO.none _)
   | (with_reducible refine LeO.ite ?_ ?_)
   | (with_reducible refine LeO.bind ?_ (fun _ => ?_))
   | exact ih0 _ _ _
   | exact laws_heldInt64S.mono _ _ _
   | exact LeO.none _
   | refine LeO.ite ?_ ?_
   | refine LeO.bind ?_ (fun _ => ?_)
theorem laws_heldInt64SS.mono : ∀ a0 a1 k, LeO (laws_heldInt64SS.f k a0 a1) (laws_heldInt64SS.f (k + 1) a0 a1) := by
 intro a0 a1 k
 have ih0 := laws_heldInt64SS.mono_l k
 unfold laws_heldInt64SS.f
 repeat' first
   | (with_reducible exact ih0 _ _ _)
   | (with_reducible exact laws_heldInt64S.mono _ _ _)
   | (with_reducible exact LeO.refl _)
   | (with_reducible exact LeO.none _)
   | (with_reducible refine LeO.ite ?_ ?_)
   | (with_reducible refine LeO.bind ?_ (fun _ => ?_))
   | exact ih0 _ _ _
   | exact laws_heldInt64S.mono _ _ _
   | exact LeO.none _
   | refine LeO.ite ?_ ?_
   | refine LeO.bind ?_ (fun _ => ?_)
set_option maxHeartbeats 8000000 in
set_option maxRecDepth 100000 in
theorem laws_heldInt64SS.calls (k : Nat) (A0 : Option Addr) (c0 : Nat) (l0 : List (List Int)) (a1 : Int) (r : Int) (w : World) (hr0 : Kd.C (Kd.slice 2 (Kd.int .i64)) w A0 l0.length l0) (hc0 : l0.length ≤ c0) (h : laws_heldInt64SS.f k l0 a1 = some r) :
  Calls Tryd.prog 12 #[.slice A0 l0.length c0, .int .i64 a1] w fun e w' => e = .returned (.int .i64 r) ∧ Drawn0 w w' := by
 have HR0 := Aside0.mk hr0
 have HC0 := Aside0.mk hc0
 clear hr0 hc0
 have H : (laws_heldInt64SS.l0 k l0 a1 0) = some r := h
 clear h
 have H' := Aside0.mk H
 clear H
 go_enter Tryd.func12, Tryd.ntmps12
 go_wp2
 go_loopg [1, 5] k (fun kq v1 v5 w' => ∃ (x1_1 : Int) (x5_1 : Int), v1 = .int .i64 x1_1 ∧ v5 = .int .i64 x5_1 ∧ Aside0 (laws_heldInt64SS.l0 kq l0 x1_1 x5_1 = some r) ∧ Aside0 (kq ≤ k) ∧ Drawn0 w w')
 case atStart => exact ⟨(a1), (0), eT, eT, H', ⟨Nat.le_refl _⟩, dR⟩
 case round =>
  clear H'
  try clear c1
  try clear p2
  obtain ⟨x1_1, x5_1, rfl, rfl, HA, HK1, ⟨m1, rfl⟩⟩ := hrel
  cases gk with
  | zero => exact absurd HA.out (by simp [laws_heldInt64SS.l0])
  | succ k1 =>
   have H := HA.out
   clear HA
   simp only [laws_heldInt64SS.l0] at H
   by_cases c3 : x5_1 < (l0.length : Int)
   ·rw [if_pos c3] at H
    have c3b0 : decide (x5_1 < (l0.length : Int)) = true := decide_eq_true c3
    clear c3
    by_cases c4 : 0 ≤ x5_1
    ·rw [if_pos c4] at H
     have c4b0 : decide (0 ≤ x5_1) = true := decide_eq_true c4
     clear c4
     replace H := Option.bind_eq_some_iff.mp H
     obtain ⟨t411, A50, H⟩ := H
     replace H : (if t411 < 0 then (some (-1)) else (laws_heldInt64SS.l0 k1 l0 t411 (wrap64 (x5_1 + 1)))) = some r := H
     have A5 := Aside0.mk A50
     clear A50
     by_cases c6 : t411 < 0
     ·rw [if_pos c6] at H
      have c6b0 : decide (t411 < 0) = true := decide_eq_true c6
      clear c6
      obtain rfl := Option.some.inj H
      have p410 : 0 ≤ (x5_1 : Int) := oT
      have q410 : x5_1 < (l0.length : Int) := oT
      obtain ⟨ad410, A410_0, c410_0, e410, hx410_0, hl410_0, hi410_0⟩ := at_L3 HR0.out x5_1 p410 q410
      cases e410
      have HR410_0 := Aside0.mk hi410_0
      have HC410_0 := Aside0.mk hl410_0
      clear hi410_0 hl410_0
      replace p410 := eq_true p410
      replace q410 := eq_true q410
      go_wp2_with (first | ((with_reducible refine gC (f := 36) rfl ?_); refine goesL_ (some 17) rfl rfl Tryd.func36 (by kernel_rfl) rfl #[.slice A410_0 (rd_L3 l0 x5_1).length c410_0, .int .i64 x1_1] rfl lQ ?_; (with_reducible refine (laws_heldInt64S.calls k1 _ _ (rd_L3 l0 x5_1) x1_1 t411 _ ?side1 ?side2 A5.out).mono ?_); (case side1 => exact cQ HR410_0); (case side2 => exact HC410_0.out); rintro e w' ⟨rfl, ⟨nd, rfl⟩⟩; refine ⟨_, rfl, ?_⟩))
      go_ret
      exact ⟨eT, dR⟩
     ·rw [if_neg c6] at H
      have c6b0 : decide (t411 < 0) = false := decide_eq_false c6
      clear c6
      have H' := Aside0.mk H
      clear H
      have p410 : 0 ≤ (x5_1 : Int) := oT
      have q410 : x5_1 < (l0.length : Int) := oT
      obtain ⟨ad410, A410_0, c410_0, e410, hx410_0, hl410_0, hi410_0⟩ := at_L3 HR0.out x5_1 p410 q410
      cases e410
      have HR410_0 := Aside0.mk hi410_0
      have HC410_0 := Aside0.mk hl410_0
      clear hi410_0 hl410_0
      replace p410 := eq_true p410
      replace q410 := eq_true q410
      go_wp2_with (first | ((with_reducible refine gC (f := 36) rfl ?_); refine goesL_ (some 17) rfl rfl Tryd.func36 (by kernel_rfl) rfl #[.slice A410_0 (rd_L3 l0 x5_1).length c410_0, .int .i64 x1_1] rfl lQ ?_; (with_reducible refine (laws_heldInt64S.calls k1 _ _ (rd_L3 l0 x5_1) x1_1 t411 _ ?side1 ?side2 A5.out).mono ?_); (case side1 => exact cQ HR410_0); (case side2 => exact HC410_0.out); rintro e w' ⟨rfl, ⟨nd, rfl⟩⟩; refine ⟨_, rfl, ?_⟩))
      go_roundg k1
      case measure => have := HK1.out; omega
      case rel => exact ⟨(t411), (wrap64 (x5_1 + 1)), eT, eT, H', ⟨by have := HK1.out; omega⟩, dR⟩
    ·rw [if_neg c4] at H
     exact absurd H (by simp)
   ·rw [if_neg c3] at H
    have c3b0 : decide (x5_1 < (l0.length : Int)) = false := decide_eq_false c3
    clear c3
    obtain rfl := Option.some.inj H
    go_wp2
    go_ret
    exact ⟨eT, dR⟩


/-! ### laws_FnExactReadPhrases: function 3 -/
/-- Marks on a row of rows: the last mark, and what the rows read. -/
def mkL (k : Nat) : List (List Int) → Int → Option (Int × List (List Int))
 | [], a => some (a, [])
 | x :: l, a => (laws_markInt64S.f k x a).bind fun b => (mkL k l b.1).bind fun c => some (c.1, b.2 :: c.2)
abbrev DSS : Kd (List Int) := Kd.slice 2 (Kd.int .i64)
theorem mk_get {y l0 : List (List Int)} {i : Nat} (hy : y.length = i) (h : i < l0.length) : (y ++ l0.drop i).getD (i : Int).toNat [] = l0[i] := by
 subst hy
 rw [Int.toNat_natCast, List.getD_eq_getElem?_getD, List.getElem?_append_right (Nat.le_refl _), Nat.sub_self, List.getElem?_drop, Nat.add_zero, List.getElem?_eq_getElem h]
 rfl
theorem mk_set {y l0 : List (List Int)} {i : Nat} (hy : y.length = i) (h : i < l0.length) (b : List Int) : (y ++ l0.drop i).set (i : Int).toNat b = (y ++ [b]) ++ l0.drop (i + 1) := by
 subst hy
 rw [Int.toNat_natCast, List.drop_eq_getElem_cons h, List.set_append_right _ _ (Nat.le_refl _), Nat.sub_self, sZ, List.append_assoc]
 rfl
set_option maxHeartbeats 1600000 in
set_option maxRecDepth 100000 in
theorem mkss (k : Nat) (P : Nat → Prop) (u : Value) (l0 : List (List Int)) (a1 r1 : Int) (r2 : List (List Int)) (w0 w : World) (hB : Below w0.heap.size w0 w) (hl : l0.length ≤ 1048577) (ho : Kd.S DSS 28 w w0.heap.size P u l0) (h : mkL k l0 a1 = some (r1, r2)) :
  Calls Tryd.prog 11 #[u, .int .i64 a1] w fun e w' => e = .returned (.int .i64 r1) ∧ Kd.S DSS 28 w' w0.heap.size P u r2 ∧ Below w0.heap.size w0 w' ∧ Kept w w' P := by
 obtain ⟨A, cap, rfl⟩ := Kd.S_slice ho
 have HBB := Aside0.mk hB
 have HO := Aside0.mk ho
 have HH := Aside0.mk h
 clear hB ho h
 go_enter Tryd.func11, Tryd.ntmps11
 go_wp2
 go_loopw [1, 5] (fun v1 v5 wr => ∃ (i : Nat) (a' : Int) (y z : List (List Int)), v1 = .int .i64 a' ∧ v5 = .int .i64 (i : Int) ∧ i ≤ l0.length ∧ Aside0 (y.length = i) ∧ Aside0 (mkL k (l0.drop i) a' = some (r1, z)) ∧ Aside0 (y ++ z = r2) ∧ Aside0 (Kd.S DSS 28 wr w0.heap.size P (.slice A l0.length cap) (y ++ l0.drop i)) ∧ Aside0 (Below w0.heap.size w0 wr) ∧ Aside0 (Kept w wr P)) (fun _ v5 _ => l0.length - (intOf v5).toNat)
 case atStart => exact ⟨0, a1, [], r2, rfl, rfl, Nat.zero_le _, ⟨rfl⟩, HH, ⟨rfl⟩, HO, HBB, ⟨Kept.refl _ _⟩⟩
 case round =>
  obtain ⟨i, a', y, z, rfl, rfl, hi, HY, HM, HZ, HS, HB, HK⟩ := hrel
  by_cases hlt : i < l0.length
  ·have hlen : (y ++ l0.drop i).length = l0.length := by have := HY.out; rw [List.length_append, List.length_drop]; omega
   obtain ⟨g, cap2, e, _⟩ := Kd.S_form HS.out (by rw [hlen]; omega)
   injection e with e1 e2 e3
   subst e1
   clear e2 e3 hlen
   obtain ⟨oki, cc, hcl, hM, hcc, hoki, hH⟩ := Kd.S_lend HS.out [] (i : Int) (by omega) (by omega)
   obtain ⟨v, rfl, hR⟩ := hM
   rw [mk_get HY.out hlt] at hR
   obtain ⟨A2, c2, rfl⟩ := Kd.R_slice hR
   have hx : wr.cell? ⟨g, i, none⟩ = some (.slice A2 l0[i].length c2) := by
    have := hcc 0 _ rfl
    rw [Int.toNat_natCast, show (DSS).sz = 1 from rfl, Nat.mul_one, Nat.add_zero] at this
    exact this
   have hM2 := HM.out
   rw [List.drop_eq_getElem_cons hlt, mkL] at hM2
   obtain ⟨⟨b1, b2⟩, hb1, hM3⟩ := Option.bind_eq_some_iff.1 hM2
   obtain ⟨⟨d1, d2⟩, hd1, hM4⟩ := Option.bind_eq_some_iff.1 hM3
   obtain ⟨e1, e2⟩ := Prod.mk.inj (Option.some.inj hM4)
   dsimp only at e1 e2 hd1
   subst e1
   have HZ2 := Aside0.mk e2
   have HBK := Aside0.mk hb1
   have HD := Aside0.mk hd1
   have HR := Aside0.mk hR
   have HHo := Aside0.mk hH
   have HI := Aside0.mk hoki
   clear hM2 hM3 hM4 hb1 hd1 hR hH hcc hcl hoki e2 HM HS
   go_wp2_with (go_at_call 35; (with_reducible refine (laws_markInt64S.calls k oki (.slice A2 l0[i].length c2) l0[i] a' b1 b2 w0 _ ?s0 ?s1 HBK.out).mono ?_); (case s0 => repeat (first | exact HB.out | apply bN)); (case s1 => repeat (first | exact HR.out | apply rN)); rintro e w' ⟨rfl, hr, hb, hk⟩; have n1_ := Aside0.mk (show Kd.S DSS 28 w' w0.heap.size P (.slice (some ⟨g, 0, none⟩) l0.length cap) ((y ++ l0.drop i).set (i : Int).toNat b2) from Kd.H_back (okp := oki) (by first | exact Kd.H_step (Kd.H_drewN HHo.out _) (fun k h1 h2 h3 => hk.2 k h3 h2) | exact Kd.H_step HHo.out (fun k h1 h2 h3 => hk.2 k h3 h2)) ⟨_, rfl, Kd.R_reok rfl hr (fun k e => HR.out.1 k e)⟩ (fun _ h => h)); have n2_ := Aside0.mk hb; have n3_ := Aside0.mk (show Kept w w' P from HK.out.then_ (by first | exact hk | exact (show Kept wr w' oki from hk)) (fun k h => .inl (HI.out k h).1)); clear hb hk hr HB HK HR HHo; have HB := n2_; have HK := n3_; clear n2_ n3_)
   go_roundw
   case rel => exact ⟨i + 1, b1, y ++ [b2], d2, rfl, by go_num, by omega, ⟨by rw [List.length_append, List.length_singleton, HY.out]⟩, HD, ⟨by rw [← HZ.out, ← HZ2.out, List.append_assoc]; rfl⟩, ⟨by rw [← mk_set HY.out hlt]; exact n1_.out⟩, HB, HK⟩
   case measure => simp [intOf]; omega
  ·go_wp2
   go_ret
   have hm := HM.out
   rw [List.drop_eq_nil_of_le (by omega), mkL] at hm
   obtain ⟨e1, e2⟩ := Prod.mk.inj (Option.some.inj hm)
   have hs := HS.out
   rw [List.drop_eq_nil_of_le (by omega), List.append_nil] at hs
   rw [← e2, List.append_nil] at HZ
   rw [HZ.out] at hs
   exact ⟨by rw [e1]; rfl, hs, HB.out, HK.out⟩
theorem mkL_len (k : Nat) : ∀ (l : List (List Int)) (a a' : Int) (z : List (List Int)), mkL k l a = some (a', z) → z.length = l.length
 | [], a, a', z, h => by
  obtain ⟨_, rfl⟩ := Prod.mk.inj (Option.some.inj h)
  rfl
 | x :: l, a, a', z, h => by
  rw [mkL] at h
  obtain ⟨b, _, h2⟩ := Option.bind_eq_some_iff.1 h
  obtain ⟨c, h3, h4⟩ := Option.bind_eq_some_iff.1 h2
  obtain ⟨_, rfl⟩ := Prod.mk.inj (Option.some.inj h4)
  rw [List.length_cons, List.length_cons, mkL_len k l b.1 c.1 c.2 h3]
def laws_FnExactReadPhrases.f (k : Nat) (a0 : ByteArray) : Option Bool := if (a0.size : Int) > 1048576 then some true else
 (spec_ReadPhrases.f k a0).bind fun s => (impl_ReadPhrases.f k a0).bind fun g => (laws_eqInt64SS.f k g.1 s.1).bind fun t => (mkL k g.1 1).bind fun m => (laws_heldInt64SS.f k m.2 1).bind fun q => if g.2 = s.2 ∧ t = true ∧ 0 ≤ q ∧ q = m.1 ∧ g.1.length ≤ 1048577 then some true else none
/-- THE ONE PURE STATEMENT of laws_FnExactReadPhrases. -/
def laws_FnExactReadPhrases.Pure : Prop := ∀ (a0 : ByteArray), a0.size ≤ maxLen → ∃ k, laws_FnExactReadPhrases.f k a0 = some true
theorem S_rng {w1 : World} {b c : Nat} {v : Value} {x : List (List Int)} (h : Kd.S DSS 28 w1 b (fun _ => True) v x) (hc : c ≤ b) : Kd.S DSS 28 w1 c (fun k => b ≤ k ∧ k < w1.heap.size) v x :=
 Kd.S_lower (Kd.S_mono (Kd.S_bound h) (fun _ hk => ⟨hk.2.1, hk.2.2.1⟩)) hc
set_option maxHeartbeats 4000000 in
set_option maxRecDepth 100000 in
theorem laws_FnExactReadPhrases.calls (k : Nat) (a0 : ByteArray) (r : Bool) (w : World) (hT : TabR w) (h : laws_FnExactReadPhrases.f k a0 = some r) :
  Calls Tryd.prog 3 #[.string a0] w fun e w' => e = .returned (.bool r) ∧ Below w.heap.size w w' := by
 unfold laws_FnExactReadPhrases.f at h
 by_cases c : (a0.size : Int) > 1048576
 ·rw [if_pos c] at h
  obtain rfl := Option.some.inj h
  have c1b : decide ((a0.size : Int) > 1048576) = true := decide_eq_true c
  have c1c : ((1048576 : Int) < a0.size) = True := eq_true (by omega)
  clear c h
  go_enter Tryd.func3, Tryd.ntmps3
  go_wp2
  go_ret
  exact ⟨rfl, by repeat (first | exact Below.refl _ _ | apply bA | apply bN)⟩
 ·rw [if_neg c] at h
  obtain ⟨⟨x, b⟩, e1, h⟩ := Option.bind_eq_some_iff.1 h
  obtain ⟨⟨x2, b2⟩, e2, h⟩ := Option.bind_eq_some_iff.1 h
  obtain ⟨t, e3, h⟩ := Option.bind_eq_some_iff.1 h
  obtain ⟨⟨m, y⟩, e4, h⟩ := Option.bind_eq_some_iff.1 h
  obtain ⟨q, e5, h⟩ := Option.bind_eq_some_iff.1 h
  by_cases cc : b2 = b ∧ t = true ∧ 0 ≤ q ∧ q = m ∧ x2.length ≤ 1048577
  ·rw [if_pos cc] at h
   obtain rfl := Option.some.inj h
   obtain ⟨rfl, rfl, q0, rfl, hx⟩ := cc
   have hyl := mkL_len k x2 1 q y e4
   have c1b : decide ((a0.size : Int) > 1048576) = false := decide_eq_false c
   have c1c : ((1048576 : Int) < a0.size) = False := eq_false (by omega)
   have q1 : decide (q < 0) = false := decide_eq_false (by omega)
   have q2 : (q < 0) = False := eq_false (by omega)
   have E1 := Aside0.mk e1
   have E2 := Aside0.mk e2
   have E2b := Aside0.mk e2
   have E3 := Aside0.mk e3
   have E3b := Aside0.mk e3
   have E4 := Aside0.mk e4
   have E5 := Aside0.mk e5
   have E5b := Aside0.mk e5
   have HX := Aside0.mk hx
   have HY := Aside0.mk hyl
   have HB := Aside0.mk (Below.refl w.heap.size w)
   clear c h e1 e2 e3 e4 e5 hx hyl q0
   go_enter Tryd.func3, Tryd.ntmps3
   go_wp2_with (first
    | (go_at_call 8; refine (spec_ReadPhrases.calls k a0 x b2 _ E1.out).mono ?_; rintro e w1 ⟨v1, rfl, hs, hb⟩; have n1_ := Aside0.mk (S_rng hs (bZ (by repeat (first | exact HB.out | apply bN | apply bA)))); have n2_ := Aside0.mk (bP (by repeat (first | exact HB.out | apply bN | apply bA)) hb); clear HB hs hb; have HB := n2_; clear n2_; obtain ⟨A1, k1, rfl⟩ := Kd.S_slice n1_.out; have S1 := Aside0.mk (Kd.S_mono n1_.out (fun k hk => (hk.2 : k < w1.heap.size))); clear n1_ E1)
    | (go_at_call 9; refine (impl_ReadPhrases.calls k a0 x2 b2 _ (TabR.below hT (by repeat (first | exact HB.out | apply bN | apply bA))) E2.out).mono ?_; rintro e w2 ⟨v2, rfl, hs, hb⟩; have n1_ := Aside0.mk (S_rng hs (bZ (by repeat (first | exact HB.out | apply bN | apply bA)))); have n2_ := Aside0.mk (bP (by repeat (first | exact HB.out | apply bN | apply bA)) hb); have n3_ := Aside0.mk (Kd.S_below (by repeat (first | exact S1.out | apply Kd.S_drewN)) hb); clear HB S1 hs hb; have HB := n2_; have S1 := n3_; clear n2_ n3_; obtain ⟨A2, k2, rfl⟩ := Kd.S_slice n1_.out; have S2 := Aside0.mk (Kd.S_mono n1_.out (fun k hk => (hk.1 : w1.heap.size ≤ k))); clear n1_ E2)
    | (go_at_call 10; refine (laws_eqInt64SS.calls k A2 k2 x2 A1 k1 x true _ ?s1 ?s2 ?s3 ?s4 E3.out).mono ?_; (case s1 => exact (Kd.S_reads' (by repeat (first | exact S2.out | apply Kd.S_drewN))).2.2); (case s2 => exact (Kd.S_reads' S2.out).2.1); (case s3 => exact (Kd.S_reads' (by repeat (first | exact S1.out | apply Kd.S_drewN))).2.2); (case s4 => exact (Kd.S_reads' S1.out).2.1); rintro e w3 ⟨rfl, ⟨n3, rfl⟩⟩; clear E3)
    | (go_at_call 11; refine (mkss k (fun k => w1.heap.size ≤ k) _ x2 1 q y w _ ?s1 HX.out ?s2 E4.out).mono ?_; (case s1 => repeat (first | exact HB.out | apply bN | apply bA)); (case s2 => repeat (first | exact S2.out | apply Kd.S_drewN)); rintro e w4 ⟨rfl, hs, hb, hk⟩; have n3_ := Aside0.mk (Kd.S_step (by repeat (first | exact S1.out | apply Kd.S_drewN)) (fun k h1 h2 => hk.2 k h2 (Nat.not_le.2 h1))); clear S1 S2 HB; have S1 := n3_; have S2 := Aside0.mk hs; have HB := Aside0.mk hb; clear hs hb hk n3_ E4)
    | (go_at_call 12; have hc_ := fun w_ => laws_heldInt64SS.calls k A2 k2 y 1 q w_; simp only [HY.out] at hc_; refine (hc_ _ ?s1 ?s2 E5.out).mono ?_; (case s1 => have z_ := (Kd.S_reads' (by repeat (first | exact S2.out | apply Kd.S_drewN))).2.2; rwa [HY.out] at z_); (case s2 => exact (Kd.S_reads' S2.out).2.1); rintro e w5 ⟨rfl, ⟨n5, rfl⟩⟩; clear E5 hc_)
    | (go_at_call 9; refine (impl_ReadPhrases.calls k a0 x2 b2 _ (TabR.below hT (by repeat (first | exact HB.out | apply bN | apply bA))) E2b.out).mono ?_; rintro e w6 ⟨v6, rfl, hs, hb⟩; have n1_ := Aside0.mk hs; have n2_ := Aside0.mk (bP (by repeat (first | exact HB.out | apply bN | apply bA)) hb); have n3_ := Aside0.mk (Kd.S_below (by repeat (first | exact S1.out | apply Kd.S_drewN)) hb); have n4_ := Aside0.mk (Kd.S_below (by repeat (first | exact S2.out | apply Kd.S_drewN)) hb); clear HB S1 S2 hs hb; have HB := n2_; have S1 := n3_; have S2 := n4_; clear n2_ n3_ n4_; obtain ⟨A6, k6, rfl⟩ := Kd.S_slice n1_.out; have S6 := n1_; clear n1_ E2b)
    | (go_at_call 10; refine (laws_eqInt64SS.calls k A6 k6 x2 A1 k1 x true _ ?s1 ?s2 ?s3 ?s4 E3b.out).mono ?_; (case s1 => exact (Kd.S_reads' (by repeat (first | exact S6.out | apply Kd.S_drewN))).2.2); (case s2 => exact (Kd.S_reads' S6.out).2.1); (case s3 => exact (Kd.S_reads' (by repeat (first | exact S1.out | apply Kd.S_drewN))).2.2); (case s4 => exact (Kd.S_reads' S1.out).2.1); rintro e w7 ⟨rfl, ⟨n7, rfl⟩⟩; clear E3b)
    | (go_at_call 12; have hc_ := fun w_ => laws_heldInt64SS.calls k A2 k2 y 1 q w_; simp only [HY.out] at hc_; refine (hc_ _ ?s1 ?s2 E5b.out).mono ?_; (case s1 => have z_ := (Kd.S_reads' (by repeat (first | exact S2.out | apply Kd.S_drewN))).2.2; rwa [HY.out] at z_); (case s2 => exact (Kd.S_reads' S2.out).2.1); rintro e w8 ⟨rfl, ⟨n8, rfl⟩⟩; clear E5b hc_))
   go_ret
   exact ⟨rfl, by repeat (first | exact HB.out | apply bA | apply bN)⟩
  ·rw [if_neg cc] at h
   cases h

end Go.Proofs.YtlmeijlandogaaaDoor.R
-- shrunk
-- tight
