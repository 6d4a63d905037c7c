/- What functions of the given program compute, as plain Lean functions, and that the code comes to just that; by a program of this session over the kit's print. No condition. -/
import Derived.Test.YtlmeijlandogaaaDoorRx0
import Derived.Test.YtlmeijlandogaaaDoorRx10
import Derived.Test.YtlmeijlandogaaaDoorRx13
namespace Go.Proofs.YtlmeijlandogaaaDoor.R
open Go.RowKit Go.Proofs.YtlmeijlandogaaaDoorW.PrintWords Go.Proofs.YtlmeijlandogaaaDoorW.PrintLast Go.Proofs.YtlmeijlandogaaaDoorW.PrintMore
open Go.Proofs.YtlmeijlandogaaaDoorW.PrintWords renaming below_alloc → bA, pw_below_drewN → bN, below_drew1 → bD, below_set → bS, blk_drewN → kN, blk_drew → kD, blk_alloc → kA, blk_below → kB, below_size → bZ, below_step → bP, blk_far → kF, blk_lt → kL, gate_callee → gC, box_event → bE, blk_cell → kC
open Go.Proofs.YtlmeijlandogaaaDoorW.PrintLast renaming take_ofW → tW, any_of → aO, one_of → oO, i64_w → iW, i32_w → jW
open Go.Proofs.YtlmeijlandogaaaDoorW.PrintWords.Kd renaming R_alloc → rA, R_drewN → rN, R_drew → rD, R_lower → rL, R_below → rB, R_mono → rM
open List renaming setIfInBounds_toArray → sI, set_cons_zero → sZ, set_cons_succ → sS
open Bool renaming true → T, false → F
attribute [local go_sem] max2_int min2_int max_two min_two max_three min_three max_four min_four   -- for this text's walks alone
set_option linter.unusedVariables false
set_option linter.unusedSimpArgs false

/-! ### impl_ReadItem: function 28 -/
def impl_ReadItem.f (k : Nat) (a0 : ByteArray) : Option (ByteArray × Int × Int × Int × Int × Int × Bool) := (impl_readWithId.f k a0 5).bind fun bt213 => (if 0 < (bt213.2.1.length : Int) then (if 1 < (bt213.2.1.length : Int) then (if 2 < (bt213.2.1.length : Int) then (if 3 < (bt213.2.1.length : Int) then (if 4 < (bt213.2.1.length : Int) then (if bt213.2.2 = true then ((impl_ItemText.f k bt213.1 (rd bt213.2.1 0) (rd bt213.2.1 1) (rd bt213.2.1 2) (rd bt213.2.1 3) (rd bt213.2.1 4)).bind fun t224 => (if t224.toList = a0.toList then (some (bt213.1, rd bt213.2.1 0, rd bt213.2.1 1, rd bt213.2.1 2, rd bt213.2.1 3, rd bt213.2.1 4, true)) else (some ((⟨#[]⟩ : ByteArray), 0, 0, 0, 0, 0, false)))) else (some ((⟨#[]⟩ : ByteArray), 0, 0, 0, 0, 0, false))) else (none)) else (none)) else (none)) else (none)) else (none))
theorem impl_ReadItem.mono : ∀ a0 k, LeO (impl_ReadItem.f k a0) (impl_ReadItem.f (k + 1) a0) := by
 intro a0 k
 unfold impl_ReadItem.f
 repeat' first
   | (with_reducible exact impl_ItemText.mono _ _ _ _ _ _ _)
   | (with_reducible exact impl_readWithId.mono _ _ _)
   | (with_reducible exact LeO.refl _)
   | (with_reducible exact LeO.none _)
   | (with_reducible refine LeO.ite ?_ ?_)
   | (with_reducible refine LeO.bind ?_ (fun _ => ?_))
   | exact impl_ItemText.mono _ _ _ _ _ _ _
   | exact impl_readWithId.mono _ _ _
   | exact LeO.none _
   | refine LeO.ite ?_ ?_
   | refine LeO.bind ?_ (fun _ => ?_)
def impl_ReadItem.T2 : Bool × List (List Nat × List Nat) := (true, [([], []), ([], []), ([1], [1]), ([2], [2]), ([], []), ([4], [4]), ([5], [5]), ([], []), ([7], [7]), ([8], [8]), ([], []), ([10], [10]), ([11], [11]), ([], []), ([13], [13]), ([14], [14]), ([0, 3, 6, 9, 12, 15], [0, 3, 6, 9, 12, 15]), ([], []), ([17, 16, 0, 1, 2, 3, 4, 5, 6, 7, 8, 9, 10, 11, 12, 13, 14, 15, 16, 17], [16, 17])])
def impl_ReadItem.B2 : List Nat := [0, 0, 2, 6, 0, 16, 48, 0, 128, 384, 0, 1024, 3072, 0, 8192, 24576, 65535, 0, 262143]
theorem impl_ReadItem.tab2 : rtab .any (opsOf Tryd.f28 2) = impl_ReadItem.T2 := by kernel_rfl
theorem impl_ReadItem.bits2 : waitsOk impl_ReadItem.T2.2 impl_ReadItem.B2 = true := by kernel_rfl
set_option maxHeartbeats 8000000 in
set_option maxRecDepth 100000 in
theorem impl_ReadItem.calls (k : Nat) (a0 : ByteArray) (r1 : ByteArray) (r2 : Int) (r3 : Int) (r4 : Int) (r5 : Int) (r6 : Int) (r7 : Bool) (w : World) (hT : TabR w) (h : impl_ReadItem.f k a0 = some (r1, r2, r3, r4, r5, r6, r7)) :
  Calls Tryd.prog 28 #[.string a0] w fun e w' => e = .returned (.tuple #[.agg #[.string r1, .int .i64 r2, .int .i64 r3, .int .i64 r4, .int .i64 r5, .int .i64 r6], .bool r7]) ∧ Below w.heap.size w w' := by
 have hu50 := Tryd.underlying50
 have HB := Aside0.mk (Below.refl w.heap.size w)
 have H : ((impl_readWithId.f k a0 5).bind fun bt213 => (if 0 < (bt213.2.1.length : Int) then (if 1 < (bt213.2.1.length : Int) then (if 2 < (bt213.2.1.length : Int) then (if 3 < (bt213.2.1.length : Int) then (if 4 < (bt213.2.1.length : Int) then (if bt213.2.2 = true then ((impl_ItemText.f k bt213.1 (rd bt213.2.1 0) (rd bt213.2.1 1) (rd bt213.2.1 2) (rd bt213.2.1 3) (rd bt213.2.1 4)).bind fun t224 => (if t224.toList = a0.toList then (some (bt213.1, rd bt213.2.1 0, rd bt213.2.1 1, rd bt213.2.1 2, rd bt213.2.1 3, rd bt213.2.1 4, true)) else (some ((⟨#[]⟩ : ByteArray), 0, 0, 0, 0, 0, false)))) else (some ((⟨#[]⟩ : ByteArray), 0, 0, 0, 0, 0, false))) else (none)) else (none)) else (none)) else (none)) else (none))) = some (r1, r2, r3, r4, r5, r6, r7) := h
 clear h
 replace H := Option.bind_eq_some_iff.mp H
 obtain ⟨⟨t213, t214, t215⟩, A20, H⟩ := H
 replace H : (if 0 < (t214.length : Int) then (if 1 < (t214.length : Int) then (if 2 < (t214.length : Int) then (if 3 < (t214.length : Int) then (if 4 < (t214.length : Int) then (if t215 = true then ((impl_ItemText.f k t213 (rd t214 0) (rd t214 1) (rd t214 2) (rd t214 3) (rd t214 4)).bind fun t224 => (if t224.toList = a0.toList then (some (t213, rd t214 0, rd t214 1, rd t214 2, rd t214 3, rd t214 4, true)) else (some ((⟨#[]⟩ : ByteArray), 0, 0, 0, 0, 0, false)))) else (some ((⟨#[]⟩ : ByteArray), 0, 0, 0, 0, 0, false))) else (none)) else (none)) else (none)) else (none)) else (none)) = some (r1, r2, r3, r4, r5, r6, r7) := H
 have A2 := Aside0.mk A20
 clear A20
 by_cases c3 : 0 < (t214.length : Int)
 ·rw [if_pos c3] at H
  have c3b0 : decide (0 < (t214.length : Int)) = true := decide_eq_true c3
  have c3b1 : decide (0 < t214.length) = true := decide_eq_true (by omega)
  clear c3
  by_cases c4 : 1 < (t214.length : Int)
  ·rw [if_pos c4] at H
   have c4b0 : decide (1 < (t214.length : Int)) = true := decide_eq_true c4
   have c4b1 : decide (1 < t214.length) = true := decide_eq_true (by omega)
   clear c4
   by_cases c5 : 2 < (t214.length : Int)
   ·rw [if_pos c5] at H
    have c5b0 : decide (2 < (t214.length : Int)) = true := decide_eq_true c5
    have c5b1 : decide (2 < t214.length) = true := decide_eq_true (by omega)
    clear c5
    by_cases c6 : 3 < (t214.length : Int)
    ·rw [if_pos c6] at H
     have c6b0 : decide (3 < (t214.length : Int)) = true := decide_eq_true c6
     have c6b1 : decide (3 < t214.length) = true := decide_eq_true (by omega)
     clear c6
     by_cases c7 : 4 < (t214.length : Int)
     ·rw [if_pos c7] at H
      have c7b0 : decide (4 < (t214.length : Int)) = true := decide_eq_true c7
      have c7b1 : decide (4 < t214.length) = true := decide_eq_true (by omega)
      clear c7
      by_cases c8 : t215 = true
      ·subst c8
       have H1 : ((impl_ItemText.f k t213 (rd t214 0) (rd t214 1) (rd t214 2) (rd t214 3) (rd t214 4)).bind fun t224 => (if t224.toList = a0.toList then (some (t213, rd t214 0, rd t214 1, rd t214 2, rd t214 3, rd t214 4, true)) else (some ((⟨#[]⟩ : ByteArray), 0, 0, 0, 0, 0, false)))) = some (r1, r2, r3, r4, r5, r6, r7) := by rw [if_pos rfl] at H; exact H
       clear H
       have H := H1
       clear H1
       replace H := Option.bind_eq_some_iff.mp H
       obtain ⟨t224, A90, H⟩ := H
       replace H : (if t224.toList = a0.toList then (some (t213, rd t214 0, rd t214 1, rd t214 2, rd t214 3, rd t214 4, true)) else (some ((⟨#[]⟩ : ByteArray), 0, 0, 0, 0, 0, false))) = some (r1, r2, r3, r4, r5, r6, r7) := H
       have A9 := Aside0.mk A90
       clear A90
       by_cases c10 : t224.toList = a0.toList
       ·rw [if_pos c10] at H
        have c10b0 : (t224.toList == a0.toList) = true := beq_iff_eq.mpr c10
        have c10b1 : (t224.toList != a0.toList) = false := bne_eq_false_iff_eq.mpr c10
        clear c10
        simp only [Option.some.injEq, Prod.mk.injEq] at H
        obtain ⟨rfl, rfl, rfl, rfl, rfl, rfl, rfl⟩ := H
        go_enter Tryd.func28, Tryd.ntmps28
        try go_wp2_with (first | ((with_reducible refine gate_dst (N := 2) rfl ?_); refine bE ?hg (N := 2) ?hd (cs := #[.string (⟨#[]⟩ : ByteArray), .int .i64 0, .int .i64 0, .int .i64 0, .int .i64 0, .int .i64 0]) (t := 50) ?hr ?_; (case hd => rfl); (case hg => rfl); (case hr => first | (go_simp; done) | (go_simp; rfl)); intro gb212 hg w11 hbox hb; have n0_ := Aside0.mk (bP (by repeat (first | (with_reducible first | exact HB.out | apply bA | apply bN | apply bD) | exact HB.out)) hb); have n1_ := Aside0.mk (hbox); have n2_ := Aside0.mk ((by rw [hg]; exact (bZ (by repeat (first | (with_reducible first | exact HB.out | apply bA | apply bN | apply bD) | exact HB.out))) : w.heap.size ≤ gb212)); have n3_ := Aside0.mk ((by rw [hg]; exact (bZ (by repeat (first | (with_reducible first | exact HB.out | apply bA | apply bN | apply bD) | exact HB.out))) : w.heap.size ≤ gb212)); clear HB; have HB := n0_; have BK212 := n1_; have GW212 := n2_; have GE212 := n3_; clear n0_ n1_ n2_ n3_; clear hb hbox hg) | ((with_reducible refine gC (f := 59) rfl ?_); refine goesL_ (some 10) rfl rfl Tryd.func59 (by kernel_rfl) rfl #[.string a0, .int .i64 5] rfl (by (try simp only [List.map_toArray, List.map_cons, List.map_nil]); first | done | rfl | (simp only [List.length_drop, List.length_take]; rfl)) ?_; (with_reducible refine (impl_readWithId.calls k a0 5 t213 t214 true _ (by first | exact hT | exact TabR.below hT HB.out | exact TabR.below hT (by repeat (first | (with_reducible first | exact HB.out | apply bA | apply bN | apply bD | refine bS ?_ GE212.out | refine bS ?_ GE223.out) | exact HB.out)) | exact TabR.below hT (Below.refl _ _)) A2.out).mono ?_); rintro e w12 ⟨v216, rfl, ho0, hb⟩; refine ⟨_, rfl, ?_⟩; have n0_ := Aside0.mk (rL ho0 (bZ (by repeat (first | (with_reducible first | exact HB.out | apply bA | apply bN | apply bD | refine bS ?_ GE212.out) | exact HB.out)))); have n1_ := Aside0.mk (kB (g := gb212) (o := .cells #[.string (⟨#[]⟩ : ByteArray), .int .i64 0, .int .i64 0, .int .i64 0, .int .i64 0, .int .i64 0] 50 (0, 0)) (by (with_reducible repeat (first | refine kN ?_ _ | refine kD ?_ | refine kA ?_ _)); exact BK212.out) hb); have n2_ := Aside0.mk (bP (by repeat (first | (with_reducible first | exact HB.out | apply bA | apply bN | apply bD | refine bS ?_ GE212.out) | exact HB.out)) hb); clear BK212; clear HB; have HO217 := n0_; have BK212 := n1_; have HB := n2_; clear n0_ n1_ n2_; (try clear hb); (try clear hb2); (try clear hk); (try clear hi); (try clear ho0)))
        have n0_ := Aside0.mk (rD HO217.out)
        have n1_ := Aside0.mk (kD BK212.out)
        have n2_ := Aside0.mk (bD HB.out)
        clear HO217
        clear BK212
        clear HB
        have HO217 := n0_
        have BK212 := n1_
        have HB := n2_
        clear n0_ n1_ n2_
        obtain ⟨Ao14, co14, eo14⟩ := Kd.R_slice HO217.out
        (first | subst eo14 | (injection eo14 with f1_ f2_ f3_; have f4_ := f1_.symm; have f5_ := f3_.symm; clear f1_ f2_ f3_; subst f4_; subst f5_))
        have p218 : 0 ≤ (0 : Int) := (by omega)
        have q218 : 0 < (t214.length : Int) := of_decide_eq_true (by first | (with_reducible assumption) | assumption)
        obtain ⟨ad218, e218, hx218_0⟩ := Kd.at_int (Kd.R_reads' HO217.out).2.2 0 p218 q218
        cases e218
        have qi218 : (0 < t214.length) = True := eq_true (by omega)
        (try rw [show ((0 : Int)).toNat = 0 from rfl] at hx218_0)
        (try rw [Addr.add_zero'] at hx218_0)
        replace p218 := eq_true p218
        replace q218 := eq_true q218
        have p219 : 0 ≤ (1 : Int) := (by omega)
        have q219 : 1 < (t214.length : Int) := of_decide_eq_true (by first | (with_reducible assumption) | assumption)
        obtain ⟨ad219, e219, hx219_0⟩ := Kd.at_int (Kd.R_reads' HO217.out).2.2 1 p219 q219
        obtain rfl : ad218 = ad219 := (by injection e219)
        (try simp only [show (1 : Int).toNat = 1 from rfl, Nat.reduceMul, Nat.reduceEqDiff, Go.Addr.add, ↓reduceIte] at hx219_0)
        have qi219 : (1 < t214.length) = True := eq_true (by omega)
        (try rw [show ((1 : Int)).toNat = 1 from rfl] at hx219_0)
        replace p219 := eq_true p219
        replace q219 := eq_true q219
        have p220 : 0 ≤ (2 : Int) := (by omega)
        have q220 : 2 < (t214.length : Int) := of_decide_eq_true (by first | (with_reducible assumption) | assumption)
        obtain ⟨ad220, e220, hx220_0⟩ := Kd.at_int (Kd.R_reads' HO217.out).2.2 2 p220 q220
        obtain rfl : ad218 = ad220 := (by injection e220)
        (try simp only [show (2 : Int).toNat = 2 from rfl, Nat.reduceMul, Nat.reduceEqDiff, Go.Addr.add, ↓reduceIte] at hx220_0)
        have qi220 : (2 < t214.length) = True := eq_true (by omega)
        (try rw [show ((2 : Int)).toNat = 2 from rfl] at hx220_0)
        replace p220 := eq_true p220
        replace q220 := eq_true q220
        have p221 : 0 ≤ (3 : Int) := (by omega)
        have q221 : 3 < (t214.length : Int) := of_decide_eq_true (by first | (with_reducible assumption) | assumption)
        obtain ⟨ad221, e221, hx221_0⟩ := Kd.at_int (Kd.R_reads' HO217.out).2.2 3 p221 q221
        obtain rfl : ad218 = ad221 := (by injection e221)
        (try simp only [show (3 : Int).toNat = 3 from rfl, Nat.reduceMul, Nat.reduceEqDiff, Go.Addr.add, ↓reduceIte] at hx221_0)
        have qi221 : (3 < t214.length) = True := eq_true (by omega)
        (try rw [show ((3 : Int)).toNat = 3 from rfl] at hx221_0)
        replace p221 := eq_true p221
        replace q221 := eq_true q221
        have p222 : 0 ≤ (4 : Int) := (by omega)
        have q222 : 4 < (t214.length : Int) := of_decide_eq_true (by first | (with_reducible assumption) | assumption)
        obtain ⟨ad222, e222, hx222_0⟩ := Kd.at_int (Kd.R_reads' HO217.out).2.2 4 p222 q222
        obtain rfl : ad218 = ad222 := (by injection e222)
        (try simp only [show (4 : Int).toNat = 4 from rfl, Nat.reduceMul, Nat.reduceEqDiff, Go.Addr.add, ↓reduceIte] at hx222_0)
        have qi222 : (4 < t214.length) = True := eq_true (by omega)
        (try rw [show ((4 : Int)).toNat = 4 from rfl] at hx222_0)
        replace p222 := eq_true p222
        replace q222 := eq_true q222
        refine start_ (n := 19) (S := fun w' => w'.cell? ad218 = some (.int .i64 (rd t214 0)) ∧ w'.cell? ⟨ad218.block, ad218.off + 1, none⟩ = some (.int .i64 (rd t214 1)) ∧ w'.cell? ⟨ad218.block, ad218.off + 2, none⟩ = some (.int .i64 (rd t214 2)) ∧ w'.cell? ⟨ad218.block, ad218.off + 3, none⟩ = some (.int .i64 (rd t214 3)) ∧ w'.cell? ⟨ad218.block, ad218.off + 4, none⟩ = some (.int .i64 (rd t214 4))) (ds := []) #[F,F,F,F,F,F,F,F,F,F,F,F,F,F,F,F,F,F,F] (by kernel_rfl) rfl rfl ⟨hx218_0, hx219_0, hx220_0, hx221_0, hx222_0⟩ (fun hHeld => ?_); refine with_tabW impl_ReadItem.tab2 impl_ReadItem.bits2 (fun HT_ HW_ => ?_)
        generalize w12.drew = w13 at HO217 BK212 HB hx218_0 hx219_0 hx220_0 hx221_0 hx222_0 hHeld ⊢
        refine pure_ (i := 0) (N := some 14) (v := ?_) (a' := ?_) #[T,F,F,F,F,F,F,F,F,F,F,F,F,F,F,F,F,F,F] rfl rfl (aO HT_.out (by kernel_rfl)) (fun _ _ _ h => h) (Or.inl ⟨by rfl, ?_⟩) ?_ ?_; rotate_left; (·intro w'; go_simp; with_reducible rfl); rotate_left; (·simp only [Act.put, sI, sZ, sS, iW, jW]; rfl)
        refine pure_ (i := 1) (N := some 15) (v := ?_) (a' := ?_) #[T,T,F,F,F,F,F,F,F,F,F,F,F,F,F,F,F,F,F] rfl rfl (aO HT_.out (by kernel_rfl)) (fun _ _ _ h => h) (Or.inl ⟨by rfl, ?_⟩) ?_ ?_; rotate_left; (·intro w'; go_simp; with_reducible rfl); rotate_left; (·simp only [Act.put, sI, sZ, sS, iW, jW]; rfl)
        refine pure_ (i := 2) (N := some 16) (v := ?_) (a' := ?_) #[T,T,T,F,F,F,F,F,F,F,F,F,F,F,F,F,F,F,F] rfl rfl (aO HT_.out (by kernel_rfl)) (fun _ _ _ h => h) (Or.inl ⟨by rfl, ?_⟩) ?_ ?_; rotate_left; (·intro w'; go_simp; with_reducible rfl); rotate_left; (·simp only [Act.put, sI, sZ, sS, iW, jW]; rfl)
        refine pure_ (i := 4) (N := some 18) (v := ?_) (a' := ?_) #[T,T,T,F,T,F,F,F,F,F,F,F,F,F,F,F,F,F,F] rfl rfl (aO HT_.out (by kernel_rfl)) (fun _ _ _ h => h) (Or.inl ⟨by rfl, ?_⟩) ?_ ?_; rotate_left; (·intro w'; go_simp; with_reducible rfl); rotate_left; (·simp only [Act.put, sI, sZ, sS, iW, jW]; rfl)
        refine pure_ (i := 5) (N := some 19) (v := ?_) (a' := ?_) #[T,T,T,F,T,T,F,F,F,F,F,F,F,F,F,F,F,F,F] rfl rfl (aO HT_.out (by kernel_rfl)) (fun _ _ _ h => h) (Or.inl ⟨by rfl, ?_⟩) ?_ ?_; rotate_left; (·intro w'; go_simp; with_reducible rfl); rotate_left; (·simp only [Act.put, sI, sZ, sS, iW, jW]; rfl)
        refine pure_ (i := 7) (N := some 21) (v := ?_) (a' := ?_) #[T,T,T,F,T,T,F,T,F,F,F,F,F,F,F,F,F,F,F] rfl rfl (aO HT_.out (by kernel_rfl)) (fun _ _ _ h => h) (Or.inl ⟨by rfl, ?_⟩) ?_ ?_; rotate_left; (·intro w'; go_simp; with_reducible rfl); rotate_left; (·simp only [Act.put, sI, sZ, sS, iW, jW]; rfl)
        refine pure_ (i := 8) (N := some 22) (v := ?_) (a' := ?_) #[T,T,T,F,T,T,F,T,T,F,F,F,F,F,F,F,F,F,F] rfl rfl (aO HT_.out (by kernel_rfl)) (fun _ _ _ h => h) (Or.inl ⟨by rfl, ?_⟩) ?_ ?_; rotate_left; (·intro w'; go_simp; with_reducible rfl); rotate_left; (·simp only [Act.put, sI, sZ, sS, iW, jW]; rfl)
        refine pure_ (i := 10) (N := some 24) (v := ?_) (a' := ?_) #[T,T,T,F,T,T,F,T,T,F,T,F,F,F,F,F,F,F,F] rfl rfl (aO HT_.out (by kernel_rfl)) (fun _ _ _ h => h) (Or.inl ⟨by rfl, ?_⟩) ?_ ?_; rotate_left; (·intro w'; go_simp; with_reducible rfl); rotate_left; (·simp only [Act.put, sI, sZ, sS, iW, jW]; rfl)
        refine pure_ (i := 11) (N := some 25) (v := ?_) (a' := ?_) #[T,T,T,F,T,T,F,T,T,F,T,T,F,F,F,F,F,F,F] rfl rfl (aO HT_.out (by kernel_rfl)) (fun _ _ _ h => h) (Or.inl ⟨by rfl, ?_⟩) ?_ ?_; rotate_left; (·intro w'; go_simp; with_reducible rfl); rotate_left; (·simp only [Act.put, sI, sZ, sS, iW, jW]; rfl)
        refine pure_ (i := 13) (N := some 27) (v := ?_) (a' := ?_) #[T,T,T,F,T,T,F,T,T,F,T,T,F,T,F,F,F,F,F] rfl rfl (aO HT_.out (by kernel_rfl)) (fun _ _ _ h => h) (Or.inl ⟨by rfl, ?_⟩) ?_ ?_; rotate_left; (·intro w'; go_simp; with_reducible rfl); rotate_left; (·simp only [Act.put, sI, sZ, sS, iW, jW]; rfl)
        refine pure_ (i := 14) (N := some 28) (v := ?_) (a' := ?_) #[T,T,T,F,T,T,F,T,T,F,T,T,F,T,T,F,F,F,F] rfl rfl (aO HT_.out (by kernel_rfl)) (fun _ _ _ h => h) (Or.inl ⟨by rfl, ?_⟩) ?_ ?_; rotate_left; (·intro w'; go_simp; with_reducible rfl); rotate_left; (·simp only [Act.put, sI, sZ, sS, iW, jW]; rfl)
        refine take_ (i := 3) (N := some 17) (v := ?_) (a' := ?_) #[T,T,T,T,T,T,F,T,T,F,T,T,F,T,T,F,F,F,F] rfl rfl (tW HT_.out HW_.out (by kernel_rfl)) (fun _ _ _ h => h) (Or.inl ⟨by rfl, ?_⟩) hHeld ?_ ?_; rotate_left; (·rintro w' ⟨s0, s1, s2, s3, s4⟩; go_simp; with_reducible rfl); rotate_left; (·simp only [Act.put, sI, sZ, sS, iW, jW]; rfl)
        refine take_ (i := 6) (N := some 20) (v := ?_) (a' := ?_) #[T,T,T,T,T,T,T,T,T,F,T,T,F,T,T,F,F,F,F] rfl rfl (tW HT_.out HW_.out (by kernel_rfl)) (fun _ _ _ h => h) (Or.inl ⟨by rfl, ?_⟩) hHeld ?_ ?_; rotate_left; (·rintro w' ⟨s0, s1, s2, s3, s4⟩; go_simp; with_reducible rfl); rotate_left; (·simp only [Act.put, sI, sZ, sS, iW, jW]; rfl)
        refine take_ (i := 9) (N := some 23) (v := ?_) (a' := ?_) #[T,T,T,T,T,T,T,T,T,T,T,T,F,T,T,F,F,F,F] rfl rfl (tW HT_.out HW_.out (by kernel_rfl)) (fun _ _ _ h => h) (Or.inl ⟨by rfl, ?_⟩) hHeld ?_ ?_; rotate_left; (·rintro w' ⟨s0, s1, s2, s3, s4⟩; go_simp; with_reducible rfl); rotate_left; (·simp only [Act.put, sI, sZ, sS, iW, jW]; rfl)
        refine take_ (i := 12) (N := some 26) (v := ?_) (a' := ?_) #[T,T,T,T,T,T,T,T,T,T,T,T,T,T,T,F,F,F,F] rfl rfl (tW HT_.out HW_.out (by kernel_rfl)) (fun _ _ _ h => h) (Or.inl ⟨by rfl, ?_⟩) hHeld ?_ ?_; rotate_left; (·rintro w' ⟨s0, s1, s2, s3, s4⟩; go_simp; with_reducible rfl); rotate_left; (·simp only [Act.put, sI, sZ, sS, iW, jW]; rfl)
        refine take_ (i := 15) (N := some 29) (v := ?_) (a' := ?_) #[T,T,T,T,T,T,T,T,T,T,T,T,T,T,T,T,F,F,F] rfl rfl (tW HT_.out HW_.out (by kernel_rfl)) (fun _ _ _ h => h) (Or.inl ⟨by rfl, ?_⟩) hHeld ?_ ?_; rotate_left; (·rintro w' ⟨s0, s1, s2, s3, s4⟩; go_simp; with_reducible rfl); rotate_left; (·simp only [Act.put, sI, sZ, sS, iW, jW]; rfl)
        refine pure_ (i := 16) (N := some 30) (v := ?_) (a' := ?_) #[T,T,T,T,T,T,T,T,T,T,T,T,T,T,T,T,T,F,F] rfl rfl (aO HT_.out (by kernel_rfl)) (fun _ _ _ h => h) (Or.inl ⟨by rfl, ?_⟩) ?_ ?_; rotate_left; (·intro w'; go_simp; with_reducible rfl); rotate_left; (·simp only [Act.put, sI, sZ, sS, iW, jW]; rfl)
        refine one_ (i := 17) (N := some 7) #[T,T,T,T,T,T,T,T,T,T,T,T,T,T,T,T,T,T,F] rfl rfl (oO HT_.out (by kernel_rfl)) (by decide) (fun K hK => ?_)
        refine box_step ?hg (N := 7) ?hd (cs := #[.string (⟨#[]⟩ : ByteArray), .int .i64 0, .int .i64 0, .int .i64 0, .int .i64 0, .int .i64 0]) (t := 50) ?hr ?_; (case hd => rfl); (case hg => rfl); (case hr => first | (go_simp; done) | (go_simp; rfl))
        intro gb223 hg w15 hbox hb
        have HS0_ := (hb.cell (World.block_lt_of_cell? _ _ (hHeld.1))).trans (hHeld.1)
        have HS1_ := (hb.cell (World.block_lt_of_cell? _ _ (hHeld.2.1))).trans (hHeld.2.1)
        have HS2_ := (hb.cell (World.block_lt_of_cell? _ _ (hHeld.2.2.1))).trans (hHeld.2.2.1)
        have HS3_ := (hb.cell (World.block_lt_of_cell? _ _ (hHeld.2.2.2.1))).trans (hHeld.2.2.2.1)
        have HS4_ := (hb.cell (World.block_lt_of_cell? _ _ (hHeld.2.2.2.2))).trans (hHeld.2.2.2.2)
        have n0_ := Aside0.mk (rB (by (with_reducible repeat (first | apply rA | apply rN | apply rD)); exact HO217.out) hb)
        have n1_ := Aside0.mk (kB (g := gb212) (o := .cells #[.string (⟨#[]⟩ : ByteArray), .int .i64 0, .int .i64 0, .int .i64 0, .int .i64 0, .int .i64 0] 50 (0, 0)) (by (with_reducible repeat (first | refine kN ?_ _ | refine kD ?_ | refine kA ?_ _)); exact BK212.out) hb)
        have n2_ := Aside0.mk (bP (by repeat (first | (with_reducible first | exact HB.out | apply bA | apply bN | apply bD | refine bS ?_ GE212.out) | exact HB.out)) hb)
        have n3_ := Aside0.mk (hbox)
        have n4_ := Aside0.mk ((by rw [hg]; exact (bZ (by repeat (first | (with_reducible first | exact HB.out | apply bA | apply bN | apply bD | refine bS ?_ GE212.out) | exact HB.out))) : w.heap.size ≤ gb223))
        have n5_ := Aside0.mk ((by rw [hg]; exact (bZ (by repeat (first | (with_reducible first | exact HB.out | apply bA | apply bN | apply bD | refine bS ?_ GE212.out) | exact HB.out))) : w.heap.size ≤ gb223))
        have n6_ := Aside0.mk ((by rw [hg]; exact Nat.ne_of_lt (kL (g := gb212) (o := .cells #[.string (⟨#[]⟩ : ByteArray), .int .i64 0, .int .i64 0, .int .i64 0, .int .i64 0, .int .i64 0] 50 (0, 0)) (by (with_reducible repeat (first | refine kN ?_ _ | refine kD ?_ | refine kA ?_ _)); exact BK212.out)) : gb212 ≠ gb223))
        have n7_ := Aside0.mk ((by rw [hg]; exact Nat.ne_of_gt (kL (g := gb212) (o := .cells #[.string (⟨#[]⟩ : ByteArray), .int .i64 0, .int .i64 0, .int .i64 0, .int .i64 0, .int .i64 0] 50 (0, 0)) (by (with_reducible repeat (first | refine kN ?_ _ | refine kD ?_ | refine kA ?_ _)); exact BK212.out)) : gb223 ≠ gb212))
        clear HO217
        clear BK212
        clear HB
        have HO217 := n0_
        have BK212 := n1_
        have HB := n2_
        have BK223 := n3_
        have GW223 := n4_
        have GE223 := n5_
        have NB212_223 := n6_
        have NB223_212 := n7_
        clear n0_ n1_ n2_ n3_ n4_ n5_ n6_ n7_
        clear hb hbox hg
        refine hK.out _ _ ⟨HS0_, HS1_, HS2_, HS3_, HS4_⟩ (fun hHeld => ?_)
        clear hK K
        refine norm_ (a' := ?_) ?_ ?_
        rotate_left
        ·show Act.put _ (some 7) _ = _
         simp only [Act.put, sI, sZ, sS, iW, jW]
         rfl
        refine one_ (i := 18) (N := none) #[T,T,T,T,T,T,T,T,T,T,T,T,T,T,T,T,T,T,T] rfl rfl (oO HT_.out (by kernel_rfl)) (by decide) (fun K hK => ?_)
        have hs16 : w15.cell? ⟨gb223, 0, none⟩ = some (.string (⟨#[]⟩ : ByteArray)) := (kC BK223.out 0).trans rfl
        have hfs16 := blk_frozen BK223.out 0
        have hns16_0 := NB212_223.out
        have hms16_0 := NB223_212.out
        have hs17 : w15.cell? ⟨gb223, 1, none⟩ = some (.int .i64 0) := (kC BK223.out 1).trans rfl
        have hfs17 := blk_frozen BK223.out 1
        have hns17_0 := NB212_223.out
        have hms17_0 := NB223_212.out
        have hs18 : w15.cell? ⟨gb223, 2, none⟩ = some (.int .i64 0) := (kC BK223.out 2).trans rfl
        have hfs18 := blk_frozen BK223.out 2
        have hns18_0 := NB212_223.out
        have hms18_0 := NB223_212.out
        have hs19 : w15.cell? ⟨gb223, 3, none⟩ = some (.int .i64 0) := (kC BK223.out 3).trans rfl
        have hfs19 := blk_frozen BK223.out 3
        have hns19_0 := NB212_223.out
        have hms19_0 := NB223_212.out
        have hs20 : w15.cell? ⟨gb223, 4, none⟩ = some (.int .i64 0) := (kC BK223.out 4).trans rfl
        have hfs20 := blk_frozen BK223.out 4
        have hns20_0 := NB212_223.out
        have hms20_0 := NB223_212.out
        have hs21 : w15.cell? ⟨gb223, 5, none⟩ = some (.int .i64 0) := (kC BK223.out 5).trans rfl
        have hfs21 := blk_frozen BK223.out 5
        have hns21_0 := NB212_223.out
        have hms21_0 := NB223_212.out
        refine skip_ (w1 := ?_) (by rfl) rfl ?_ ?_
        rotate_left
        ·go_simp
         rfl
        refine hK.out _ _ ⟨ (by refine (cell_far (p := ⟨gb223, _, none⟩) (by first | ((try rw [add_block]); (try dsimp only); exact Kd.own_blk (Kd.R_ne HO217.out BK223.out (by decide))) | exact Kd.own_blk (Kd.R_ne HO217.out BK223.out (by decide)) | (show (Addr.add _ _).block ≠ _; rw [add_block]; exact Kd.own_blk (Kd.R_ne HO217.out BK223.out (by decide))) | (dsimp only; exact Kd.own_blk (Kd.R_ne HO217.out BK223.out (by decide)))) _).trans ?_; refine (cell_far (p := ⟨gb223, _, none⟩) (by first | ((try rw [add_block]); (try dsimp only); exact Kd.own_blk (Kd.R_ne HO217.out BK223.out (by decide))) | exact Kd.own_blk (Kd.R_ne HO217.out BK223.out (by decide)) | (show (Addr.add _ _).block ≠ _; rw [add_block]; exact Kd.own_blk (Kd.R_ne HO217.out BK223.out (by decide))) | (dsimp only; exact Kd.own_blk (Kd.R_ne HO217.out BK223.out (by decide)))) _).trans ?_; refine (cell_far (p := ⟨gb223, _, none⟩) (by first | ((try rw [add_block]); (try dsimp only); exact Kd.own_blk (Kd.R_ne HO217.out BK223.out (by decide))) | exact Kd.own_blk (Kd.R_ne HO217.out BK223.out (by decide)) | (show (Addr.add _ _).block ≠ _; rw [add_block]; exact Kd.own_blk (Kd.R_ne HO217.out BK223.out (by decide))) | (dsimp only; exact Kd.own_blk (Kd.R_ne HO217.out BK223.out (by decide)))) _).trans ?_; refine (cell_far (p := ⟨gb223, _, none⟩) (by first | ((try rw [add_block]); (try dsimp only); exact Kd.own_blk (Kd.R_ne HO217.out BK223.out (by decide))) | exact Kd.own_blk (Kd.R_ne HO217.out BK223.out (by decide)) | (show (Addr.add _ _).block ≠ _; rw [add_block]; exact Kd.own_blk (Kd.R_ne HO217.out BK223.out (by decide))) | (dsimp only; exact Kd.own_blk (Kd.R_ne HO217.out BK223.out (by decide)))) _).trans ?_; refine (cell_far (p := ⟨gb223, _, none⟩) (by first | ((try rw [add_block]); (try dsimp only); exact Kd.own_blk (Kd.R_ne HO217.out BK223.out (by decide))) | exact Kd.own_blk (Kd.R_ne HO217.out BK223.out (by decide)) | (show (Addr.add _ _).block ≠ _; rw [add_block]; exact Kd.own_blk (Kd.R_ne HO217.out BK223.out (by decide))) | (dsimp only; exact Kd.own_blk (Kd.R_ne HO217.out BK223.out (by decide)))) _).trans ?_; refine (cell_far (p := ⟨gb223, _, none⟩) (by first | ((try rw [add_block]); (try dsimp only); exact Kd.own_blk (Kd.R_ne HO217.out BK223.out (by decide))) | exact Kd.own_blk (Kd.R_ne HO217.out BK223.out (by decide)) | (show (Addr.add _ _).block ≠ _; rw [add_block]; exact Kd.own_blk (Kd.R_ne HO217.out BK223.out (by decide))) | (dsimp only; exact Kd.own_blk (Kd.R_ne HO217.out BK223.out (by decide)))) _).trans ?_; exact hHeld.1), (by refine (cell_far (p := ⟨gb223, _, none⟩) (by first | ((try rw [add_block]); (try dsimp only); exact Kd.own_blk (Kd.R_ne HO217.out BK223.out (by decide))) | exact Kd.own_blk (Kd.R_ne HO217.out BK223.out (by decide)) | (show (Addr.add _ _).block ≠ _; rw [add_block]; exact Kd.own_blk (Kd.R_ne HO217.out BK223.out (by decide))) | (dsimp only; exact Kd.own_blk (Kd.R_ne HO217.out BK223.out (by decide)))) _).trans ?_; refine (cell_far (p := ⟨gb223, _, none⟩) (by first | ((try rw [add_block]); (try dsimp only); exact Kd.own_blk (Kd.R_ne HO217.out BK223.out (by decide))) | exact Kd.own_blk (Kd.R_ne HO217.out BK223.out (by decide)) | (show (Addr.add _ _).block ≠ _; rw [add_block]; exact Kd.own_blk (Kd.R_ne HO217.out BK223.out (by decide))) | (dsimp only; exact Kd.own_blk (Kd.R_ne HO217.out BK223.out (by decide)))) _).trans ?_; refine (cell_far (p := ⟨gb223, _, none⟩) (by first | ((try rw [add_block]); (try dsimp only); exact Kd.own_blk (Kd.R_ne HO217.out BK223.out (by decide))) | exact Kd.own_blk (Kd.R_ne HO217.out BK223.out (by decide)) | (show (Addr.add _ _).block ≠ _; rw [add_block]; exact Kd.own_blk (Kd.R_ne HO217.out BK223.out (by decide))) | (dsimp only; exact Kd.own_blk (Kd.R_ne HO217.out BK223.out (by decide)))) _).trans ?_; refine (cell_far (p := ⟨gb223, _, none⟩) (by first | ((try rw [add_block]); (try dsimp only); exact Kd.own_blk (Kd.R_ne HO217.out BK223.out (by decide))) | exact Kd.own_blk (Kd.R_ne HO217.out BK223.out (by decide)) | (show (Addr.add _ _).block ≠ _; rw [add_block]; exact Kd.own_blk (Kd.R_ne HO217.out BK223.out (by decide))) | (dsimp only; exact Kd.own_blk (Kd.R_ne HO217.out BK223.out (by decide)))) _).trans ?_; refine (cell_far (p := ⟨gb223, _, none⟩) (by first | ((try rw [add_block]); (try dsimp only); exact Kd.own_blk (Kd.R_ne HO217.out BK223.out (by decide))) | exact Kd.own_blk (Kd.R_ne HO217.out BK223.out (by decide)) | (show (Addr.add _ _).block ≠ _; rw [add_block]; exact Kd.own_blk (Kd.R_ne HO217.out BK223.out (by decide))) | (dsimp only; exact Kd.own_blk (Kd.R_ne HO217.out BK223.out (by decide)))) _).trans ?_; refine (cell_far (p := ⟨gb223, _, none⟩) (by first | ((try rw [add_block]); (try dsimp only); exact Kd.own_blk (Kd.R_ne HO217.out BK223.out (by decide))) | exact Kd.own_blk (Kd.R_ne HO217.out BK223.out (by decide)) | (show (Addr.add _ _).block ≠ _; rw [add_block]; exact Kd.own_blk (Kd.R_ne HO217.out BK223.out (by decide))) | (dsimp only; exact Kd.own_blk (Kd.R_ne HO217.out BK223.out (by decide)))) _).trans ?_; exact hHeld.2.1), (by refine (cell_far (p := ⟨gb223, _, none⟩) (by first | ((try rw [add_block]); (try dsimp only); exact Kd.own_blk (Kd.R_ne HO217.out BK223.out (by decide))) | exact Kd.own_blk (Kd.R_ne HO217.out BK223.out (by decide)) | (show (Addr.add _ _).block ≠ _; rw [add_block]; exact Kd.own_blk (Kd.R_ne HO217.out BK223.out (by decide))) | (dsimp only; exact Kd.own_blk (Kd.R_ne HO217.out BK223.out (by decide)))) _).trans ?_; refine (cell_far (p := ⟨gb223, _, none⟩) (by first | ((try rw [add_block]); (try dsimp only); exact Kd.own_blk (Kd.R_ne HO217.out BK223.out (by decide))) | exact Kd.own_blk (Kd.R_ne HO217.out BK223.out (by decide)) | (show (Addr.add _ _).block ≠ _; rw [add_block]; exact Kd.own_blk (Kd.R_ne HO217.out BK223.out (by decide))) | (dsimp only; exact Kd.own_blk (Kd.R_ne HO217.out BK223.out (by decide)))) _).trans ?_; refine (cell_far (p := ⟨gb223, _, none⟩) (by first | ((try rw [add_block]); (try dsimp only); exact Kd.own_blk (Kd.R_ne HO217.out BK223.out (by decide))) | exact Kd.own_blk (Kd.R_ne HO217.out BK223.out (by decide)) | (show (Addr.add _ _).block ≠ _; rw [add_block]; exact Kd.own_blk (Kd.R_ne HO217.out BK223.out (by decide))) | (dsimp only; exact Kd.own_blk (Kd.R_ne HO217.out BK223.out (by decide)))) _).trans ?_; refine (cell_far (p := ⟨gb223, _, none⟩) (by first | ((try rw [add_block]); (try dsimp only); exact Kd.own_blk (Kd.R_ne HO217.out BK223.out (by decide))) | exact Kd.own_blk (Kd.R_ne HO217.out BK223.out (by decide)) | (show (Addr.add _ _).block ≠ _; rw [add_block]; exact Kd.own_blk (Kd.R_ne HO217.out BK223.out (by decide))) | (dsimp only; exact Kd.own_blk (Kd.R_ne HO217.out BK223.out (by decide)))) _).trans ?_; refine (cell_far (p := ⟨gb223, _, none⟩) (by first | ((try rw [add_block]); (try dsimp only); exact Kd.own_blk (Kd.R_ne HO217.out BK223.out (by decide))) | exact Kd.own_blk (Kd.R_ne HO217.out BK223.out (by decide)) | (show (Addr.add _ _).block ≠ _; rw [add_block]; exact Kd.own_blk (Kd.R_ne HO217.out BK223.out (by decide))) | (dsimp only; exact Kd.own_blk (Kd.R_ne HO217.out BK223.out (by decide)))) _).trans ?_; refine (cell_far (p := ⟨gb223, _, none⟩) (by first | ((try rw [add_block]); (try dsimp only); exact Kd.own_blk (Kd.R_ne HO217.out BK223.out (by decide))) | exact Kd.own_blk (Kd.R_ne HO217.out BK223.out (by decide)) | (show (Addr.add _ _).block ≠ _; rw [add_block]; exact Kd.own_blk (Kd.R_ne HO217.out BK223.out (by decide))) | (dsimp only; exact Kd.own_blk (Kd.R_ne HO217.out BK223.out (by decide)))) _).trans ?_; exact hHeld.2.2.1), (by refine (cell_far (p := ⟨gb223, _, none⟩) (by first | ((try rw [add_block]); (try dsimp only); exact Kd.own_blk (Kd.R_ne HO217.out BK223.out (by decide))) | exact Kd.own_blk (Kd.R_ne HO217.out BK223.out (by decide)) | (show (Addr.add _ _).block ≠ _; rw [add_block]; exact Kd.own_blk (Kd.R_ne HO217.out BK223.out (by decide))) | (dsimp only; exact Kd.own_blk (Kd.R_ne HO217.out BK223.out (by decide)))) _).trans ?_; refine (cell_far (p := ⟨gb223, _, none⟩) (by first | ((try rw [add_block]); (try dsimp only); exact Kd.own_blk (Kd.R_ne HO217.out BK223.out (by decide))) | exact Kd.own_blk (Kd.R_ne HO217.out BK223.out (by decide)) | (show (Addr.add _ _).block ≠ _; rw [add_block]; exact Kd.own_blk (Kd.R_ne HO217.out BK223.out (by decide))) | (dsimp only; exact Kd.own_blk (Kd.R_ne HO217.out BK223.out (by decide)))) _).trans ?_; refine (cell_far (p := ⟨gb223, _, none⟩) (by first | ((try rw [add_block]); (try dsimp only); exact Kd.own_blk (Kd.R_ne HO217.out BK223.out (by decide))) | exact Kd.own_blk (Kd.R_ne HO217.out BK223.out (by decide)) | (show (Addr.add _ _).block ≠ _; rw [add_block]; exact Kd.own_blk (Kd.R_ne HO217.out BK223.out (by decide))) | (dsimp only; exact Kd.own_blk (Kd.R_ne HO217.out BK223.out (by decide)))) _).trans ?_; refine (cell_far (p := ⟨gb223, _, none⟩) (by first | ((try rw [add_block]); (try dsimp only); exact Kd.own_blk (Kd.R_ne HO217.out BK223.out (by decide))) | exact Kd.own_blk (Kd.R_ne HO217.out BK223.out (by decide)) | (show (Addr.add _ _).block ≠ _; rw [add_block]; exact Kd.own_blk (Kd.R_ne HO217.out BK223.out (by decide))) | (dsimp only; exact Kd.own_blk (Kd.R_ne HO217.out BK223.out (by decide)))) _).trans ?_; refine (cell_far (p := ⟨gb223, _, none⟩) (by first | ((try rw [add_block]); (try dsimp only); exact Kd.own_blk (Kd.R_ne HO217.out BK223.out (by decide))) | exact Kd.own_blk (Kd.R_ne HO217.out BK223.out (by decide)) | (show (Addr.add _ _).block ≠ _; rw [add_block]; exact Kd.own_blk (Kd.R_ne HO217.out BK223.out (by decide))) | (dsimp only; exact Kd.own_blk (Kd.R_ne HO217.out BK223.out (by decide)))) _).trans ?_; refine (cell_far (p := ⟨gb223, _, none⟩) (by first | ((try rw [add_block]); (try dsimp only); exact Kd.own_blk (Kd.R_ne HO217.out BK223.out (by decide))) | exact Kd.own_blk (Kd.R_ne HO217.out BK223.out (by decide)) | (show (Addr.add _ _).block ≠ _; rw [add_block]; exact Kd.own_blk (Kd.R_ne HO217.out BK223.out (by decide))) | (dsimp only; exact Kd.own_blk (Kd.R_ne HO217.out BK223.out (by decide)))) _).trans ?_; exact hHeld.2.2.2.1), (by refine (cell_far (p := ⟨gb223, _, none⟩) (by first | ((try rw [add_block]); (try dsimp only); exact Kd.own_blk (Kd.R_ne HO217.out BK223.out (by decide))) | exact Kd.own_blk (Kd.R_ne HO217.out BK223.out (by decide)) | (show (Addr.add _ _).block ≠ _; rw [add_block]; exact Kd.own_blk (Kd.R_ne HO217.out BK223.out (by decide))) | (dsimp only; exact Kd.own_blk (Kd.R_ne HO217.out BK223.out (by decide)))) _).trans ?_; refine (cell_far (p := ⟨gb223, _, none⟩) (by first | ((try rw [add_block]); (try dsimp only); exact Kd.own_blk (Kd.R_ne HO217.out BK223.out (by decide))) | exact Kd.own_blk (Kd.R_ne HO217.out BK223.out (by decide)) | (show (Addr.add _ _).block ≠ _; rw [add_block]; exact Kd.own_blk (Kd.R_ne HO217.out BK223.out (by decide))) | (dsimp only; exact Kd.own_blk (Kd.R_ne HO217.out BK223.out (by decide)))) _).trans ?_; refine (cell_far (p := ⟨gb223, _, none⟩) (by first | ((try rw [add_block]); (try dsimp only); exact Kd.own_blk (Kd.R_ne HO217.out BK223.out (by decide))) | exact Kd.own_blk (Kd.R_ne HO217.out BK223.out (by decide)) | (show (Addr.add _ _).block ≠ _; rw [add_block]; exact Kd.own_blk (Kd.R_ne HO217.out BK223.out (by decide))) | (dsimp only; exact Kd.own_blk (Kd.R_ne HO217.out BK223.out (by decide)))) _).trans ?_; refine (cell_far (p := ⟨gb223, _, none⟩) (by first | ((try rw [add_block]); (try dsimp only); exact Kd.own_blk (Kd.R_ne HO217.out BK223.out (by decide))) | exact Kd.own_blk (Kd.R_ne HO217.out BK223.out (by decide)) | (show (Addr.add _ _).block ≠ _; rw [add_block]; exact Kd.own_blk (Kd.R_ne HO217.out BK223.out (by decide))) | (dsimp only; exact Kd.own_blk (Kd.R_ne HO217.out BK223.out (by decide)))) _).trans ?_; refine (cell_far (p := ⟨gb223, _, none⟩) (by first | ((try rw [add_block]); (try dsimp only); exact Kd.own_blk (Kd.R_ne HO217.out BK223.out (by decide))) | exact Kd.own_blk (Kd.R_ne HO217.out BK223.out (by decide)) | (show (Addr.add _ _).block ≠ _; rw [add_block]; exact Kd.own_blk (Kd.R_ne HO217.out BK223.out (by decide))) | (dsimp only; exact Kd.own_blk (Kd.R_ne HO217.out BK223.out (by decide)))) _).trans ?_; refine (cell_far (p := ⟨gb223, _, none⟩) (by first | ((try rw [add_block]); (try dsimp only); exact Kd.own_blk (Kd.R_ne HO217.out BK223.out (by decide))) | exact Kd.own_blk (Kd.R_ne HO217.out BK223.out (by decide)) | (show (Addr.add _ _).block ≠ _; rw [add_block]; exact Kd.own_blk (Kd.R_ne HO217.out BK223.out (by decide))) | (dsimp only; exact Kd.own_blk (Kd.R_ne HO217.out BK223.out (by decide)))) _).trans ?_; exact hHeld.2.2.2.2)⟩ (fun hHeld => ?_)
        clear hK K
        refine done_ (done_of HT_.out (by kernel_rfl)) ?_
        have hnb22 := NB223_212.out
        have hnc22 := NB212_223.out
        have hcz23_0 : w15.cell? ⟨gb223, 0, none⟩ = some (.string (⟨#[]⟩ : ByteArray)) := (kC BK223.out 0).trans rfl
        have hcz23_1 : w15.cell? ⟨gb223, 1, none⟩ = some (.int .i64 0) := (kC BK223.out 1).trans rfl
        have hcz23_2 : w15.cell? ⟨gb223, 2, none⟩ = some (.int .i64 0) := (kC BK223.out 2).trans rfl
        have hcz23_3 : w15.cell? ⟨gb223, 3, none⟩ = some (.int .i64 0) := (kC BK223.out 3).trans rfl
        have hcz23_4 : w15.cell? ⟨gb223, 4, none⟩ = some (.int .i64 0) := (kC BK223.out 4).trans rfl
        have hcz23_5 : w15.cell? ⟨gb223, 5, none⟩ = some (.int .i64 0) := (kC BK223.out 5).trans rfl
        have hfz23_0 := blk_frozen BK223.out 0
        have hfz23_1 := blk_frozen BK223.out 1
        have hfz23_2 := blk_frozen BK223.out 2
        have hfz23_3 := blk_frozen BK223.out 3
        have hfz23_4 := blk_frozen BK223.out 4
        have hfz23_5 := blk_frozen BK223.out 5
        try go_wp2_with (first | (go_at_call 60; (with_reducible refine (impl_ItemText.calls k t213 (rd t214 0) (rd t214 1) (rd t214 2) (rd t214 3) (rd t214 4) t224 _ (by first | exact hT | exact TabR.below hT HB.out | exact TabR.below hT (by repeat (first | (with_reducible first | exact HB.out | apply bA | apply bN | apply bD | refine bS ?_ GE212.out | refine bS ?_ GE223.out) | exact HB.out)) | exact TabR.below hT (Below.refl _ _)) A9.out).mono ?_); rintro e w24 ⟨rfl, hb⟩; have n0_ := Aside0.mk (rB (by (with_reducible repeat (first | apply rA | apply rN | apply rD)); exact (rM (Kd.R_far (p := ⟨gb223, 5, none⟩) (Kd.R_far (p := ⟨gb223, 4, none⟩) (Kd.R_far (p := ⟨gb223, 3, none⟩) (Kd.R_far (p := ⟨gb223, 2, none⟩) (Kd.R_far (p := ⟨gb223, 1, none⟩) (Kd.R_far (p := ⟨gb223, 0, none⟩) (Kd.R_types HO217.out BK223.out (by decide)) (fun _ hk => hk.2) (.string t213)) (fun _ hk => hk.2) (.int .i64 (rd t214 0))) (fun _ hk => hk.2) (.int .i64 (rd t214 1))) (fun _ hk => hk.2) (.int .i64 (rd t214 2))) (fun _ hk => hk.2) (.int .i64 (rd t214 3))) (fun _ hk => hk.2) (.int .i64 (rd t214 4))) (fun _ h_ => h_.1))) hb); have n1_ := Aside0.mk (kB (g := gb212) (o := .cells #[.string (⟨#[]⟩ : ByteArray), .int .i64 0, .int .i64 0, .int .i64 0, .int .i64 0, .int .i64 0] 50 (0, 0)) (by (with_reducible repeat (first | refine kN ?_ _ | refine kD ?_ | refine kA ?_ _)); refine kF ?_ NB212_223.out _; (with_reducible repeat (first | refine kN ?_ _ | refine kD ?_ | refine kA ?_ _)); refine kF ?_ NB212_223.out _; (with_reducible repeat (first | refine kN ?_ _ | refine kD ?_ | refine kA ?_ _)); refine kF ?_ NB212_223.out _; (with_reducible repeat (first | refine kN ?_ _ | refine kD ?_ | refine kA ?_ _)); refine kF ?_ NB212_223.out _; (with_reducible repeat (first | refine kN ?_ _ | refine kD ?_ | refine kA ?_ _)); refine kF ?_ NB212_223.out _; (with_reducible repeat (first | refine kN ?_ _ | refine kD ?_ | refine kA ?_ _)); refine kF ?_ NB212_223.out _; (with_reducible repeat (first | refine kN ?_ _ | refine kD ?_ | refine kA ?_ _)); exact BK212.out) hb); have n2_ := Aside0.mk (kB (g := gb223) (o := .cells #[.string t213, .int .i64 (rd t214 0), .int .i64 (rd t214 1), .int .i64 (rd t214 2), .int .i64 (rd t214 3), .int .i64 (rd t214 4)] 50 (0, 0)) (by (with_reducible repeat (first | refine kN ?_ _ | refine kD ?_ | refine kA ?_ _)); refine blk_put (cs := #[.string t213, .int .i64 (rd t214 0), .int .i64 (rd t214 1), .int .i64 (rd t214 2), .int .i64 (rd t214 3), .int .i64 0]) ?_ 5 _ rfl; (with_reducible repeat (first | refine kN ?_ _ | refine kD ?_ | refine kA ?_ _)); refine blk_put (cs := #[.string t213, .int .i64 (rd t214 0), .int .i64 (rd t214 1), .int .i64 (rd t214 2), .int .i64 0, .int .i64 0]) ?_ 4 _ rfl; (with_reducible repeat (first | refine kN ?_ _ | refine kD ?_ | refine kA ?_ _)); refine blk_put (cs := #[.string t213, .int .i64 (rd t214 0), .int .i64 (rd t214 1), .int .i64 0, .int .i64 0, .int .i64 0]) ?_ 3 _ rfl; (with_reducible repeat (first | refine kN ?_ _ | refine kD ?_ | refine kA ?_ _)); refine blk_put (cs := #[.string t213, .int .i64 (rd t214 0), .int .i64 0, .int .i64 0, .int .i64 0, .int .i64 0]) ?_ 2 _ rfl; (with_reducible repeat (first | refine kN ?_ _ | refine kD ?_ | refine kA ?_ _)); refine blk_put (cs := #[.string t213, .int .i64 0, .int .i64 0, .int .i64 0, .int .i64 0, .int .i64 0]) ?_ 1 _ rfl; (with_reducible repeat (first | refine kN ?_ _ | refine kD ?_ | refine kA ?_ _)); refine blk_put (cs := #[.string (⟨#[]⟩ : ByteArray), .int .i64 0, .int .i64 0, .int .i64 0, .int .i64 0, .int .i64 0]) ?_ 0 _ rfl; (with_reducible repeat (first | refine kN ?_ _ | refine kD ?_ | refine kA ?_ _)); exact BK223.out) hb); have n3_ := Aside0.mk (bP (by repeat (first | (with_reducible first | exact HB.out | apply bA | apply bN | apply bD | refine bS ?_ GE212.out | refine bS ?_ GE223.out) | exact HB.out)) hb); clear HO217; clear BK212; clear BK223; clear HB; have HO217 := n0_; have BK212 := n1_; have BK223 := n2_; have HB := n3_; clear n0_ n1_ n2_ n3_; (try clear hb); (try clear hb2); (try clear hk); (try clear hi); have hcz25_0 : w24.cell? ⟨gb223, 0, none⟩ = some (.string t213) := (kC BK223.out 0).trans rfl; have hcz25_1 : w24.cell? ⟨gb223, 1, none⟩ = some (.int .i64 (rd t214 0)) := (kC BK223.out 1).trans rfl; have hcz25_2 : w24.cell? ⟨gb223, 2, none⟩ = some (.int .i64 (rd t214 1)) := (kC BK223.out 2).trans rfl; have hcz25_3 : w24.cell? ⟨gb223, 3, none⟩ = some (.int .i64 (rd t214 2)) := (kC BK223.out 3).trans rfl; have hcz25_4 : w24.cell? ⟨gb223, 4, none⟩ = some (.int .i64 (rd t214 3)) := (kC BK223.out 4).trans rfl; have hcz25_5 : w24.cell? ⟨gb223, 5, none⟩ = some (.int .i64 (rd t214 4)) := (kC BK223.out 5).trans rfl; have hfz25_0 := blk_frozen BK223.out 0; have hfz25_1 := blk_frozen BK223.out 1; have hfz25_2 := blk_frozen BK223.out 2; have hfz25_3 := blk_frozen BK223.out 3; have hfz25_4 := blk_frozen BK223.out 4; have hfz25_5 := blk_frozen BK223.out 5; have hcz26_0 : w24.cell? ⟨gb212, 0, none⟩ = some (.string (⟨#[]⟩ : ByteArray)) := (kC BK212.out 0).trans rfl; have hcz26_1 : w24.cell? ⟨gb212, 1, none⟩ = some (.int .i64 0) := (kC BK212.out 1).trans rfl; have hcz26_2 : w24.cell? ⟨gb212, 2, none⟩ = some (.int .i64 0) := (kC BK212.out 2).trans rfl; have hcz26_3 : w24.cell? ⟨gb212, 3, none⟩ = some (.int .i64 0) := (kC BK212.out 3).trans rfl; have hcz26_4 : w24.cell? ⟨gb212, 4, none⟩ = some (.int .i64 0) := (kC BK212.out 4).trans rfl; have hcz26_5 : w24.cell? ⟨gb212, 5, none⟩ = some (.int .i64 0) := (kC BK212.out 5).trans rfl; have hfz26_0 := blk_frozen BK212.out 0; have hfz26_1 := blk_frozen BK212.out 1; have hfz26_2 := blk_frozen BK212.out 2; have hfz26_3 := blk_frozen BK212.out 3; have hfz26_4 := blk_frozen BK212.out 4; have hfz26_5 := blk_frozen BK212.out 5))
        refine bodyPost_ret (results_ct rfl _ _ gb212 50 #[.string t213, .int .i64 (rd t214 0), .int .i64 (rd t214 1), .int .i64 (rd t214 2), .int .i64 (rd t214 3), .int .i64 (rd t214 4)] (0, 0) _ rfl (by (with_reducible repeat (first | refine kN ?_ _ | refine kD ?_ | refine kA ?_ _)); refine blk_put (cs := #[.string t213, .int .i64 (rd t214 0), .int .i64 (rd t214 1), .int .i64 (rd t214 2), .int .i64 (rd t214 3), .int .i64 0]) ?_ 5 _ rfl; (with_reducible repeat (first | refine kN ?_ _ | refine kD ?_ | refine kA ?_ _)); refine blk_put (cs := #[.string t213, .int .i64 (rd t214 0), .int .i64 (rd t214 1), .int .i64 (rd t214 2), .int .i64 0, .int .i64 0]) ?_ 4 _ rfl; (with_reducible repeat (first | refine kN ?_ _ | refine kD ?_ | refine kA ?_ _)); refine blk_put (cs := #[.string t213, .int .i64 (rd t214 0), .int .i64 (rd t214 1), .int .i64 0, .int .i64 0, .int .i64 0]) ?_ 3 _ rfl; (with_reducible repeat (first | refine kN ?_ _ | refine kD ?_ | refine kA ?_ _)); refine blk_put (cs := #[.string t213, .int .i64 (rd t214 0), .int .i64 0, .int .i64 0, .int .i64 0, .int .i64 0]) ?_ 2 _ rfl; (with_reducible repeat (first | refine kN ?_ _ | refine kD ?_ | refine kA ?_ _)); refine blk_put (cs := #[.string t213, .int .i64 0, .int .i64 0, .int .i64 0, .int .i64 0, .int .i64 0]) ?_ 1 _ rfl; (with_reducible repeat (first | refine kN ?_ _ | refine kD ?_ | refine kA ?_ _)); refine blk_put (cs := #[.string (⟨#[]⟩ : ByteArray), .int .i64 0, .int .i64 0, .int .i64 0, .int .i64 0, .int .i64 0]) ?_ 0 _ rfl; (with_reducible repeat (first | refine kN ?_ _ | refine kD ?_ | refine kA ?_ _)); exact BK212.out) Tryd.underlying50 rfl (by kernel_rfl)) rfl ?_
        exact ⟨by first | rfl | (simp [errW_none, errW_some] <;> rfl) | (simp [*, errW_none, errW_some] <;> rfl), by repeat (first | (with_reducible first | exact HB.out | apply bA | apply bN | apply bD | refine bS ?_ GE212.out | refine bS ?_ GE223.out) | exact HB.out)⟩
       ·rw [if_neg c10] at H
        have c10b0 : (t224.toList == a0.toList) = false := beq_eq_false_iff_ne.mpr c10
        have c10b1 : (t224.toList != a0.toList) = true := bne_iff_ne.mpr c10
        simp only [Option.some.injEq, Prod.mk.injEq] at H
        obtain ⟨rfl, rfl, rfl, rfl, rfl, rfl, rfl⟩ := H
        go_enter Tryd.func28, Tryd.ntmps28
        try go_wp2_with (first | ((with_reducible refine gate_dst (N := 2) rfl ?_); refine bE ?hg (N := 2) ?hd (cs := #[.string (⟨#[]⟩ : ByteArray), .int .i64 0, .int .i64 0, .int .i64 0, .int .i64 0, .int .i64 0]) (t := 50) ?hr ?_; (case hd => rfl); (case hg => rfl); (case hr => first | (go_simp; done) | (go_simp; rfl)); intro gb212 hg w27 hbox hb; have n0_ := Aside0.mk (bP (by repeat (first | (with_reducible first | exact HB.out | apply bA | apply bN | apply bD) | exact HB.out)) hb); have n1_ := Aside0.mk (hbox); have n2_ := Aside0.mk ((by rw [hg]; exact (bZ (by repeat (first | (with_reducible first | exact HB.out | apply bA | apply bN | apply bD) | exact HB.out))) : w.heap.size ≤ gb212)); have n3_ := Aside0.mk ((by rw [hg]; exact (bZ (by repeat (first | (with_reducible first | exact HB.out | apply bA | apply bN | apply bD) | exact HB.out))) : w.heap.size ≤ gb212)); clear HB; have HB := n0_; have BK212 := n1_; have GW212 := n2_; have GE212 := n3_; clear n0_ n1_ n2_ n3_; clear hb hbox hg) | ((with_reducible refine gC (f := 59) rfl ?_); refine goesL_ (some 10) rfl rfl Tryd.func59 (by kernel_rfl) rfl #[.string a0, .int .i64 5] rfl (by (try simp only [List.map_toArray, List.map_cons, List.map_nil]); first | done | rfl | (simp only [List.length_drop, List.length_take]; rfl)) ?_; (with_reducible refine (impl_readWithId.calls k a0 5 t213 t214 true _ (by first | exact hT | exact TabR.below hT HB.out | exact TabR.below hT (by repeat (first | (with_reducible first | exact HB.out | apply bA | apply bN | apply bD | refine bS ?_ GE212.out | refine bS ?_ GE223.out) | exact HB.out)) | exact TabR.below hT (Below.refl _ _)) A2.out).mono ?_); rintro e w28 ⟨v216, rfl, ho0, hb⟩; refine ⟨_, rfl, ?_⟩; have n0_ := Aside0.mk (rL ho0 (bZ (by repeat (first | (with_reducible first | exact HB.out | apply bA | apply bN | apply bD | refine bS ?_ GE212.out) | exact HB.out)))); have n1_ := Aside0.mk (kB (g := gb212) (o := .cells #[.string (⟨#[]⟩ : ByteArray), .int .i64 0, .int .i64 0, .int .i64 0, .int .i64 0, .int .i64 0] 50 (0, 0)) (by (with_reducible repeat (first | refine kN ?_ _ | refine kD ?_ | refine kA ?_ _)); exact BK212.out) hb); have n2_ := Aside0.mk (bP (by repeat (first | (with_reducible first | exact HB.out | apply bA | apply bN | apply bD | refine bS ?_ GE212.out) | exact HB.out)) hb); clear BK212; clear HB; have HO217 := n0_; have BK212 := n1_; have HB := n2_; clear n0_ n1_ n2_; (try clear hb); (try clear hb2); (try clear hk); (try clear hi); (try clear ho0)))
        have n0_ := Aside0.mk (rD HO217.out)
        have n1_ := Aside0.mk (kD BK212.out)
        have n2_ := Aside0.mk (bD HB.out)
        clear HO217
        clear BK212
        clear HB
        have HO217 := n0_
        have BK212 := n1_
        have HB := n2_
        clear n0_ n1_ n2_
        obtain ⟨Ao30, co30, eo30⟩ := Kd.R_slice HO217.out
        (first | subst eo30 | (injection eo30 with f1_ f2_ f3_; have f4_ := f1_.symm; have f5_ := f3_.symm; clear f1_ f2_ f3_; subst f4_; subst f5_))
        have p218 : 0 ≤ (0 : Int) := (by omega)
        have q218 : 0 < (t214.length : Int) := of_decide_eq_true (by first | (with_reducible assumption) | assumption)
        obtain ⟨ad218, e218, hx218_0⟩ := Kd.at_int (Kd.R_reads' HO217.out).2.2 0 p218 q218
        cases e218
        have qi218 : (0 < t214.length) = True := eq_true (by omega)
        (try rw [show ((0 : Int)).toNat = 0 from rfl] at hx218_0)
        (try rw [Addr.add_zero'] at hx218_0)
        replace p218 := eq_true p218
        replace q218 := eq_true q218
        have p219 : 0 ≤ (1 : Int) := (by omega)
        have q219 : 1 < (t214.length : Int) := of_decide_eq_true (by first | (with_reducible assumption) | assumption)
        obtain ⟨ad219, e219, hx219_0⟩ := Kd.at_int (Kd.R_reads' HO217.out).2.2 1 p219 q219
        obtain rfl : ad218 = ad219 := (by injection e219)
        (try simp only [show (1 : Int).toNat = 1 from rfl, Nat.reduceMul, Nat.reduceEqDiff, Go.Addr.add, ↓reduceIte] at hx219_0)
        have qi219 : (1 < t214.length) = True := eq_true (by omega)
        (try rw [show ((1 : Int)).toNat = 1 from rfl] at hx219_0)
        replace p219 := eq_true p219
        replace q219 := eq_true q219
        have p220 : 0 ≤ (2 : Int) := (by omega)
        have q220 : 2 < (t214.length : Int) := of_decide_eq_true (by first | (with_reducible assumption) | assumption)
        obtain ⟨ad220, e220, hx220_0⟩ := Kd.at_int (Kd.R_reads' HO217.out).2.2 2 p220 q220
        obtain rfl : ad218 = ad220 := (by injection e220)
        (try simp only [show (2 : Int).toNat = 2 from rfl, Nat.reduceMul, Nat.reduceEqDiff, Go.Addr.add, ↓reduceIte] at hx220_0)
        have qi220 : (2 < t214.length) = True := eq_true (by omega)
        (try rw [show ((2 : Int)).toNat = 2 from rfl] at hx220_0)
        replace p220 := eq_true p220
        replace q220 := eq_true q220
        have p221 : 0 ≤ (3 : Int) := (by omega)
        have q221 : 3 < (t214.length : Int) := of_decide_eq_true (by first | (with_reducible assumption) | assumption)
        obtain ⟨ad221, e221, hx221_0⟩ := Kd.at_int (Kd.R_reads' HO217.out).2.2 3 p221 q221
        obtain rfl : ad218 = ad221 := (by injection e221)
        (try simp only [show (3 : Int).toNat = 3 from rfl, Nat.reduceMul, Nat.reduceEqDiff, Go.Addr.add, ↓reduceIte] at hx221_0)
        have qi221 : (3 < t214.length) = True := eq_true (by omega)
        (try rw [show ((3 : Int)).toNat = 3 from rfl] at hx221_0)
        replace p221 := eq_true p221
        replace q221 := eq_true q221
        have p222 : 0 ≤ (4 : Int) := (by omega)
        have q222 : 4 < (t214.length : Int) := of_decide_eq_true (by first | (with_reducible assumption) | assumption)
        obtain ⟨ad222, e222, hx222_0⟩ := Kd.at_int (Kd.R_reads' HO217.out).2.2 4 p222 q222
        obtain rfl : ad218 = ad222 := (by injection e222)
        (try simp only [show (4 : Int).toNat = 4 from rfl, Nat.reduceMul, Nat.reduceEqDiff, Go.Addr.add, ↓reduceIte] at hx222_0)
        have qi222 : (4 < t214.length) = True := eq_true (by omega)
        (try rw [show ((4 : Int)).toNat = 4 from rfl] at hx222_0)
        replace p222 := eq_true p222
        replace q222 := eq_true q222
        refine start_ (n := 19) (S := fun w' => w'.cell? ad218 = some (.int .i64 (rd t214 0)) ∧ w'.cell? ⟨ad218.block, ad218.off + 1, none⟩ = some (.int .i64 (rd t214 1)) ∧ w'.cell? ⟨ad218.block, ad218.off + 2, none⟩ = some (.int .i64 (rd t214 2)) ∧ w'.cell? ⟨ad218.block, ad218.off + 3, none⟩ = some (.int .i64 (rd t214 3)) ∧ w'.cell? ⟨ad218.block, ad218.off + 4, none⟩ = some (.int .i64 (rd t214 4))) (ds := []) #[F,F,F,F,F,F,F,F,F,F,F,F,F,F,F,F,F,F,F] (by kernel_rfl) rfl rfl ⟨hx218_0, hx219_0, hx220_0, hx221_0, hx222_0⟩ (fun hHeld => ?_); refine with_tabW impl_ReadItem.tab2 impl_ReadItem.bits2 (fun HT_ HW_ => ?_)
        generalize w28.drew = w29 at HO217 BK212 HB hx218_0 hx219_0 hx220_0 hx221_0 hx222_0 hHeld ⊢
        refine pure_ (i := 0) (N := some 14) (v := ?_) (a' := ?_) #[T,F,F,F,F,F,F,F,F,F,F,F,F,F,F,F,F,F,F] rfl rfl (aO HT_.out (by kernel_rfl)) (fun _ _ _ h => h) (Or.inl ⟨by rfl, ?_⟩) ?_ ?_; rotate_left; (·intro w'; go_simp; with_reducible rfl); rotate_left; (·simp only [Act.put, sI, sZ, sS, iW, jW]; rfl)
        refine pure_ (i := 1) (N := some 15) (v := ?_) (a' := ?_) #[T,T,F,F,F,F,F,F,F,F,F,F,F,F,F,F,F,F,F] rfl rfl (aO HT_.out (by kernel_rfl)) (fun _ _ _ h => h) (Or.inl ⟨by rfl, ?_⟩) ?_ ?_; rotate_left; (·intro w'; go_simp; with_reducible rfl); rotate_left; (·simp only [Act.put, sI, sZ, sS, iW, jW]; rfl)
        refine pure_ (i := 2) (N := some 16) (v := ?_) (a' := ?_) #[T,T,T,F,F,F,F,F,F,F,F,F,F,F,F,F,F,F,F] rfl rfl (aO HT_.out (by kernel_rfl)) (fun _ _ _ h => h) (Or.inl ⟨by rfl, ?_⟩) ?_ ?_; rotate_left; (·intro w'; go_simp; with_reducible rfl); rotate_left; (·simp only [Act.put, sI, sZ, sS, iW, jW]; rfl)
        refine pure_ (i := 4) (N := some 18) (v := ?_) (a' := ?_) #[T,T,T,F,T,F,F,F,F,F,F,F,F,F,F,F,F,F,F] rfl rfl (aO HT_.out (by kernel_rfl)) (fun _ _ _ h => h) (Or.inl ⟨by rfl, ?_⟩) ?_ ?_; rotate_left; (·intro w'; go_simp; with_reducible rfl); rotate_left; (·simp only [Act.put, sI, sZ, sS, iW, jW]; rfl)
        refine pure_ (i := 5) (N := some 19) (v := ?_) (a' := ?_) #[T,T,T,F,T,T,F,F,F,F,F,F,F,F,F,F,F,F,F] rfl rfl (aO HT_.out (by kernel_rfl)) (fun _ _ _ h => h) (Or.inl ⟨by rfl, ?_⟩) ?_ ?_; rotate_left; (·intro w'; go_simp; with_reducible rfl); rotate_left; (·simp only [Act.put, sI, sZ, sS, iW, jW]; rfl)
        refine pure_ (i := 7) (N := some 21) (v := ?_) (a' := ?_) #[T,T,T,F,T,T,F,T,F,F,F,F,F,F,F,F,F,F,F] rfl rfl (aO HT_.out (by kernel_rfl)) (fun _ _ _ h => h) (Or.inl ⟨by rfl, ?_⟩) ?_ ?_; rotate_left; (·intro w'; go_simp; with_reducible rfl); rotate_left; (·simp only [Act.put, sI, sZ, sS, iW, jW]; rfl)
        refine pure_ (i := 8) (N := some 22) (v := ?_) (a' := ?_) #[T,T,T,F,T,T,F,T,T,F,F,F,F,F,F,F,F,F,F] rfl rfl (aO HT_.out (by kernel_rfl)) (fun _ _ _ h => h) (Or.inl ⟨by rfl, ?_⟩) ?_ ?_; rotate_left; (·intro w'; go_simp; with_reducible rfl); rotate_left; (·simp only [Act.put, sI, sZ, sS, iW, jW]; rfl)
        refine pure_ (i := 10) (N := some 24) (v := ?_) (a' := ?_) #[T,T,T,F,T,T,F,T,T,F,T,F,F,F,F,F,F,F,F] rfl rfl (aO HT_.out (by kernel_rfl)) (fun _ _ _ h => h) (Or.inl ⟨by rfl, ?_⟩) ?_ ?_; rotate_left; (·intro w'; go_simp; with_reducible rfl); rotate_left; (·simp only [Act.put, sI, sZ, sS, iW, jW]; rfl)
        refine pure_ (i := 11) (N := some 25) (v := ?_) (a' := ?_) #[T,T,T,F,T,T,F,T,T,F,T,T,F,F,F,F,F,F,F] rfl rfl (aO HT_.out (by kernel_rfl)) (fun _ _ _ h => h) (Or.inl ⟨by rfl, ?_⟩) ?_ ?_; rotate_left; (·intro w'; go_simp; with_reducible rfl); rotate_left; (·simp only [Act.put, sI, sZ, sS, iW, jW]; rfl)
        refine pure_ (i := 13) (N := some 27) (v := ?_) (a' := ?_) #[T,T,T,F,T,T,F,T,T,F,T,T,F,T,F,F,F,F,F] rfl rfl (aO HT_.out (by kernel_rfl)) (fun _ _ _ h => h) (Or.inl ⟨by rfl, ?_⟩) ?_ ?_; rotate_left; (·intro w'; go_simp; with_reducible rfl); rotate_left; (·simp only [Act.put, sI, sZ, sS, iW, jW]; rfl)
        refine pure_ (i := 14) (N := some 28) (v := ?_) (a' := ?_) #[T,T,T,F,T,T,F,T,T,F,T,T,F,T,T,F,F,F,F] rfl rfl (aO HT_.out (by kernel_rfl)) (fun _ _ _ h => h) (Or.inl ⟨by rfl, ?_⟩) ?_ ?_; rotate_left; (·intro w'; go_simp; with_reducible rfl); rotate_left; (·simp only [Act.put, sI, sZ, sS, iW, jW]; rfl)
        refine take_ (i := 3) (N := some 17) (v := ?_) (a' := ?_) #[T,T,T,T,T,T,F,T,T,F,T,T,F,T,T,F,F,F,F] rfl rfl (tW HT_.out HW_.out (by kernel_rfl)) (fun _ _ _ h => h) (Or.inl ⟨by rfl, ?_⟩) hHeld ?_ ?_; rotate_left; (·rintro w' ⟨s0, s1, s2, s3, s4⟩; go_simp; with_reducible rfl); rotate_left; (·simp only [Act.put, sI, sZ, sS, iW, jW]; rfl)
        refine take_ (i := 6) (N := some 20) (v := ?_) (a' := ?_) #[T,T,T,T,T,T,T,T,T,F,T,T,F,T,T,F,F,F,F] rfl rfl (tW HT_.out HW_.out (by kernel_rfl)) (fun _ _ _ h => h) (Or.inl ⟨by rfl, ?_⟩) hHeld ?_ ?_; rotate_left; (·rintro w' ⟨s0, s1, s2, s3, s4⟩; go_simp; with_reducible rfl); rotate_left; (·simp only [Act.put, sI, sZ, sS, iW, jW]; rfl)
        refine take_ (i := 9) (N := some 23) (v := ?_) (a' := ?_) #[T,T,T,T,T,T,T,T,T,T,T,T,F,T,T,F,F,F,F] rfl rfl (tW HT_.out HW_.out (by kernel_rfl)) (fun _ _ _ h => h) (Or.inl ⟨by rfl, ?_⟩) hHeld ?_ ?_; rotate_left; (·rintro w' ⟨s0, s1, s2, s3, s4⟩; go_simp; with_reducible rfl); rotate_left; (·simp only [Act.put, sI, sZ, sS, iW, jW]; rfl)
        refine take_ (i := 12) (N := some 26) (v := ?_) (a' := ?_) #[T,T,T,T,T,T,T,T,T,T,T,T,T,T,T,F,F,F,F] rfl rfl (tW HT_.out HW_.out (by kernel_rfl)) (fun _ _ _ h => h) (Or.inl ⟨by rfl, ?_⟩) hHeld ?_ ?_; rotate_left; (·rintro w' ⟨s0, s1, s2, s3, s4⟩; go_simp; with_reducible rfl); rotate_left; (·simp only [Act.put, sI, sZ, sS, iW, jW]; rfl)
        refine take_ (i := 15) (N := some 29) (v := ?_) (a' := ?_) #[T,T,T,T,T,T,T,T,T,T,T,T,T,T,T,T,F,F,F] rfl rfl (tW HT_.out HW_.out (by kernel_rfl)) (fun _ _ _ h => h) (Or.inl ⟨by rfl, ?_⟩) hHeld ?_ ?_; rotate_left; (·rintro w' ⟨s0, s1, s2, s3, s4⟩; go_simp; with_reducible rfl); rotate_left; (·simp only [Act.put, sI, sZ, sS, iW, jW]; rfl)
        refine pure_ (i := 16) (N := some 30) (v := ?_) (a' := ?_) #[T,T,T,T,T,T,T,T,T,T,T,T,T,T,T,T,T,F,F] rfl rfl (aO HT_.out (by kernel_rfl)) (fun _ _ _ h => h) (Or.inl ⟨by rfl, ?_⟩) ?_ ?_; rotate_left; (·intro w'; go_simp; with_reducible rfl); rotate_left; (·simp only [Act.put, sI, sZ, sS, iW, jW]; rfl)
        refine one_ (i := 17) (N := some 7) #[T,T,T,T,T,T,T,T,T,T,T,T,T,T,T,T,T,T,F] rfl rfl (oO HT_.out (by kernel_rfl)) (by decide) (fun K hK => ?_)
        refine box_step ?hg (N := 7) ?hd (cs := #[.string (⟨#[]⟩ : ByteArray), .int .i64 0, .int .i64 0, .int .i64 0, .int .i64 0, .int .i64 0]) (t := 50) ?hr ?_; (case hd => rfl); (case hg => rfl); (case hr => first | (go_simp; done) | (go_simp; rfl))
        intro gb223 hg w31 hbox hb
        have HS0_ := (hb.cell (World.block_lt_of_cell? _ _ (hHeld.1))).trans (hHeld.1)
        have HS1_ := (hb.cell (World.block_lt_of_cell? _ _ (hHeld.2.1))).trans (hHeld.2.1)
        have HS2_ := (hb.cell (World.block_lt_of_cell? _ _ (hHeld.2.2.1))).trans (hHeld.2.2.1)
        have HS3_ := (hb.cell (World.block_lt_of_cell? _ _ (hHeld.2.2.2.1))).trans (hHeld.2.2.2.1)
        have HS4_ := (hb.cell (World.block_lt_of_cell? _ _ (hHeld.2.2.2.2))).trans (hHeld.2.2.2.2)
        have n0_ := Aside0.mk (rB (by (with_reducible repeat (first | apply rA | apply rN | apply rD)); exact HO217.out) hb)
        have n1_ := Aside0.mk (kB (g := gb212) (o := .cells #[.string (⟨#[]⟩ : ByteArray), .int .i64 0, .int .i64 0, .int .i64 0, .int .i64 0, .int .i64 0] 50 (0, 0)) (by (with_reducible repeat (first | refine kN ?_ _ | refine kD ?_ | refine kA ?_ _)); exact BK212.out) hb)
        have n2_ := Aside0.mk (bP (by repeat (first | (with_reducible first | exact HB.out | apply bA | apply bN | apply bD | refine bS ?_ GE212.out) | exact HB.out)) hb)
        have n3_ := Aside0.mk (hbox)
        have n4_ := Aside0.mk ((by rw [hg]; exact (bZ (by repeat (first | (with_reducible first | exact HB.out | apply bA | apply bN | apply bD | refine bS ?_ GE212.out) | exact HB.out))) : w.heap.size ≤ gb223))
        have n5_ := Aside0.mk ((by rw [hg]; exact (bZ (by repeat (first | (with_reducible first | exact HB.out | apply bA | apply bN | apply bD | refine bS ?_ GE212.out) | exact HB.out))) : w.heap.size ≤ gb223))
        have n6_ := Aside0.mk ((by rw [hg]; exact Nat.ne_of_lt (kL (g := gb212) (o := .cells #[.string (⟨#[]⟩ : ByteArray), .int .i64 0, .int .i64 0, .int .i64 0, .int .i64 0, .int .i64 0] 50 (0, 0)) (by (with_reducible repeat (first | refine kN ?_ _ | refine kD ?_ | refine kA ?_ _)); exact BK212.out)) : gb212 ≠ gb223))
        have n7_ := Aside0.mk ((by rw [hg]; exact Nat.ne_of_gt (kL (g := gb212) (o := .cells #[.string (⟨#[]⟩ : ByteArray), .int .i64 0, .int .i64 0, .int .i64 0, .int .i64 0, .int .i64 0] 50 (0, 0)) (by (with_reducible repeat (first | refine kN ?_ _ | refine kD ?_ | refine kA ?_ _)); exact BK212.out)) : gb223 ≠ gb212))
        clear HO217
        clear BK212
        clear HB
        have HO217 := n0_
        have BK212 := n1_
        have HB := n2_
        have BK223 := n3_
        have GW223 := n4_
        have GE223 := n5_
        have NB212_223 := n6_
        have NB223_212 := n7_
        clear n0_ n1_ n2_ n3_ n4_ n5_ n6_ n7_
        clear hb hbox hg
        refine hK.out _ _ ⟨HS0_, HS1_, HS2_, HS3_, HS4_⟩ (fun hHeld => ?_)
        clear hK K
        refine norm_ (a' := ?_) ?_ ?_
        rotate_left
        ·show Act.put _ (some 7) _ = _
         simp only [Act.put, sI, sZ, sS, iW, jW]
         rfl
        refine one_ (i := 18) (N := none) #[T,T,T,T,T,T,T,T,T,T,T,T,T,T,T,T,T,T,T] rfl rfl (oO HT_.out (by kernel_rfl)) (by decide) (fun K hK => ?_)
        have hs32 : w31.cell? ⟨gb223, 0, none⟩ = some (.string (⟨#[]⟩ : ByteArray)) := (kC BK223.out 0).trans rfl
        have hfs32 := blk_frozen BK223.out 0
        have hns32_0 := NB212_223.out
        have hms32_0 := NB223_212.out
        have hs33 : w31.cell? ⟨gb223, 1, none⟩ = some (.int .i64 0) := (kC BK223.out 1).trans rfl
        have hfs33 := blk_frozen BK223.out 1
        have hns33_0 := NB212_223.out
        have hms33_0 := NB223_212.out
        have hs34 : w31.cell? ⟨gb223, 2, none⟩ = some (.int .i64 0) := (kC BK223.out 2).trans rfl
        have hfs34 := blk_frozen BK223.out 2
        have hns34_0 := NB212_223.out
        have hms34_0 := NB223_212.out
        have hs35 : w31.cell? ⟨gb223, 3, none⟩ = some (.int .i64 0) := (kC BK223.out 3).trans rfl
        have hfs35 := blk_frozen BK223.out 3
        have hns35_0 := NB212_223.out
        have hms35_0 := NB223_212.out
        have hs36 : w31.cell? ⟨gb223, 4, none⟩ = some (.int .i64 0) := (kC BK223.out 4).trans rfl
        have hfs36 := blk_frozen BK223.out 4
        have hns36_0 := NB212_223.out
        have hms36_0 := NB223_212.out
        have hs37 : w31.cell? ⟨gb223, 5, none⟩ = some (.int .i64 0) := (kC BK223.out 5).trans rfl
        have hfs37 := blk_frozen BK223.out 5
        have hns37_0 := NB212_223.out
        have hms37_0 := NB223_212.out
        refine skip_ (w1 := ?_) (by rfl) rfl ?_ ?_
        rotate_left
        ·go_simp
         rfl
        refine hK.out _ _ ⟨ (by refine (cell_far (p := ⟨gb223, _, none⟩) (by first | ((try rw [add_block]); (try dsimp only); exact Kd.own_blk (Kd.R_ne HO217.out BK223.out (by decide))) | exact Kd.own_blk (Kd.R_ne HO217.out BK223.out (by decide)) | (show (Addr.add _ _).block ≠ _; rw [add_block]; exact Kd.own_blk (Kd.R_ne HO217.out BK223.out (by decide))) | (dsimp only; exact Kd.own_blk (Kd.R_ne HO217.out BK223.out (by decide)))) _).trans ?_; refine (cell_far (p := ⟨gb223, _, none⟩) (by first | ((try rw [add_block]); (try dsimp only); exact Kd.own_blk (Kd.R_ne HO217.out BK223.out (by decide))) | exact Kd.own_blk (Kd.R_ne HO217.out BK223.out (by decide)) | (show (Addr.add _ _).block ≠ _; rw [add_block]; exact Kd.own_blk (Kd.R_ne HO217.out BK223.out (by decide))) | (dsimp only; exact Kd.own_blk (Kd.R_ne HO217.out BK223.out (by decide)))) _).trans ?_; refine (cell_far (p := ⟨gb223, _, none⟩) (by first | ((try rw [add_block]); (try dsimp only); exact Kd.own_blk (Kd.R_ne HO217.out BK223.out (by decide))) | exact Kd.own_blk (Kd.R_ne HO217.out BK223.out (by decide)) | (show (Addr.add _ _).block ≠ _; rw [add_block]; exact Kd.own_blk (Kd.R_ne HO217.out BK223.out (by decide))) | (dsimp only; exact Kd.own_blk (Kd.R_ne HO217.out BK223.out (by decide)))) _).trans ?_; refine (cell_far (p := ⟨gb223, _, none⟩) (by first | ((try rw [add_block]); (try dsimp only); exact Kd.own_blk (Kd.R_ne HO217.out BK223.out (by decide))) | exact Kd.own_blk (Kd.R_ne HO217.out BK223.out (by decide)) | (show (Addr.add _ _).block ≠ _; rw [add_block]; exact Kd.own_blk (Kd.R_ne HO217.out BK223.out (by decide))) | (dsimp only; exact Kd.own_blk (Kd.R_ne HO217.out BK223.out (by decide)))) _).trans ?_; refine (cell_far (p := ⟨gb223, _, none⟩) (by first | ((try rw [add_block]); (try dsimp only); exact Kd.own_blk (Kd.R_ne HO217.out BK223.out (by decide))) | exact Kd.own_blk (Kd.R_ne HO217.out BK223.out (by decide)) | (show (Addr.add _ _).block ≠ _; rw [add_block]; exact Kd.own_blk (Kd.R_ne HO217.out BK223.out (by decide))) | (dsimp only; exact Kd.own_blk (Kd.R_ne HO217.out BK223.out (by decide)))) _).trans ?_; refine (cell_far (p := ⟨gb223, _, none⟩) (by first | ((try rw [add_block]); (try dsimp only); exact Kd.own_blk (Kd.R_ne HO217.out BK223.out (by decide))) | exact Kd.own_blk (Kd.R_ne HO217.out BK223.out (by decide)) | (show (Addr.add _ _).block ≠ _; rw [add_block]; exact Kd.own_blk (Kd.R_ne HO217.out BK223.out (by decide))) | (dsimp only; exact Kd.own_blk (Kd.R_ne HO217.out BK223.out (by decide)))) _).trans ?_; exact hHeld.1), (by refine (cell_far (p := ⟨gb223, _, none⟩) (by first | ((try rw [add_block]); (try dsimp only); exact Kd.own_blk (Kd.R_ne HO217.out BK223.out (by decide))) | exact Kd.own_blk (Kd.R_ne HO217.out BK223.out (by decide)) | (show (Addr.add _ _).block ≠ _; rw [add_block]; exact Kd.own_blk (Kd.R_ne HO217.out BK223.out (by decide))) | (dsimp only; exact Kd.own_blk (Kd.R_ne HO217.out BK223.out (by decide)))) _).trans ?_; refine (cell_far (p := ⟨gb223, _, none⟩) (by first | ((try rw [add_block]); (try dsimp only); exact Kd.own_blk (Kd.R_ne HO217.out BK223.out (by decide))) | exact Kd.own_blk (Kd.R_ne HO217.out BK223.out (by decide)) | (show (Addr.add _ _).block ≠ _; rw [add_block]; exact Kd.own_blk (Kd.R_ne HO217.out BK223.out (by decide))) | (dsimp only; exact Kd.own_blk (Kd.R_ne HO217.out BK223.out (by decide)))) _).trans ?_; refine (cell_far (p := ⟨gb223, _, none⟩) (by first | ((try rw [add_block]); (try dsimp only); exact Kd.own_blk (Kd.R_ne HO217.out BK223.out (by decide))) | exact Kd.own_blk (Kd.R_ne HO217.out BK223.out (by decide)) | (show (Addr.add _ _).block ≠ _; rw [add_block]; exact Kd.own_blk (Kd.R_ne HO217.out BK223.out (by decide))) | (dsimp only; exact Kd.own_blk (Kd.R_ne HO217.out BK223.out (by decide)))) _).trans ?_; refine (cell_far (p := ⟨gb223, _, none⟩) (by first | ((try rw [add_block]); (try dsimp only); exact Kd.own_blk (Kd.R_ne HO217.out BK223.out (by decide))) | exact Kd.own_blk (Kd.R_ne HO217.out BK223.out (by decide)) | (show (Addr.add _ _).block ≠ _; rw [add_block]; exact Kd.own_blk (Kd.R_ne HO217.out BK223.out (by decide))) | (dsimp only; exact Kd.own_blk (Kd.R_ne HO217.out BK223.out (by decide)))) _).trans ?_; refine (cell_far (p := ⟨gb223, _, none⟩) (by first | ((try rw [add_block]); (try dsimp only); exact Kd.own_blk (Kd.R_ne HO217.out BK223.out (by decide))) | exact Kd.own_blk (Kd.R_ne HO217.out BK223.out (by decide)) | (show (Addr.add _ _).block ≠ _; rw [add_block]; exact Kd.own_blk (Kd.R_ne HO217.out BK223.out (by decide))) | (dsimp only; exact Kd.own_blk (Kd.R_ne HO217.out BK223.out (by decide)))) _).trans ?_; refine (cell_far (p := ⟨gb223, _, none⟩) (by first | ((try rw [add_block]); (try dsimp only); exact Kd.own_blk (Kd.R_ne HO217.out BK223.out (by decide))) | exact Kd.own_blk (Kd.R_ne HO217.out BK223.out (by decide)) | (show (Addr.add _ _).block ≠ _; rw [add_block]; exact Kd.own_blk (Kd.R_ne HO217.out BK223.out (by decide))) | (dsimp only; exact Kd.own_blk (Kd.R_ne HO217.out BK223.out (by decide)))) _).trans ?_; exact hHeld.2.1), (by refine (cell_far (p := ⟨gb223, _, none⟩) (by first | ((try rw [add_block]); (try dsimp only); exact Kd.own_blk (Kd.R_ne HO217.out BK223.out (by decide))) | exact Kd.own_blk (Kd.R_ne HO217.out BK223.out (by decide)) | (show (Addr.add _ _).block ≠ _; rw [add_block]; exact Kd.own_blk (Kd.R_ne HO217.out BK223.out (by decide))) | (dsimp only; exact Kd.own_blk (Kd.R_ne HO217.out BK223.out (by decide)))) _).trans ?_; refine (cell_far (p := ⟨gb223, _, none⟩) (by first | ((try rw [add_block]); (try dsimp only); exact Kd.own_blk (Kd.R_ne HO217.out BK223.out (by decide))) | exact Kd.own_blk (Kd.R_ne HO217.out BK223.out (by decide)) | (show (Addr.add _ _).block ≠ _; rw [add_block]; exact Kd.own_blk (Kd.R_ne HO217.out BK223.out (by decide))) | (dsimp only; exact Kd.own_blk (Kd.R_ne HO217.out BK223.out (by decide)))) _).trans ?_; refine (cell_far (p := ⟨gb223, _, none⟩) (by first | ((try rw [add_block]); (try dsimp only); exact Kd.own_blk (Kd.R_ne HO217.out BK223.out (by decide))) | exact Kd.own_blk (Kd.R_ne HO217.out BK223.out (by decide)) | (show (Addr.add _ _).block ≠ _; rw [add_block]; exact Kd.own_blk (Kd.R_ne HO217.out BK223.out (by decide))) | (dsimp only; exact Kd.own_blk (Kd.R_ne HO217.out BK223.out (by decide)))) _).trans ?_; refine (cell_far (p := ⟨gb223, _, none⟩) (by first | ((try rw [add_block]); (try dsimp only); exact Kd.own_blk (Kd.R_ne HO217.out BK223.out (by decide))) | exact Kd.own_blk (Kd.R_ne HO217.out BK223.out (by decide)) | (show (Addr.add _ _).block ≠ _; rw [add_block]; exact Kd.own_blk (Kd.R_ne HO217.out BK223.out (by decide))) | (dsimp only; exact Kd.own_blk (Kd.R_ne HO217.out BK223.out (by decide)))) _).trans ?_; refine (cell_far (p := ⟨gb223, _, none⟩) (by first | ((try rw [add_block]); (try dsimp only); exact Kd.own_blk (Kd.R_ne HO217.out BK223.out (by decide))) | exact Kd.own_blk (Kd.R_ne HO217.out BK223.out (by decide)) | (show (Addr.add _ _).block ≠ _; rw [add_block]; exact Kd.own_blk (Kd.R_ne HO217.out BK223.out (by decide))) | (dsimp only; exact Kd.own_blk (Kd.R_ne HO217.out BK223.out (by decide)))) _).trans ?_; refine (cell_far (p := ⟨gb223, _, none⟩) (by first | ((try rw [add_block]); (try dsimp only); exact Kd.own_blk (Kd.R_ne HO217.out BK223.out (by decide))) | exact Kd.own_blk (Kd.R_ne HO217.out BK223.out (by decide)) | (show (Addr.add _ _).block ≠ _; rw [add_block]; exact Kd.own_blk (Kd.R_ne HO217.out BK223.out (by decide))) | (dsimp only; exact Kd.own_blk (Kd.R_ne HO217.out BK223.out (by decide)))) _).trans ?_; exact hHeld.2.2.1), (by refine (cell_far (p := ⟨gb223, _, none⟩) (by first | ((try rw [add_block]); (try dsimp only); exact Kd.own_blk (Kd.R_ne HO217.out BK223.out (by decide))) | exact Kd.own_blk (Kd.R_ne HO217.out BK223.out (by decide)) | (show (Addr.add _ _).block ≠ _; rw [add_block]; exact Kd.own_blk (Kd.R_ne HO217.out BK223.out (by decide))) | (dsimp only; exact Kd.own_blk (Kd.R_ne HO217.out BK223.out (by decide)))) _).trans ?_; refine (cell_far (p := ⟨gb223, _, none⟩) (by first | ((try rw [add_block]); (try dsimp only); exact Kd.own_blk (Kd.R_ne HO217.out BK223.out (by decide))) | exact Kd.own_blk (Kd.R_ne HO217.out BK223.out (by decide)) | (show (Addr.add _ _).block ≠ _; rw [add_block]; exact Kd.own_blk (Kd.R_ne HO217.out BK223.out (by decide))) | (dsimp only; exact Kd.own_blk (Kd.R_ne HO217.out BK223.out (by decide)))) _).trans ?_; refine (cell_far (p := ⟨gb223, _, none⟩) (by first | ((try rw [add_block]); (try dsimp only); exact Kd.own_blk (Kd.R_ne HO217.out BK223.out (by decide))) | exact Kd.own_blk (Kd.R_ne HO217.out BK223.out (by decide)) | (show (Addr.add _ _).block ≠ _; rw [add_block]; exact Kd.own_blk (Kd.R_ne HO217.out BK223.out (by decide))) | (dsimp only; exact Kd.own_blk (Kd.R_ne HO217.out BK223.out (by decide)))) _).trans ?_; refine (cell_far (p := ⟨gb223, _, none⟩) (by first | ((try rw [add_block]); (try dsimp only); exact Kd.own_blk (Kd.R_ne HO217.out BK223.out (by decide))) | exact Kd.own_blk (Kd.R_ne HO217.out BK223.out (by decide)) | (show (Addr.add _ _).block ≠ _; rw [add_block]; exact Kd.own_blk (Kd.R_ne HO217.out BK223.out (by decide))) | (dsimp only; exact Kd.own_blk (Kd.R_ne HO217.out BK223.out (by decide)))) _).trans ?_; refine (cell_far (p := ⟨gb223, _, none⟩) (by first | ((try rw [add_block]); (try dsimp only); exact Kd.own_blk (Kd.R_ne HO217.out BK223.out (by decide))) | exact Kd.own_blk (Kd.R_ne HO217.out BK223.out (by decide)) | (show (Addr.add _ _).block ≠ _; rw [add_block]; exact Kd.own_blk (Kd.R_ne HO217.out BK223.out (by decide))) | (dsimp only; exact Kd.own_blk (Kd.R_ne HO217.out BK223.out (by decide)))) _).trans ?_; refine (cell_far (p := ⟨gb223, _, none⟩) (by first | ((try rw [add_block]); (try dsimp only); exact Kd.own_blk (Kd.R_ne HO217.out BK223.out (by decide))) | exact Kd.own_blk (Kd.R_ne HO217.out BK223.out (by decide)) | (show (Addr.add _ _).block ≠ _; rw [add_block]; exact Kd.own_blk (Kd.R_ne HO217.out BK223.out (by decide))) | (dsimp only; exact Kd.own_blk (Kd.R_ne HO217.out BK223.out (by decide)))) _).trans ?_; exact hHeld.2.2.2.1), (by refine (cell_far (p := ⟨gb223, _, none⟩) (by first | ((try rw [add_block]); (try dsimp only); exact Kd.own_blk (Kd.R_ne HO217.out BK223.out (by decide))) | exact Kd.own_blk (Kd.R_ne HO217.out BK223.out (by decide)) | (show (Addr.add _ _).block ≠ _; rw [add_block]; exact Kd.own_blk (Kd.R_ne HO217.out BK223.out (by decide))) | (dsimp only; exact Kd.own_blk (Kd.R_ne HO217.out BK223.out (by decide)))) _).trans ?_; refine (cell_far (p := ⟨gb223, _, none⟩) (by first | ((try rw [add_block]); (try dsimp only); exact Kd.own_blk (Kd.R_ne HO217.out BK223.out (by decide))) | exact Kd.own_blk (Kd.R_ne HO217.out BK223.out (by decide)) | (show (Addr.add _ _).block ≠ _; rw [add_block]; exact Kd.own_blk (Kd.R_ne HO217.out BK223.out (by decide))) | (dsimp only; exact Kd.own_blk (Kd.R_ne HO217.out BK223.out (by decide)))) _).trans ?_; refine (cell_far (p := ⟨gb223, _, none⟩) (by first | ((try rw [add_block]); (try dsimp only); exact Kd.own_blk (Kd.R_ne HO217.out BK223.out (by decide))) | exact Kd.own_blk (Kd.R_ne HO217.out BK223.out (by decide)) | (show (Addr.add _ _).block ≠ _; rw [add_block]; exact Kd.own_blk (Kd.R_ne HO217.out BK223.out (by decide))) | (dsimp only; exact Kd.own_blk (Kd.R_ne HO217.out BK223.out (by decide)))) _).trans ?_; refine (cell_far (p := ⟨gb223, _, none⟩) (by first | ((try rw [add_block]); (try dsimp only); exact Kd.own_blk (Kd.R_ne HO217.out BK223.out (by decide))) | exact Kd.own_blk (Kd.R_ne HO217.out BK223.out (by decide)) | (show (Addr.add _ _).block ≠ _; rw [add_block]; exact Kd.own_blk (Kd.R_ne HO217.out BK223.out (by decide))) | (dsimp only; exact Kd.own_blk (Kd.R_ne HO217.out BK223.out (by decide)))) _).trans ?_; refine (cell_far (p := ⟨gb223, _, none⟩) (by first | ((try rw [add_block]); (try dsimp only); exact Kd.own_blk (Kd.R_ne HO217.out BK223.out (by decide))) | exact Kd.own_blk (Kd.R_ne HO217.out BK223.out (by decide)) | (show (Addr.add _ _).block ≠ _; rw [add_block]; exact Kd.own_blk (Kd.R_ne HO217.out BK223.out (by decide))) | (dsimp only; exact Kd.own_blk (Kd.R_ne HO217.out BK223.out (by decide)))) _).trans ?_; refine (cell_far (p := ⟨gb223, _, none⟩) (by first | ((try rw [add_block]); (try dsimp only); exact Kd.own_blk (Kd.R_ne HO217.out BK223.out (by decide))) | exact Kd.own_blk (Kd.R_ne HO217.out BK223.out (by decide)) | (show (Addr.add _ _).block ≠ _; rw [add_block]; exact Kd.own_blk (Kd.R_ne HO217.out BK223.out (by decide))) | (dsimp only; exact Kd.own_blk (Kd.R_ne HO217.out BK223.out (by decide)))) _).trans ?_; exact hHeld.2.2.2.2)⟩ (fun hHeld => ?_)
        clear hK K
        refine done_ (done_of HT_.out (by kernel_rfl)) ?_
        have hnb38 := NB223_212.out
        have hnc38 := NB212_223.out
        have hcz39_0 : w31.cell? ⟨gb223, 0, none⟩ = some (.string (⟨#[]⟩ : ByteArray)) := (kC BK223.out 0).trans rfl
        have hcz39_1 : w31.cell? ⟨gb223, 1, none⟩ = some (.int .i64 0) := (kC BK223.out 1).trans rfl
        have hcz39_2 : w31.cell? ⟨gb223, 2, none⟩ = some (.int .i64 0) := (kC BK223.out 2).trans rfl
        have hcz39_3 : w31.cell? ⟨gb223, 3, none⟩ = some (.int .i64 0) := (kC BK223.out 3).trans rfl
        have hcz39_4 : w31.cell? ⟨gb223, 4, none⟩ = some (.int .i64 0) := (kC BK223.out 4).trans rfl
        have hcz39_5 : w31.cell? ⟨gb223, 5, none⟩ = some (.int .i64 0) := (kC BK223.out 5).trans rfl
        have hfz39_0 := blk_frozen BK223.out 0
        have hfz39_1 := blk_frozen BK223.out 1
        have hfz39_2 := blk_frozen BK223.out 2
        have hfz39_3 := blk_frozen BK223.out 3
        have hfz39_4 := blk_frozen BK223.out 4
        have hfz39_5 := blk_frozen BK223.out 5
        try go_wp2_with (first | (go_at_call 60; (with_reducible refine (impl_ItemText.calls k t213 (rd t214 0) (rd t214 1) (rd t214 2) (rd t214 3) (rd t214 4) t224 _ (by first | exact hT | exact TabR.below hT HB.out | exact TabR.below hT (by repeat (first | (with_reducible first | exact HB.out | apply bA | apply bN | apply bD | refine bS ?_ GE212.out | refine bS ?_ GE223.out) | exact HB.out)) | exact TabR.below hT (Below.refl _ _)) A9.out).mono ?_); rintro e w40 ⟨rfl, hb⟩; have n0_ := Aside0.mk (rB (by (with_reducible repeat (first | apply rA | apply rN | apply rD)); exact (rM (Kd.R_far (p := ⟨gb223, 5, none⟩) (Kd.R_far (p := ⟨gb223, 4, none⟩) (Kd.R_far (p := ⟨gb223, 3, none⟩) (Kd.R_far (p := ⟨gb223, 2, none⟩) (Kd.R_far (p := ⟨gb223, 1, none⟩) (Kd.R_far (p := ⟨gb223, 0, none⟩) (Kd.R_types HO217.out BK223.out (by decide)) (fun _ hk => hk.2) (.string t213)) (fun _ hk => hk.2) (.int .i64 (rd t214 0))) (fun _ hk => hk.2) (.int .i64 (rd t214 1))) (fun _ hk => hk.2) (.int .i64 (rd t214 2))) (fun _ hk => hk.2) (.int .i64 (rd t214 3))) (fun _ hk => hk.2) (.int .i64 (rd t214 4))) (fun _ h_ => h_.1))) hb); have n1_ := Aside0.mk (kB (g := gb212) (o := .cells #[.string (⟨#[]⟩ : ByteArray), .int .i64 0, .int .i64 0, .int .i64 0, .int .i64 0, .int .i64 0] 50 (0, 0)) (by (with_reducible repeat (first | refine kN ?_ _ | refine kD ?_ | refine kA ?_ _)); refine kF ?_ NB212_223.out _; (with_reducible repeat (first | refine kN ?_ _ | refine kD ?_ | refine kA ?_ _)); refine kF ?_ NB212_223.out _; (with_reducible repeat (first | refine kN ?_ _ | refine kD ?_ | refine kA ?_ _)); refine kF ?_ NB212_223.out _; (with_reducible repeat (first | refine kN ?_ _ | refine kD ?_ | refine kA ?_ _)); refine kF ?_ NB212_223.out _; (with_reducible repeat (first | refine kN ?_ _ | refine kD ?_ | refine kA ?_ _)); refine kF ?_ NB212_223.out _; (with_reducible repeat (first | refine kN ?_ _ | refine kD ?_ | refine kA ?_ _)); refine kF ?_ NB212_223.out _; (with_reducible repeat (first | refine kN ?_ _ | refine kD ?_ | refine kA ?_ _)); exact BK212.out) hb); have n2_ := Aside0.mk (kB (g := gb223) (o := .cells #[.string t213, .int .i64 (rd t214 0), .int .i64 (rd t214 1), .int .i64 (rd t214 2), .int .i64 (rd t214 3), .int .i64 (rd t214 4)] 50 (0, 0)) (by (with_reducible repeat (first | refine kN ?_ _ | refine kD ?_ | refine kA ?_ _)); refine blk_put (cs := #[.string t213, .int .i64 (rd t214 0), .int .i64 (rd t214 1), .int .i64 (rd t214 2), .int .i64 (rd t214 3), .int .i64 0]) ?_ 5 _ rfl; (with_reducible repeat (first | refine kN ?_ _ | refine kD ?_ | refine kA ?_ _)); refine blk_put (cs := #[.string t213, .int .i64 (rd t214 0), .int .i64 (rd t214 1), .int .i64 (rd t214 2), .int .i64 0, .int .i64 0]) ?_ 4 _ rfl; (with_reducible repeat (first | refine kN ?_ _ | refine kD ?_ | refine kA ?_ _)); refine blk_put (cs := #[.string t213, .int .i64 (rd t214 0), .int .i64 (rd t214 1), .int .i64 0, .int .i64 0, .int .i64 0]) ?_ 3 _ rfl; (with_reducible repeat (first | refine kN ?_ _ | refine kD ?_ | refine kA ?_ _)); refine blk_put (cs := #[.string t213, .int .i64 (rd t214 0), .int .i64 0, .int .i64 0, .int .i64 0, .int .i64 0]) ?_ 2 _ rfl; (with_reducible repeat (first | refine kN ?_ _ | refine kD ?_ | refine kA ?_ _)); refine blk_put (cs := #[.string t213, .int .i64 0, .int .i64 0, .int .i64 0, .int .i64 0, .int .i64 0]) ?_ 1 _ rfl; (with_reducible repeat (first | refine kN ?_ _ | refine kD ?_ | refine kA ?_ _)); refine blk_put (cs := #[.string (⟨#[]⟩ : ByteArray), .int .i64 0, .int .i64 0, .int .i64 0, .int .i64 0, .int .i64 0]) ?_ 0 _ rfl; (with_reducible repeat (first | refine kN ?_ _ | refine kD ?_ | refine kA ?_ _)); exact BK223.out) hb); have n3_ := Aside0.mk (bP (by repeat (first | (with_reducible first | exact HB.out | apply bA | apply bN | apply bD | refine bS ?_ GE212.out | refine bS ?_ GE223.out) | exact HB.out)) hb); clear HO217; clear BK212; clear BK223; clear HB; have HO217 := n0_; have BK212 := n1_; have BK223 := n2_; have HB := n3_; clear n0_ n1_ n2_ n3_; (try clear hb); (try clear hb2); (try clear hk); (try clear hi); have hcz41_0 : w40.cell? ⟨gb212, 0, none⟩ = some (.string (⟨#[]⟩ : ByteArray)) := (kC BK212.out 0).trans rfl; have hcz41_1 : w40.cell? ⟨gb212, 1, none⟩ = some (.int .i64 0) := (kC BK212.out 1).trans rfl; have hcz41_2 : w40.cell? ⟨gb212, 2, none⟩ = some (.int .i64 0) := (kC BK212.out 2).trans rfl; have hcz41_3 : w40.cell? ⟨gb212, 3, none⟩ = some (.int .i64 0) := (kC BK212.out 3).trans rfl; have hcz41_4 : w40.cell? ⟨gb212, 4, none⟩ = some (.int .i64 0) := (kC BK212.out 4).trans rfl; have hcz41_5 : w40.cell? ⟨gb212, 5, none⟩ = some (.int .i64 0) := (kC BK212.out 5).trans rfl; have hfz41_0 := blk_frozen BK212.out 0; have hfz41_1 := blk_frozen BK212.out 1; have hfz41_2 := blk_frozen BK212.out 2; have hfz41_3 := blk_frozen BK212.out 3; have hfz41_4 := blk_frozen BK212.out 4; have hfz41_5 := blk_frozen BK212.out 5))
        refine bodyPost_ret (results_ct rfl _ _ gb212 50 #[.string (⟨#[]⟩ : ByteArray), .int .i64 0, .int .i64 0, .int .i64 0, .int .i64 0, .int .i64 0] (0, 0) _ rfl (by (with_reducible repeat (first | refine kN ?_ _ | refine kD ?_ | refine kA ?_ _)); refine blk_put (cs := #[.string (⟨#[]⟩ : ByteArray), .int .i64 0, .int .i64 0, .int .i64 0, .int .i64 0, .int .i64 0]) ?_ 5 _ rfl; (with_reducible repeat (first | refine kN ?_ _ | refine kD ?_ | refine kA ?_ _)); refine blk_put (cs := #[.string (⟨#[]⟩ : ByteArray), .int .i64 0, .int .i64 0, .int .i64 0, .int .i64 0, .int .i64 0]) ?_ 4 _ rfl; (with_reducible repeat (first | refine kN ?_ _ | refine kD ?_ | refine kA ?_ _)); refine blk_put (cs := #[.string (⟨#[]⟩ : ByteArray), .int .i64 0, .int .i64 0, .int .i64 0, .int .i64 0, .int .i64 0]) ?_ 3 _ rfl; (with_reducible repeat (first | refine kN ?_ _ | refine kD ?_ | refine kA ?_ _)); refine blk_put (cs := #[.string (⟨#[]⟩ : ByteArray), .int .i64 0, .int .i64 0, .int .i64 0, .int .i64 0, .int .i64 0]) ?_ 2 _ rfl; (with_reducible repeat (first | refine kN ?_ _ | refine kD ?_ | refine kA ?_ _)); refine blk_put (cs := #[.string (⟨#[]⟩ : ByteArray), .int .i64 0, .int .i64 0, .int .i64 0, .int .i64 0, .int .i64 0]) ?_ 1 _ rfl; (with_reducible repeat (first | refine kN ?_ _ | refine kD ?_ | refine kA ?_ _)); refine blk_put (cs := #[.string (⟨#[]⟩ : ByteArray), .int .i64 0, .int .i64 0, .int .i64 0, .int .i64 0, .int .i64 0]) ?_ 0 _ rfl; (with_reducible repeat (first | refine kN ?_ _ | refine kD ?_ | refine kA ?_ _)); exact BK212.out) Tryd.underlying50 rfl (by kernel_rfl)) rfl ?_
        exact ⟨by first | rfl | (simp [errW_none, errW_some] <;> rfl) | (simp [*, errW_none, errW_some] <;> rfl), by repeat (first | (with_reducible first | exact HB.out | apply bA | apply bN | apply bD | refine bS ?_ GE212.out | refine bS ?_ GE223.out) | exact HB.out)⟩
      ·replace c8 := Bool.eq_false_iff.mpr c8
       subst c8
       have H1 : (some ((⟨#[]⟩ : ByteArray), 0, 0, 0, 0, 0, false)) = some (r1, r2, r3, r4, r5, r6, r7) := by rw [if_neg (show ¬ (false = true) by decide)] at H; exact H
       clear H
       have H := H1
       clear H1
       simp only [Option.some.injEq, Prod.mk.injEq] at H
       obtain ⟨rfl, rfl, rfl, rfl, rfl, rfl, rfl⟩ := H
       go_enter Tryd.func28, Tryd.ntmps28
       try go_wp2_with (first | ((with_reducible refine gate_dst (N := 2) rfl ?_); refine bE ?hg (N := 2) ?hd (cs := #[.string (⟨#[]⟩ : ByteArray), .int .i64 0, .int .i64 0, .int .i64 0, .int .i64 0, .int .i64 0]) (t := 50) ?hr ?_; (case hd => rfl); (case hg => rfl); (case hr => first | (go_simp; done) | (go_simp; rfl)); intro gb212 hg w42 hbox hb; have n0_ := Aside0.mk (bP (by repeat (first | (with_reducible first | exact HB.out | apply bA | apply bN | apply bD) | exact HB.out)) hb); have n1_ := Aside0.mk (hbox); have n2_ := Aside0.mk ((by rw [hg]; exact (bZ (by repeat (first | (with_reducible first | exact HB.out | apply bA | apply bN | apply bD) | exact HB.out))) : w.heap.size ≤ gb212)); have n3_ := Aside0.mk ((by rw [hg]; exact (bZ (by repeat (first | (with_reducible first | exact HB.out | apply bA | apply bN | apply bD) | exact HB.out))) : w.heap.size ≤ gb212)); clear HB; have HB := n0_; have BK212 := n1_; have GW212 := n2_; have GE212 := n3_; clear n0_ n1_ n2_ n3_; clear hb hbox hg) | ((with_reducible refine gC (f := 59) rfl ?_); refine goesL_ (some 10) rfl rfl Tryd.func59 (by kernel_rfl) rfl #[.string a0, .int .i64 5] rfl (by (try simp only [List.map_toArray, List.map_cons, List.map_nil]); first | done | rfl | (simp only [List.length_drop, List.length_take]; rfl)) ?_; (with_reducible refine (impl_readWithId.calls k a0 5 t213 t214 false _ (by first | exact hT | exact TabR.below hT HB.out | exact TabR.below hT (by repeat (first | (with_reducible first | exact HB.out | apply bA | apply bN | apply bD | refine bS ?_ GE212.out | refine bS ?_ GE223.out) | exact HB.out)) | exact TabR.below hT (Below.refl _ _)) A2.out).mono ?_); rintro e w43 ⟨v216, rfl, ho0, hb⟩; refine ⟨_, rfl, ?_⟩; have n0_ := Aside0.mk (rL ho0 (bZ (by repeat (first | (with_reducible first | exact HB.out | apply bA | apply bN | apply bD | refine bS ?_ GE212.out) | exact HB.out)))); have n1_ := Aside0.mk (kB (g := gb212) (o := .cells #[.string (⟨#[]⟩ : ByteArray), .int .i64 0, .int .i64 0, .int .i64 0, .int .i64 0, .int .i64 0] 50 (0, 0)) (by (with_reducible repeat (first | refine kN ?_ _ | refine kD ?_ | refine kA ?_ _)); exact BK212.out) hb); have n2_ := Aside0.mk (bP (by repeat (first | (with_reducible first | exact HB.out | apply bA | apply bN | apply bD | refine bS ?_ GE212.out) | exact HB.out)) hb); clear BK212; clear HB; have HO217 := n0_; have BK212 := n1_; have HB := n2_; clear n0_ n1_ n2_; (try clear hb); (try clear hb2); (try clear hk); (try clear hi); (try clear ho0)))
       have n0_ := Aside0.mk (rD HO217.out)
       have n1_ := Aside0.mk (kD BK212.out)
       have n2_ := Aside0.mk (bD HB.out)
       clear HO217
       clear BK212
       clear HB
       have HO217 := n0_
       have BK212 := n1_
       have HB := n2_
       clear n0_ n1_ n2_
       obtain ⟨Ao45, co45, eo45⟩ := Kd.R_slice HO217.out
       (first | subst eo45 | (injection eo45 with f1_ f2_ f3_; have f4_ := f1_.symm; have f5_ := f3_.symm; clear f1_ f2_ f3_; subst f4_; subst f5_))
       have p218 : 0 ≤ (0 : Int) := (by omega)
       have q218 : 0 < (t214.length : Int) := of_decide_eq_true (by first | (with_reducible assumption) | assumption)
       obtain ⟨ad218, e218, hx218_0⟩ := Kd.at_int (Kd.R_reads' HO217.out).2.2 0 p218 q218
       cases e218
       have qi218 : (0 < t214.length) = True := eq_true (by omega)
       (try rw [show ((0 : Int)).toNat = 0 from rfl] at hx218_0)
       (try rw [Addr.add_zero'] at hx218_0)
       replace p218 := eq_true p218
       replace q218 := eq_true q218
       have p219 : 0 ≤ (1 : Int) := (by omega)
       have q219 : 1 < (t214.length : Int) := of_decide_eq_true (by first | (with_reducible assumption) | assumption)
       obtain ⟨ad219, e219, hx219_0⟩ := Kd.at_int (Kd.R_reads' HO217.out).2.2 1 p219 q219
       obtain rfl : ad218 = ad219 := (by injection e219)
       (try simp only [show (1 : Int).toNat = 1 from rfl, Nat.reduceMul, Nat.reduceEqDiff, Go.Addr.add, ↓reduceIte] at hx219_0)
       have qi219 : (1 < t214.length) = True := eq_true (by omega)
       (try rw [show ((1 : Int)).toNat = 1 from rfl] at hx219_0)
       replace p219 := eq_true p219
       replace q219 := eq_true q219
       have p220 : 0 ≤ (2 : Int) := (by omega)
       have q220 : 2 < (t214.length : Int) := of_decide_eq_true (by first | (with_reducible assumption) | assumption)
       obtain ⟨ad220, e220, hx220_0⟩ := Kd.at_int (Kd.R_reads' HO217.out).2.2 2 p220 q220
       obtain rfl : ad218 = ad220 := (by injection e220)
       (try simp only [show (2 : Int).toNat = 2 from rfl, Nat.reduceMul, Nat.reduceEqDiff, Go.Addr.add, ↓reduceIte] at hx220_0)
       have qi220 : (2 < t214.length) = True := eq_true (by omega)
       (try rw [show ((2 : Int)).toNat = 2 from rfl] at hx220_0)
       replace p220 := eq_true p220
       replace q220 := eq_true q220
       have p221 : 0 ≤ (3 : Int) := (by omega)
       have q221 : 3 < (t214.length : Int) := of_decide_eq_true (by first | (with_reducible assumption) | assumption)
       obtain ⟨ad221, e221, hx221_0⟩ := Kd.at_int (Kd.R_reads' HO217.out).2.2 3 p221 q221
       obtain rfl : ad218 = ad221 := (by injection e221)
       (try simp only [show (3 : Int).toNat = 3 from rfl, Nat.reduceMul, Nat.reduceEqDiff, Go.Addr.add, ↓reduceIte] at hx221_0)
       have qi221 : (3 < t214.length) = True := eq_true (by omega)
       (try rw [show ((3 : Int)).toNat = 3 from rfl] at hx221_0)
       replace p221 := eq_true p221
       replace q221 := eq_true q221
       have p222 : 0 ≤ (4 : Int) := (by omega)
       have q222 : 4 < (t214.length : Int) := of_decide_eq_true (by first | (with_reducible assumption) | assumption)
       obtain ⟨ad222, e222, hx222_0⟩ := Kd.at_int (Kd.R_reads' HO217.out).2.2 4 p222 q222
       obtain rfl : ad218 = ad222 := (by injection e222)
       (try simp only [show (4 : Int).toNat = 4 from rfl, Nat.reduceMul, Nat.reduceEqDiff, Go.Addr.add, ↓reduceIte] at hx222_0)
       have qi222 : (4 < t214.length) = True := eq_true (by omega)
       (try rw [show ((4 : Int)).toNat = 4 from rfl] at hx222_0)
       replace p222 := eq_true p222
       replace q222 := eq_true q222
       refine start_ (n := 19) (S := fun w' => w'.cell? ad218 = some (.int .i64 (rd t214 0)) ∧ w'.cell? ⟨ad218.block, ad218.off + 1, none⟩ = some (.int .i64 (rd t214 1)) ∧ w'.cell? ⟨ad218.block, ad218.off + 2, none⟩ = some (.int .i64 (rd t214 2)) ∧ w'.cell? ⟨ad218.block, ad218.off + 3, none⟩ = some (.int .i64 (rd t214 3)) ∧ w'.cell? ⟨ad218.block, ad218.off + 4, none⟩ = some (.int .i64 (rd t214 4))) (ds := []) #[F,F,F,F,F,F,F,F,F,F,F,F,F,F,F,F,F,F,F] (by kernel_rfl) rfl rfl ⟨hx218_0, hx219_0, hx220_0, hx221_0, hx222_0⟩ (fun hHeld => ?_); refine with_tabW impl_ReadItem.tab2 impl_ReadItem.bits2 (fun HT_ HW_ => ?_)
       generalize w43.drew = w44 at HO217 BK212 HB hx218_0 hx219_0 hx220_0 hx221_0 hx222_0 hHeld ⊢
       refine pure_ (i := 0) (N := some 14) (v := ?_) (a' := ?_) #[T,F,F,F,F,F,F,F,F,F,F,F,F,F,F,F,F,F,F] rfl rfl (aO HT_.out (by kernel_rfl)) (fun _ _ _ h => h) (Or.inl ⟨by rfl, ?_⟩) ?_ ?_; rotate_left; (·intro w'; go_simp; with_reducible rfl); rotate_left; (·simp only [Act.put, sI, sZ, sS, iW, jW]; rfl)
       refine pure_ (i := 1) (N := some 15) (v := ?_) (a' := ?_) #[T,T,F,F,F,F,F,F,F,F,F,F,F,F,F,F,F,F,F] rfl rfl (aO HT_.out (by kernel_rfl)) (fun _ _ _ h => h) (Or.inl ⟨by rfl, ?_⟩) ?_ ?_; rotate_left; (·intro w'; go_simp; with_reducible rfl); rotate_left; (·simp only [Act.put, sI, sZ, sS, iW, jW]; rfl)
       refine pure_ (i := 2) (N := some 16) (v := ?_) (a' := ?_) #[T,T,T,F,F,F,F,F,F,F,F,F,F,F,F,F,F,F,F] rfl rfl (aO HT_.out (by kernel_rfl)) (fun _ _ _ h => h) (Or.inl ⟨by rfl, ?_⟩) ?_ ?_; rotate_left; (·intro w'; go_simp; with_reducible rfl); rotate_left; (·simp only [Act.put, sI, sZ, sS, iW, jW]; rfl)
       refine pure_ (i := 4) (N := some 18) (v := ?_) (a' := ?_) #[T,T,T,F,T,F,F,F,F,F,F,F,F,F,F,F,F,F,F] rfl rfl (aO HT_.out (by kernel_rfl)) (fun _ _ _ h => h) (Or.inl ⟨by rfl, ?_⟩) ?_ ?_; rotate_left; (·intro w'; go_simp; with_reducible rfl); rotate_left; (·simp only [Act.put, sI, sZ, sS, iW, jW]; rfl)
       refine pure_ (i := 5) (N := some 19) (v := ?_) (a' := ?_) #[T,T,T,F,T,T,F,F,F,F,F,F,F,F,F,F,F,F,F] rfl rfl (aO HT_.out (by kernel_rfl)) (fun _ _ _ h => h) (Or.inl ⟨by rfl, ?_⟩) ?_ ?_; rotate_left; (·intro w'; go_simp; with_reducible rfl); rotate_left; (·simp only [Act.put, sI, sZ, sS, iW, jW]; rfl)
       refine pure_ (i := 7) (N := some 21) (v := ?_) (a' := ?_) #[T,T,T,F,T,T,F,T,F,F,F,F,F,F,F,F,F,F,F] rfl rfl (aO HT_.out (by kernel_rfl)) (fun _ _ _ h => h) (Or.inl ⟨by rfl, ?_⟩) ?_ ?_; rotate_left; (·intro w'; go_simp; with_reducible rfl); rotate_left; (·simp only [Act.put, sI, sZ, sS, iW, jW]; rfl)
       refine pure_ (i := 8) (N := some 22) (v := ?_) (a' := ?_) #[T,T,T,F,T,T,F,T,T,F,F,F,F,F,F,F,F,F,F] rfl rfl (aO HT_.out (by kernel_rfl)) (fun _ _ _ h => h) (Or.inl ⟨by rfl, ?_⟩) ?_ ?_; rotate_left; (·intro w'; go_simp; with_reducible rfl); rotate_left; (·simp only [Act.put, sI, sZ, sS, iW, jW]; rfl)
       refine pure_ (i := 10) (N := some 24) (v := ?_) (a' := ?_) #[T,T,T,F,T,T,F,T,T,F,T,F,F,F,F,F,F,F,F] rfl rfl (aO HT_.out (by kernel_rfl)) (fun _ _ _ h => h) (Or.inl ⟨by rfl, ?_⟩) ?_ ?_; rotate_left; (·intro w'; go_simp; with_reducible rfl); rotate_left; (·simp only [Act.put, sI, sZ, sS, iW, jW]; rfl)
       refine pure_ (i := 11) (N := some 25) (v := ?_) (a' := ?_) #[T,T,T,F,T,T,F,T,T,F,T,T,F,F,F,F,F,F,F] rfl rfl (aO HT_.out (by kernel_rfl)) (fun _ _ _ h => h) (Or.inl ⟨by rfl, ?_⟩) ?_ ?_; rotate_left; (·intro w'; go_simp; with_reducible rfl); rotate_left; (·simp only [Act.put, sI, sZ, sS, iW, jW]; rfl)
       refine pure_ (i := 13) (N := some 27) (v := ?_) (a' := ?_) #[T,T,T,F,T,T,F,T,T,F,T,T,F,T,F,F,F,F,F] rfl rfl (aO HT_.out (by kernel_rfl)) (fun _ _ _ h => h) (Or.inl ⟨by rfl, ?_⟩) ?_ ?_; rotate_left; (·intro w'; go_simp; with_reducible rfl); rotate_left; (·simp only [Act.put, sI, sZ, sS, iW, jW]; rfl)
       refine pure_ (i := 14) (N := some 28) (v := ?_) (a' := ?_) #[T,T,T,F,T,T,F,T,T,F,T,T,F,T,T,F,F,F,F] rfl rfl (aO HT_.out (by kernel_rfl)) (fun _ _ _ h => h) (Or.inl ⟨by rfl, ?_⟩) ?_ ?_; rotate_left; (·intro w'; go_simp; with_reducible rfl); rotate_left; (·simp only [Act.put, sI, sZ, sS, iW, jW]; rfl)
       refine take_ (i := 3) (N := some 17) (v := ?_) (a' := ?_) #[T,T,T,T,T,T,F,T,T,F,T,T,F,T,T,F,F,F,F] rfl rfl (tW HT_.out HW_.out (by kernel_rfl)) (fun _ _ _ h => h) (Or.inl ⟨by rfl, ?_⟩) hHeld ?_ ?_; rotate_left; (·rintro w' ⟨s0, s1, s2, s3, s4⟩; go_simp; with_reducible rfl); rotate_left; (·simp only [Act.put, sI, sZ, sS, iW, jW]; rfl)
       refine take_ (i := 6) (N := some 20) (v := ?_) (a' := ?_) #[T,T,T,T,T,T,T,T,T,F,T,T,F,T,T,F,F,F,F] rfl rfl (tW HT_.out HW_.out (by kernel_rfl)) (fun _ _ _ h => h) (Or.inl ⟨by rfl, ?_⟩) hHeld ?_ ?_; rotate_left; (·rintro w' ⟨s0, s1, s2, s3, s4⟩; go_simp; with_reducible rfl); rotate_left; (·simp only [Act.put, sI, sZ, sS, iW, jW]; rfl)
       refine take_ (i := 9) (N := some 23) (v := ?_) (a' := ?_) #[T,T,T,T,T,T,T,T,T,T,T,T,F,T,T,F,F,F,F] rfl rfl (tW HT_.out HW_.out (by kernel_rfl)) (fun _ _ _ h => h) (Or.inl ⟨by rfl, ?_⟩) hHeld ?_ ?_; rotate_left; (·rintro w' ⟨s0, s1, s2, s3, s4⟩; go_simp; with_reducible rfl); rotate_left; (·simp only [Act.put, sI, sZ, sS, iW, jW]; rfl)
       refine take_ (i := 12) (N := some 26) (v := ?_) (a' := ?_) #[T,T,T,T,T,T,T,T,T,T,T,T,T,T,T,F,F,F,F] rfl rfl (tW HT_.out HW_.out (by kernel_rfl)) (fun _ _ _ h => h) (Or.inl ⟨by rfl, ?_⟩) hHeld ?_ ?_; rotate_left; (·rintro w' ⟨s0, s1, s2, s3, s4⟩; go_simp; with_reducible rfl); rotate_left; (·simp only [Act.put, sI, sZ, sS, iW, jW]; rfl)
       refine take_ (i := 15) (N := some 29) (v := ?_) (a' := ?_) #[T,T,T,T,T,T,T,T,T,T,T,T,T,T,T,T,F,F,F] rfl rfl (tW HT_.out HW_.out (by kernel_rfl)) (fun _ _ _ h => h) (Or.inl ⟨by rfl, ?_⟩) hHeld ?_ ?_; rotate_left; (·rintro w' ⟨s0, s1, s2, s3, s4⟩; go_simp; with_reducible rfl); rotate_left; (·simp only [Act.put, sI, sZ, sS, iW, jW]; rfl)
       refine pure_ (i := 16) (N := some 30) (v := ?_) (a' := ?_) #[T,T,T,T,T,T,T,T,T,T,T,T,T,T,T,T,T,F,F] rfl rfl (aO HT_.out (by kernel_rfl)) (fun _ _ _ h => h) (Or.inl ⟨by rfl, ?_⟩) ?_ ?_; rotate_left; (·intro w'; go_simp; with_reducible rfl); rotate_left; (·simp only [Act.put, sI, sZ, sS, iW, jW]; rfl)
       refine one_ (i := 17) (N := some 7) #[T,T,T,T,T,T,T,T,T,T,T,T,T,T,T,T,T,T,F] rfl rfl (oO HT_.out (by kernel_rfl)) (by decide) (fun K hK => ?_)
       refine box_step ?hg (N := 7) ?hd (cs := #[.string (⟨#[]⟩ : ByteArray), .int .i64 0, .int .i64 0, .int .i64 0, .int .i64 0, .int .i64 0]) (t := 50) ?hr ?_; (case hd => rfl); (case hg => rfl); (case hr => first | (go_simp; done) | (go_simp; rfl))
       intro gb223 hg w46 hbox hb
       have HS0_ := (hb.cell (World.block_lt_of_cell? _ _ (hHeld.1))).trans (hHeld.1)
       have HS1_ := (hb.cell (World.block_lt_of_cell? _ _ (hHeld.2.1))).trans (hHeld.2.1)
       have HS2_ := (hb.cell (World.block_lt_of_cell? _ _ (hHeld.2.2.1))).trans (hHeld.2.2.1)
       have HS3_ := (hb.cell (World.block_lt_of_cell? _ _ (hHeld.2.2.2.1))).trans (hHeld.2.2.2.1)
       have HS4_ := (hb.cell (World.block_lt_of_cell? _ _ (hHeld.2.2.2.2))).trans (hHeld.2.2.2.2)
       have n0_ := Aside0.mk (rB (by (with_reducible repeat (first | apply rA | apply rN | apply rD)); exact HO217.out) hb)
       have n1_ := Aside0.mk (kB (g := gb212) (o := .cells #[.string (⟨#[]⟩ : ByteArray), .int .i64 0, .int .i64 0, .int .i64 0, .int .i64 0, .int .i64 0] 50 (0, 0)) (by (with_reducible repeat (first | refine kN ?_ _ | refine kD ?_ | refine kA ?_ _)); exact BK212.out) hb)
       have n2_ := Aside0.mk (bP (by repeat (first | (with_reducible first | exact HB.out | apply bA | apply bN | apply bD | refine bS ?_ GE212.out) | exact HB.out)) hb)
       have n3_ := Aside0.mk (hbox)
       have n4_ := Aside0.mk ((by rw [hg]; exact (bZ (by repeat (first | (with_reducible first | exact HB.out | apply bA | apply bN | apply bD | refine bS ?_ GE212.out) | exact HB.out))) : w.heap.size ≤ gb223))
       have n5_ := Aside0.mk ((by rw [hg]; exact (bZ (by repeat (first | (with_reducible first | exact HB.out | apply bA | apply bN | apply bD | refine bS ?_ GE212.out) | exact HB.out))) : w.heap.size ≤ gb223))
       have n6_ := Aside0.mk ((by rw [hg]; exact Nat.ne_of_lt (kL (g := gb212) (o := .cells #[.string (⟨#[]⟩ : ByteArray), .int .i64 0, .int .i64 0, .int .i64 0, .int .i64 0, .int .i64 0] 50 (0, 0)) (by (with_reducible repeat (first | refine kN ?_ _ | refine kD ?_ | refine kA ?_ _)); exact BK212.out)) : gb212 ≠ gb223))
       have n7_ := Aside0.mk ((by rw [hg]; exact Nat.ne_of_gt (kL (g := gb212) (o := .cells #[.string (⟨#[]⟩ : ByteArray), .int .i64 0, .int .i64 0, .int .i64 0, .int .i64 0, .int .i64 0] 50 (0, 0)) (by (with_reducible repeat (first | refine kN ?_ _ | refine kD ?_ | refine kA ?_ _)); exact BK212.out)) : gb223 ≠ gb212))
       clear HO217
       clear BK212
       clear HB
       have HO217 := n0_
       have BK212 := n1_
       have HB := n2_
       have BK223 := n3_
       have GW223 := n4_
       have GE223 := n5_
       have NB212_223 := n6_
       have NB223_212 := n7_
       clear n0_ n1_ n2_ n3_ n4_ n5_ n6_ n7_
       clear hb hbox hg
       refine hK.out _ _ ⟨HS0_, HS1_, HS2_, HS3_, HS4_⟩ (fun hHeld => ?_)
       clear hK K
       refine norm_ (a' := ?_) ?_ ?_
       rotate_left
       ·show Act.put _ (some 7) _ = _
        simp only [Act.put, sI, sZ, sS, iW, jW]
        rfl
       refine one_ (i := 18) (N := none) #[T,T,T,T,T,T,T,T,T,T,T,T,T,T,T,T,T,T,T] rfl rfl (oO HT_.out (by kernel_rfl)) (by decide) (fun K hK => ?_)
       have hs47 : w46.cell? ⟨gb223, 0, none⟩ = some (.string (⟨#[]⟩ : ByteArray)) := (kC BK223.out 0).trans rfl
       have hfs47 := blk_frozen BK223.out 0
       have hns47_0 := NB212_223.out
       have hms47_0 := NB223_212.out
       have hs48 : w46.cell? ⟨gb223, 1, none⟩ = some (.int .i64 0) := (kC BK223.out 1).trans rfl
       have hfs48 := blk_frozen BK223.out 1
       have hns48_0 := NB212_223.out
       have hms48_0 := NB223_212.out
       have hs49 : w46.cell? ⟨gb223, 2, none⟩ = some (.int .i64 0) := (kC BK223.out 2).trans rfl
       have hfs49 := blk_frozen BK223.out 2
       have hns49_0 := NB212_223.out
       have hms49_0 := NB223_212.out
       have hs50 : w46.cell? ⟨gb223, 3, none⟩ = some (.int .i64 0) := (kC BK223.out 3).trans rfl
       have hfs50 := blk_frozen BK223.out 3
       have hns50_0 := NB212_223.out
       have hms50_0 := NB223_212.out
       have hs51 : w46.cell? ⟨gb223, 4, none⟩ = some (.int .i64 0) := (kC BK223.out 4).trans rfl
       have hfs51 := blk_frozen BK223.out 4
       have hns51_0 := NB212_223.out
       have hms51_0 := NB223_212.out
       have hs52 : w46.cell? ⟨gb223, 5, none⟩ = some (.int .i64 0) := (kC BK223.out 5).trans rfl
       have hfs52 := blk_frozen BK223.out 5
       have hns52_0 := NB212_223.out
       have hms52_0 := NB223_212.out
       refine skip_ (w1 := ?_) (by rfl) rfl ?_ ?_
       rotate_left
       ·go_simp
        rfl
       refine hK.out _ _ ⟨ (by refine (cell_far (p := ⟨gb223, _, none⟩) (by first | ((try rw [add_block]); (try dsimp only); exact Kd.own_blk (Kd.R_ne HO217.out BK223.out (by decide))) | exact Kd.own_blk (Kd.R_ne HO217.out BK223.out (by decide)) | (show (Addr.add _ _).block ≠ _; rw [add_block]; exact Kd.own_blk (Kd.R_ne HO217.out BK223.out (by decide))) | (dsimp only; exact Kd.own_blk (Kd.R_ne HO217.out BK223.out (by decide)))) _).trans ?_; refine (cell_far (p := ⟨gb223, _, none⟩) (by first | ((try rw [add_block]); (try dsimp only); exact Kd.own_blk (Kd.R_ne HO217.out BK223.out (by decide))) | exact Kd.own_blk (Kd.R_ne HO217.out BK223.out (by decide)) | (show (Addr.add _ _).block ≠ _; rw [add_block]; exact Kd.own_blk (Kd.R_ne HO217.out BK223.out (by decide))) | (dsimp only; exact Kd.own_blk (Kd.R_ne HO217.out BK223.out (by decide)))) _).trans ?_; refine (cell_far (p := ⟨gb223, _, none⟩) (by first | ((try rw [add_block]); (try dsimp only); exact Kd.own_blk (Kd.R_ne HO217.out BK223.out (by decide))) | exact Kd.own_blk (Kd.R_ne HO217.out BK223.out (by decide)) | (show (Addr.add _ _).block ≠ _; rw [add_block]; exact Kd.own_blk (Kd.R_ne HO217.out BK223.out (by decide))) | (dsimp only; exact Kd.own_blk (Kd.R_ne HO217.out BK223.out (by decide)))) _).trans ?_; refine (cell_far (p := ⟨gb223, _, none⟩) (by first | ((try rw [add_block]); (try dsimp only); exact Kd.own_blk (Kd.R_ne HO217.out BK223.out (by decide))) | exact Kd.own_blk (Kd.R_ne HO217.out BK223.out (by decide)) | (show (Addr.add _ _).block ≠ _; rw [add_block]; exact Kd.own_blk (Kd.R_ne HO217.out BK223.out (by decide))) | (dsimp only; exact Kd.own_blk (Kd.R_ne HO217.out BK223.out (by decide)))) _).trans ?_; refine (cell_far (p := ⟨gb223, _, none⟩) (by first | ((try rw [add_block]); (try dsimp only); exact Kd.own_blk (Kd.R_ne HO217.out BK223.out (by decide))) | exact Kd.own_blk (Kd.R_ne HO217.out BK223.out (by decide)) | (show (Addr.add _ _).block ≠ _; rw [add_block]; exact Kd.own_blk (Kd.R_ne HO217.out BK223.out (by decide))) | (dsimp only; exact Kd.own_blk (Kd.R_ne HO217.out BK223.out (by decide)))) _).trans ?_; refine (cell_far (p := ⟨gb223, _, none⟩) (by first | ((try rw [add_block]); (try dsimp only); exact Kd.own_blk (Kd.R_ne HO217.out BK223.out (by decide))) | exact Kd.own_blk (Kd.R_ne HO217.out BK223.out (by decide)) | (show (Addr.add _ _).block ≠ _; rw [add_block]; exact Kd.own_blk (Kd.R_ne HO217.out BK223.out (by decide))) | (dsimp only; exact Kd.own_blk (Kd.R_ne HO217.out BK223.out (by decide)))) _).trans ?_; exact hHeld.1), (by refine (cell_far (p := ⟨gb223, _, none⟩) (by first | ((try rw [add_block]); (try dsimp only); exact Kd.own_blk (Kd.R_ne HO217.out BK223.out (by decide))) | exact Kd.own_blk (Kd.R_ne HO217.out BK223.out (by decide)) | (show (Addr.add _ _).block ≠ _; rw [add_block]; exact Kd.own_blk (Kd.R_ne HO217.out BK223.out (by decide))) | (dsimp only; exact Kd.own_blk (Kd.R_ne HO217.out BK223.out (by decide)))) _).trans ?_; refine (cell_far (p := ⟨gb223, _, none⟩) (by first | ((try rw [add_block]); (try dsimp only); exact Kd.own_blk (Kd.R_ne HO217.out BK223.out (by decide))) | exact Kd.own_blk (Kd.R_ne HO217.out BK223.out (by decide)) | (show (Addr.add _ _).block ≠ _; rw [add_block]; exact Kd.own_blk (Kd.R_ne HO217.out BK223.out (by decide))) | (dsimp only; exact Kd.own_blk (Kd.R_ne HO217.out BK223.out (by decide)))) _).trans ?_; refine (cell_far (p := ⟨gb223, _, none⟩) (by first | ((try rw [add_block]); (try dsimp only); exact Kd.own_blk (Kd.R_ne HO217.out BK223.out (by decide))) | exact Kd.own_blk (Kd.R_ne HO217.out BK223.out (by decide)) | (show (Addr.add _ _).block ≠ _; rw [add_block]; exact Kd.own_blk (Kd.R_ne HO217.out BK223.out (by decide))) | (dsimp only; exact Kd.own_blk (Kd.R_ne HO217.out BK223.out (by decide)))) _).trans ?_; refine (cell_far (p := ⟨gb223, _, none⟩) (by first | ((try rw [add_block]); (try dsimp only); exact Kd.own_blk (Kd.R_ne HO217.out BK223.out (by decide))) | exact Kd.own_blk (Kd.R_ne HO217.out BK223.out (by decide)) | (show (Addr.add _ _).block ≠ _; rw [add_block]; exact Kd.own_blk (Kd.R_ne HO217.out BK223.out (by decide))) | (dsimp only; exact Kd.own_blk (Kd.R_ne HO217.out BK223.out (by decide)))) _).trans ?_; refine (cell_far (p := ⟨gb223, _, none⟩) (by first | ((try rw [add_block]); (try dsimp only); exact Kd.own_blk (Kd.R_ne HO217.out BK223.out (by decide))) | exact Kd.own_blk (Kd.R_ne HO217.out BK223.out (by decide)) | (show (Addr.add _ _).block ≠ _; rw [add_block]; exact Kd.own_blk (Kd.R_ne HO217.out BK223.out (by decide))) | (dsimp only; exact Kd.own_blk (Kd.R_ne HO217.out BK223.out (by decide)))) _).trans ?_; refine (cell_far (p := ⟨gb223, _, none⟩) (by first | ((try rw [add_block]); (try dsimp only); exact Kd.own_blk (Kd.R_ne HO217.out BK223.out (by decide))) | exact Kd.own_blk (Kd.R_ne HO217.out BK223.out (by decide)) | (show (Addr.add _ _).block ≠ _; rw [add_block]; exact Kd.own_blk (Kd.R_ne HO217.out BK223.out (by decide))) | (dsimp only; exact Kd.own_blk (Kd.R_ne HO217.out BK223.out (by decide)))) _).trans ?_; exact hHeld.2.1), (by refine (cell_far (p := ⟨gb223, _, none⟩) (by first | ((try rw [add_block]); (try dsimp only); exact Kd.own_blk (Kd.R_ne HO217.out BK223.out (by decide))) | exact Kd.own_blk (Kd.R_ne HO217.out BK223.out (by decide)) | (show (Addr.add _ _).block ≠ _; rw [add_block]; exact Kd.own_blk (Kd.R_ne HO217.out BK223.out (by decide))) | (dsimp only; exact Kd.own_blk (Kd.R_ne HO217.out BK223.out (by decide)))) _).trans ?_; refine (cell_far (p := ⟨gb223, _, none⟩) (by first | ((try rw [add_block]); (try dsimp only); exact Kd.own_blk (Kd.R_ne HO217.out BK223.out (by decide))) | exact Kd.own_blk (Kd.R_ne HO217.out BK223.out (by decide)) | (show (Addr.add _ _).block ≠ _; rw [add_block]; exact Kd.own_blk (Kd.R_ne HO217.out BK223.out (by decide))) | (dsimp only; exact Kd.own_blk (Kd.R_ne HO217.out BK223.out (by decide)))) _).trans ?_; refine (cell_far (p := ⟨gb223, _, none⟩) (by first | ((try rw [add_block]); (try dsimp only); exact Kd.own_blk (Kd.R_ne HO217.out BK223.out (by decide))) | exact Kd.own_blk (Kd.R_ne HO217.out BK223.out (by decide)) | (show (Addr.add _ _).block ≠ _; rw [add_block]; exact Kd.own_blk (Kd.R_ne HO217.out BK223.out (by decide))) | (dsimp only; exact Kd.own_blk (Kd.R_ne HO217.out BK223.out (by decide)))) _).trans ?_; refine (cell_far (p := ⟨gb223, _, none⟩) (by first | ((try rw [add_block]); (try dsimp only); exact Kd.own_blk (Kd.R_ne HO217.out BK223.out (by decide))) | exact Kd.own_blk (Kd.R_ne HO217.out BK223.out (by decide)) | (show (Addr.add _ _).block ≠ _; rw [add_block]; exact Kd.own_blk (Kd.R_ne HO217.out BK223.out (by decide))) | (dsimp only; exact Kd.own_blk (Kd.R_ne HO217.out BK223.out (by decide)))) _).trans ?_; refine (cell_far (p := ⟨gb223, _, none⟩) (by first | ((try rw [add_block]); (try dsimp only); exact Kd.own_blk (Kd.R_ne HO217.out BK223.out (by decide))) | exact Kd.own_blk (Kd.R_ne HO217.out BK223.out (by decide)) | (show (Addr.add _ _).block ≠ _; rw [add_block]; exact Kd.own_blk (Kd.R_ne HO217.out BK223.out (by decide))) | (dsimp only; exact Kd.own_blk (Kd.R_ne HO217.out BK223.out (by decide)))) _).trans ?_; refine (cell_far (p := ⟨gb223, _, none⟩) (by first | ((try rw [add_block]); (try dsimp only); exact Kd.own_blk (Kd.R_ne HO217.out BK223.out (by decide))) | exact Kd.own_blk (Kd.R_ne HO217.out BK223.out (by decide)) | (show (Addr.add _ _).block ≠ _; rw [add_block]; exact Kd.own_blk (Kd.R_ne HO217.out BK223.out (by decide))) | (dsimp only; exact Kd.own_blk (Kd.R_ne HO217.out BK223.out (by decide)))) _).trans ?_; exact hHeld.2.2.1), (by refine (cell_far (p := ⟨gb223, _, none⟩) (by first | ((try rw [add_block]); (try dsimp only); exact Kd.own_blk (Kd.R_ne HO217.out BK223.out (by decide))) | exact Kd.own_blk (Kd.R_ne HO217.out BK223.out (by decide)) | (show (Addr.add _ _).block ≠ _; rw [add_block]; exact Kd.own_blk (Kd.R_ne HO217.out BK223.out (by decide))) | (dsimp only; exact Kd.own_blk (Kd.R_ne HO217.out BK223.out (by decide)))) _).trans ?_; refine (cell_far (p := ⟨gb223, _, none⟩) (by first | ((try rw [add_block]); (try dsimp only); exact Kd.own_blk (Kd.R_ne HO217.out BK223.out (by decide))) | exact Kd.own_blk (Kd.R_ne HO217.out BK223.out (by decide)) | (show (Addr.add _ _).block ≠ _; rw [add_block]; exact Kd.own_blk (Kd.R_ne HO217.out BK223.out (by decide))) | (dsimp only; exact Kd.own_blk (Kd.R_ne HO217.out BK223.out (by decide)))) _).trans ?_; refine (cell_far (p := ⟨gb223, _, none⟩) (by first | ((try rw [add_block]); (try dsimp only); exact Kd.own_blk (Kd.R_ne HO217.out BK223.out (by decide))) | exact Kd.own_blk (Kd.R_ne HO217.out BK223.out (by decide)) | (show (Addr.add _ _).block ≠ _; rw [add_block]; exact Kd.own_blk (Kd.R_ne HO217.out BK223.out (by decide))) | (dsimp only; exact Kd.own_blk (Kd.R_ne HO217.out BK223.out (by decide)))) _).trans ?_; refine (cell_far (p := ⟨gb223, _, none⟩) (by first | ((try rw [add_block]); (try dsimp only); exact Kd.own_blk (Kd.R_ne HO217.out BK223.out (by decide))) | exact Kd.own_blk (Kd.R_ne HO217.out BK223.out (by decide)) | (show (Addr.add _ _).block ≠ _; rw [add_block]; exact Kd.own_blk (Kd.R_ne HO217.out BK223.out (by decide))) | (dsimp only; exact Kd.own_blk (Kd.R_ne HO217.out BK223.out (by decide)))) _).trans ?_; refine (cell_far (p := ⟨gb223, _, none⟩) (by first | ((try rw [add_block]); (try dsimp only); exact Kd.own_blk (Kd.R_ne HO217.out BK223.out (by decide))) | exact Kd.own_blk (Kd.R_ne HO217.out BK223.out (by decide)) | (show (Addr.add _ _).block ≠ _; rw [add_block]; exact Kd.own_blk (Kd.R_ne HO217.out BK223.out (by decide))) | (dsimp only; exact Kd.own_blk (Kd.R_ne HO217.out BK223.out (by decide)))) _).trans ?_; refine (cell_far (p := ⟨gb223, _, none⟩) (by first | ((try rw [add_block]); (try dsimp only); exact Kd.own_blk (Kd.R_ne HO217.out BK223.out (by decide))) | exact Kd.own_blk (Kd.R_ne HO217.out BK223.out (by decide)) | (show (Addr.add _ _).block ≠ _; rw [add_block]; exact Kd.own_blk (Kd.R_ne HO217.out BK223.out (by decide))) | (dsimp only; exact Kd.own_blk (Kd.R_ne HO217.out BK223.out (by decide)))) _).trans ?_; exact hHeld.2.2.2.1), (by refine (cell_far (p := ⟨gb223, _, none⟩) (by first | ((try rw [add_block]); (try dsimp only); exact Kd.own_blk (Kd.R_ne HO217.out BK223.out (by decide))) | exact Kd.own_blk (Kd.R_ne HO217.out BK223.out (by decide)) | (show (Addr.add _ _).block ≠ _; rw [add_block]; exact Kd.own_blk (Kd.R_ne HO217.out BK223.out (by decide))) | (dsimp only; exact Kd.own_blk (Kd.R_ne HO217.out BK223.out (by decide)))) _).trans ?_; refine (cell_far (p := ⟨gb223, _, none⟩) (by first | ((try rw [add_block]); (try dsimp only); exact Kd.own_blk (Kd.R_ne HO217.out BK223.out (by decide))) | exact Kd.own_blk (Kd.R_ne HO217.out BK223.out (by decide)) | (show (Addr.add _ _).block ≠ _; rw [add_block]; exact Kd.own_blk (Kd.R_ne HO217.out BK223.out (by decide))) | (dsimp only; exact Kd.own_blk (Kd.R_ne HO217.out BK223.out (by decide)))) _).trans ?_; refine (cell_far (p := ⟨gb223, _, none⟩) (by first | ((try rw [add_block]); (try dsimp only); exact Kd.own_blk (Kd.R_ne HO217.out BK223.out (by decide))) | exact Kd.own_blk (Kd.R_ne HO217.out BK223.out (by decide)) | (show (Addr.add _ _).block ≠ _; rw [add_block]; exact Kd.own_blk (Kd.R_ne HO217.out BK223.out (by decide))) | (dsimp only; exact Kd.own_blk (Kd.R_ne HO217.out BK223.out (by decide)))) _).trans ?_; refine (cell_far (p := ⟨gb223, _, none⟩) (by first | ((try rw [add_block]); (try dsimp only); exact Kd.own_blk (Kd.R_ne HO217.out BK223.out (by decide))) | exact Kd.own_blk (Kd.R_ne HO217.out BK223.out (by decide)) | (show (Addr.add _ _).block ≠ _; rw [add_block]; exact Kd.own_blk (Kd.R_ne HO217.out BK223.out (by decide))) | (dsimp only; exact Kd.own_blk (Kd.R_ne HO217.out BK223.out (by decide)))) _).trans ?_; refine (cell_far (p := ⟨gb223, _, none⟩) (by first | ((try rw [add_block]); (try dsimp only); exact Kd.own_blk (Kd.R_ne HO217.out BK223.out (by decide))) | exact Kd.own_blk (Kd.R_ne HO217.out BK223.out (by decide)) | (show (Addr.add _ _).block ≠ _; rw [add_block]; exact Kd.own_blk (Kd.R_ne HO217.out BK223.out (by decide))) | (dsimp only; exact Kd.own_blk (Kd.R_ne HO217.out BK223.out (by decide)))) _).trans ?_; refine (cell_far (p := ⟨gb223, _, none⟩) (by first | ((try rw [add_block]); (try dsimp only); exact Kd.own_blk (Kd.R_ne HO217.out BK223.out (by decide))) | exact Kd.own_blk (Kd.R_ne HO217.out BK223.out (by decide)) | (show (Addr.add _ _).block ≠ _; rw [add_block]; exact Kd.own_blk (Kd.R_ne HO217.out BK223.out (by decide))) | (dsimp only; exact Kd.own_blk (Kd.R_ne HO217.out BK223.out (by decide)))) _).trans ?_; exact hHeld.2.2.2.2)⟩ (fun hHeld => ?_)
       clear hK K
       refine done_ (done_of HT_.out (by kernel_rfl)) ?_
       have hnb53 := NB212_223.out
       have hnc53 := NB223_212.out
       have hcz54_0 : w46.cell? ⟨gb212, 0, none⟩ = some (.string (⟨#[]⟩ : ByteArray)) := (kC BK212.out 0).trans rfl
       have hcz54_1 : w46.cell? ⟨gb212, 1, none⟩ = some (.int .i64 0) := (kC BK212.out 1).trans rfl
       have hcz54_2 : w46.cell? ⟨gb212, 2, none⟩ = some (.int .i64 0) := (kC BK212.out 2).trans rfl
       have hcz54_3 : w46.cell? ⟨gb212, 3, none⟩ = some (.int .i64 0) := (kC BK212.out 3).trans rfl
       have hcz54_4 : w46.cell? ⟨gb212, 4, none⟩ = some (.int .i64 0) := (kC BK212.out 4).trans rfl
       have hcz54_5 : w46.cell? ⟨gb212, 5, none⟩ = some (.int .i64 0) := (kC BK212.out 5).trans rfl
       have hfz54_0 := blk_frozen BK212.out 0
       have hfz54_1 := blk_frozen BK212.out 1
       have hfz54_2 := blk_frozen BK212.out 2
       have hfz54_3 := blk_frozen BK212.out 3
       have hfz54_4 := blk_frozen BK212.out 4
       have hfz54_5 := blk_frozen BK212.out 5
       try go_wp2
       refine bodyPost_ret (results_ct rfl _ _ gb212 50 #[.string (⟨#[]⟩ : ByteArray), .int .i64 0, .int .i64 0, .int .i64 0, .int .i64 0, .int .i64 0] (0, 0) _ rfl (by (with_reducible repeat (first | refine kN ?_ _ | refine kD ?_ | refine kA ?_ _)); refine blk_put (cs := #[.string (⟨#[]⟩ : ByteArray), .int .i64 0, .int .i64 0, .int .i64 0, .int .i64 0, .int .i64 0]) ?_ 5 _ rfl; (with_reducible repeat (first | refine kN ?_ _ | refine kD ?_ | refine kA ?_ _)); refine blk_put (cs := #[.string (⟨#[]⟩ : ByteArray), .int .i64 0, .int .i64 0, .int .i64 0, .int .i64 0, .int .i64 0]) ?_ 4 _ rfl; (with_reducible repeat (first | refine kN ?_ _ | refine kD ?_ | refine kA ?_ _)); refine blk_put (cs := #[.string (⟨#[]⟩ : ByteArray), .int .i64 0, .int .i64 0, .int .i64 0, .int .i64 0, .int .i64 0]) ?_ 3 _ rfl; (with_reducible repeat (first | refine kN ?_ _ | refine kD ?_ | refine kA ?_ _)); refine blk_put (cs := #[.string (⟨#[]⟩ : ByteArray), .int .i64 0, .int .i64 0, .int .i64 0, .int .i64 0, .int .i64 0]) ?_ 2 _ rfl; (with_reducible repeat (first | refine kN ?_ _ | refine kD ?_ | refine kA ?_ _)); refine blk_put (cs := #[.string (⟨#[]⟩ : ByteArray), .int .i64 0, .int .i64 0, .int .i64 0, .int .i64 0, .int .i64 0]) ?_ 1 _ rfl; (with_reducible repeat (first | refine kN ?_ _ | refine kD ?_ | refine kA ?_ _)); refine blk_put (cs := #[.string (⟨#[]⟩ : ByteArray), .int .i64 0, .int .i64 0, .int .i64 0, .int .i64 0, .int .i64 0]) ?_ 0 _ rfl; (with_reducible repeat (first | refine kN ?_ _ | refine kD ?_ | refine kA ?_ _)); refine kF ?_ NB212_223.out _; (with_reducible repeat (first | refine kN ?_ _ | refine kD ?_ | refine kA ?_ _)); refine kF ?_ NB212_223.out _; (with_reducible repeat (first | refine kN ?_ _ | refine kD ?_ | refine kA ?_ _)); refine kF ?_ NB212_223.out _; (with_reducible repeat (first | refine kN ?_ _ | refine kD ?_ | refine kA ?_ _)); refine kF ?_ NB212_223.out _; (with_reducible repeat (first | refine kN ?_ _ | refine kD ?_ | refine kA ?_ _)); refine kF ?_ NB212_223.out _; (with_reducible repeat (first | refine kN ?_ _ | refine kD ?_ | refine kA ?_ _)); refine kF ?_ NB212_223.out _; (with_reducible repeat (first | refine kN ?_ _ | refine kD ?_ | refine kA ?_ _)); exact BK212.out) Tryd.underlying50 rfl (by kernel_rfl)) rfl ?_
       exact ⟨by first | rfl | (simp [errW_none, errW_some] <;> rfl) | (simp [*, errW_none, errW_some] <;> rfl), by repeat (first | (with_reducible first | exact HB.out | apply bA | apply bN | apply bD | refine bS ?_ GE212.out | refine bS ?_ GE223.out) | exact HB.out)⟩
     ·rw [if_neg c7] at H
      exact absurd H (by simp)
    ·rw [if_neg c6] at H
     exact absurd H (by simp)
   ·rw [if_neg c5] at H
    exact absurd H (by simp)
  ·rw [if_neg c4] at H
   exact absurd H (by simp)
 ·rw [if_neg c3] at H
  exact absurd H (by simp)

end Go.Proofs.YtlmeijlandogaaaDoor.R
-- shrunk
-- tight
