/- What functions of the given program compute, as plain Lean functions, and that the code comes to just that; by a program of this session over the kit's print. No condition. -/
import Derived.Test.YtlphcdophgkdpaaDoorOx0
import Derived.Test.YtlphcdophgkdpaaDoorOx4
namespace Go.Proofs.YtlphcdophgkdpaaDoor.O
open Go.RowKit Go.Proofs.YtlphcdophgkdpaaDoorW.PrintWords Go.Proofs.YtlphcdophgkdpaaDoorW.PrintLast Go.Proofs.YtlphcdophgkdpaaDoorW.PrintMore
open Go.Proofs.YtlphcdophgkdpaaDoorW.PrintWords renaming below_alloc → bA, pw_below_drewN → bN, below_drew1 → bD, below_set → bS, blk_drewN → kN, blk_drew → kD, blk_alloc → kA, blk_below → kB, below_size → bZ, below_step → bP, gate_callee → gC, box_event → bE, blk_cell → kC
open Go.Proofs.YtlphcdophgkdpaaDoorW.PrintLast renaming take_ofW → tW, any_of → aO, one_of → oO, i64_w → iW, i32_w → jW
open List renaming setIfInBounds_toArray → sI, set_cons_zero → sZ, set_cons_succ → sS
open Bool renaming true → T, false → F
attribute [local go_sem] max2_int min2_int max_two min_two max_three min_three max_four min_four   -- for this text's walks alone
set_option linter.unusedVariables false
set_option linter.unusedSimpArgs false

/-! ### impl_OrnamentText: function 24 -/
def impl_OrnamentText.f (a0_0 : Int) (a0_1 : Int) (a0_2 : Int) : Option (ByteArray) := (impl_ValidOrnament.f a0_0 a0_1 a0_2).bind fun t141 => (if t141 = true then ((impl_OrnamentName.f a0_0).bind fun t142 => (if t142.size + 1 ≤ 9223372036854775807 then ((impl_Decimal.f a0_1).bind fun t143 => (if (t142 ++ (⟨#[32]⟩ : ByteArray)).size + t143.size ≤ 9223372036854775807 then (if ((t142 ++ (⟨#[32]⟩ : ByteArray)) ++ t143).size + 1 ≤ 9223372036854775807 then ((impl_Decimal.f a0_2).bind fun t144 => (if (((t142 ++ (⟨#[32]⟩ : ByteArray)) ++ t143) ++ (⟨#[32]⟩ : ByteArray)).size + t144.size ≤ 9223372036854775807 then (some ((((t142 ++ (⟨#[32]⟩ : ByteArray)) ++ t143) ++ (⟨#[32]⟩ : ByteArray)) ++ t144)) else (none))) else (none)) else (none))) else (none))) else (some (⟨#[]⟩ : ByteArray)))
def impl_OrnamentText.T3 : Bool × List (List Nat × List Nat) := (true, [([], []), ([0], [0]), ([1], [1]), ([2], [2]), ([], []), ([4], [4]), ([5, 2], [5]), ([3, 6], [3, 6]), ([7], [7]), ([], []), ([9], [9]), ([10, 6], [10]), ([8, 11], [8, 11]), ([12, 11, 0, 1, 2, 3, 4, 5, 6, 7, 8, 9, 10, 11, 12], [12])])
def impl_OrnamentText.B3 : List Nat := [0, 1, 3, 7, 0, 16, 55, 127, 255, 0, 512, 1655, 4095, 8191]
theorem impl_OrnamentText.tab3 : rtab .any (opsOf Tryd.f24 3) = impl_OrnamentText.T3 := by kernel_rfl
theorem impl_OrnamentText.bits3 : waitsOk impl_OrnamentText.T3.2 impl_OrnamentText.B3 = true := by kernel_rfl
set_option maxHeartbeats 8000000 in
set_option maxRecDepth 100000 in
theorem impl_OrnamentText.calls (a0_0 : Int) (a0_1 : Int) (a0_2 : Int) (r : ByteArray) (w : World) (hT : Tab w) (h : impl_OrnamentText.f a0_0 a0_1 a0_2 = some r) :
  Calls Tryd.prog 24 #[.agg #[.int .i64 a0_0, .int .i64 a0_1, .int .i64 a0_2]] w fun e w' => e = .returned (.string r) ∧ Below w.heap.size w w' := by
 have hu39 := Tryd.underlying39
 have HB := Aside0.mk (Below.refl w.heap.size w)
 have H : ((impl_ValidOrnament.f a0_0 a0_1 a0_2).bind fun t141 => (if t141 = true then ((impl_OrnamentName.f a0_0).bind fun t142 => (if t142.size + 1 ≤ 9223372036854775807 then ((impl_Decimal.f a0_1).bind fun t143 => (if (t142 ++ (⟨#[32]⟩ : ByteArray)).size + t143.size ≤ 9223372036854775807 then (if ((t142 ++ (⟨#[32]⟩ : ByteArray)) ++ t143).size + 1 ≤ 9223372036854775807 then ((impl_Decimal.f a0_2).bind fun t144 => (if (((t142 ++ (⟨#[32]⟩ : ByteArray)) ++ t143) ++ (⟨#[32]⟩ : ByteArray)).size + t144.size ≤ 9223372036854775807 then (some ((((t142 ++ (⟨#[32]⟩ : ByteArray)) ++ t143) ++ (⟨#[32]⟩ : ByteArray)) ++ t144)) else (none))) else (none)) else (none))) else (none))) else (some (⟨#[]⟩ : ByteArray)))) = some r := h
 clear h
 replace H := Option.bind_eq_some_iff.mp H
 obtain ⟨t141, A20, H⟩ := H
 replace H : (if t141 = true then ((impl_OrnamentName.f a0_0).bind fun t142 => (if t142.size + 1 ≤ 9223372036854775807 then ((impl_Decimal.f a0_1).bind fun t143 => (if (t142 ++ (⟨#[32]⟩ : ByteArray)).size + t143.size ≤ 9223372036854775807 then (if ((t142 ++ (⟨#[32]⟩ : ByteArray)) ++ t143).size + 1 ≤ 9223372036854775807 then ((impl_Decimal.f a0_2).bind fun t144 => (if (((t142 ++ (⟨#[32]⟩ : ByteArray)) ++ t143) ++ (⟨#[32]⟩ : ByteArray)).size + t144.size ≤ 9223372036854775807 then (some ((((t142 ++ (⟨#[32]⟩ : ByteArray)) ++ t143) ++ (⟨#[32]⟩ : ByteArray)) ++ t144)) else (none))) else (none)) else (none))) else (none))) else (some (⟨#[]⟩ : ByteArray))) = some r := H
 have A2 := Aside0.mk A20
 clear A20
 by_cases c3 : t141 = true
 ·subst c3
  have H1 : ((impl_OrnamentName.f a0_0).bind fun t142 => (if t142.size + 1 ≤ 9223372036854775807 then ((impl_Decimal.f a0_1).bind fun t143 => (if (t142 ++ (⟨#[32]⟩ : ByteArray)).size + t143.size ≤ 9223372036854775807 then (if ((t142 ++ (⟨#[32]⟩ : ByteArray)) ++ t143).size + 1 ≤ 9223372036854775807 then ((impl_Decimal.f a0_2).bind fun t144 => (if (((t142 ++ (⟨#[32]⟩ : ByteArray)) ++ t143) ++ (⟨#[32]⟩ : ByteArray)).size + t144.size ≤ 9223372036854775807 then (some ((((t142 ++ (⟨#[32]⟩ : ByteArray)) ++ t143) ++ (⟨#[32]⟩ : ByteArray)) ++ t144)) else (none))) else (none)) else (none))) else (none))) = some r := by rw [if_pos rfl] at H; exact H
  clear H
  have H := H1
  clear H1
  replace H := Option.bind_eq_some_iff.mp H
  obtain ⟨t142, A40, H⟩ := H
  replace H : (if t142.size + 1 ≤ 9223372036854775807 then ((impl_Decimal.f a0_1).bind fun t143 => (if (t142 ++ (⟨#[32]⟩ : ByteArray)).size + t143.size ≤ 9223372036854775807 then (if ((t142 ++ (⟨#[32]⟩ : ByteArray)) ++ t143).size + 1 ≤ 9223372036854775807 then ((impl_Decimal.f a0_2).bind fun t144 => (if (((t142 ++ (⟨#[32]⟩ : ByteArray)) ++ t143) ++ (⟨#[32]⟩ : ByteArray)).size + t144.size ≤ 9223372036854775807 then (some ((((t142 ++ (⟨#[32]⟩ : ByteArray)) ++ t143) ++ (⟨#[32]⟩ : ByteArray)) ++ t144)) else (none))) else (none)) else (none))) else (none)) = some r := H
  have A4 := Aside0.mk A40
  clear A40
  by_cases c5 : t142.size + 1 ≤ 9223372036854775807
  ·rw [if_pos c5] at H
   have c5b0 := eq_true c5
   have c5b1 : decide (t142.size + 1 ≤ 9223372036854775807) = true := decide_eq_true c5
   try have c5b2 : (9223372036854775807 < t142.size + 1) = False := eq_false (Nat.not_lt.2 c5)
   replace H := Option.bind_eq_some_iff.mp H
   obtain ⟨t143, A60, H⟩ := H
   replace H : (if (t142 ++ (⟨#[32]⟩ : ByteArray)).size + t143.size ≤ 9223372036854775807 then (if ((t142 ++ (⟨#[32]⟩ : ByteArray)) ++ t143).size + 1 ≤ 9223372036854775807 then ((impl_Decimal.f a0_2).bind fun t144 => (if (((t142 ++ (⟨#[32]⟩ : ByteArray)) ++ t143) ++ (⟨#[32]⟩ : ByteArray)).size + t144.size ≤ 9223372036854775807 then (some ((((t142 ++ (⟨#[32]⟩ : ByteArray)) ++ t143) ++ (⟨#[32]⟩ : ByteArray)) ++ t144)) else (none))) else (none)) else (none)) = some r := H
   have A6 := Aside0.mk A60
   clear A60
   by_cases c7 : (t142 ++ (⟨#[32]⟩ : ByteArray)).size + t143.size ≤ 9223372036854775807
   ·rw [if_pos c7] at H
    have c7b0 := eq_true c7
    have c7b1 : decide ((t142 ++ (⟨#[32]⟩ : ByteArray)).size + t143.size ≤ 9223372036854775807) = true := decide_eq_true c7
    try have c7b2 : (9223372036854775807 < (t142 ++ (⟨#[32]⟩ : ByteArray)).size + t143.size) = False := eq_false (Nat.not_lt.2 c7)
    try have c7z : (9223372036854775807 < t142.size + 1 + t143.size) = False := by simpa only [ByteArray.size_append, show ByteArray.size (⟨#[32]⟩ : ByteArray) = 1 from rfl] using c7b2
    by_cases c8 : ((t142 ++ (⟨#[32]⟩ : ByteArray)) ++ t143).size + 1 ≤ 9223372036854775807
    ·rw [if_pos c8] at H
     have c8b0 := eq_true c8
     have c8b1 : decide (((t142 ++ (⟨#[32]⟩ : ByteArray)) ++ t143).size + 1 ≤ 9223372036854775807) = true := decide_eq_true c8
     try have c8b2 : (9223372036854775807 < ((t142 ++ (⟨#[32]⟩ : ByteArray)) ++ t143).size + 1) = False := eq_false (Nat.not_lt.2 c8)
     try have c8z : (9223372036854775807 < t142.size + 1 + t143.size + 1) = False := by simpa only [ByteArray.size_append, show ByteArray.size (⟨#[32]⟩ : ByteArray) = 1 from rfl] using c8b2
     replace H := Option.bind_eq_some_iff.mp H
     obtain ⟨t144, A90, H⟩ := H
     replace H : (if (((t142 ++ (⟨#[32]⟩ : ByteArray)) ++ t143) ++ (⟨#[32]⟩ : ByteArray)).size + t144.size ≤ 9223372036854775807 then (some ((((t142 ++ (⟨#[32]⟩ : ByteArray)) ++ t143) ++ (⟨#[32]⟩ : ByteArray)) ++ t144)) else (none)) = some r := H
     have A9 := Aside0.mk A90
     clear A90
     by_cases c10 : (((t142 ++ (⟨#[32]⟩ : ByteArray)) ++ t143) ++ (⟨#[32]⟩ : ByteArray)).size + t144.size ≤ 9223372036854775807
     ·rw [if_pos c10] at H
      have c10b0 := eq_true c10
      have c10b1 : decide ((((t142 ++ (⟨#[32]⟩ : ByteArray)) ++ t143) ++ (⟨#[32]⟩ : ByteArray)).size + t144.size ≤ 9223372036854775807) = true := decide_eq_true c10
      try have c10b2 : (9223372036854775807 < (((t142 ++ (⟨#[32]⟩ : ByteArray)) ++ t143) ++ (⟨#[32]⟩ : ByteArray)).size + t144.size) = False := eq_false (Nat.not_lt.2 c10)
      try have c10z : (9223372036854775807 < t142.size + 1 + t143.size + 1 + t144.size) = False := by simpa only [ByteArray.size_append, show ByteArray.size (⟨#[32]⟩ : ByteArray) = 1 from rfl] using c10b2
      obtain rfl := Option.some.inj H
      go_enter Tryd.func24, Tryd.ntmps24
      try go_wp2_with (first | ((with_reducible refine gate_dst (N := 1) rfl ?_); refine bE ?hg (N := 1) ?hd (cs := #[.int .i64 a0_0, .int .i64 a0_1, .int .i64 a0_2]) (t := 39) ?hr ?_; (case hd => rfl); (case hg => rfl); (case hr => first | (go_simp; done) | (go_simp; rfl)); intro gb140 hg w11 hbox hb; have n0_ := Aside0.mk (bP (by repeat (first | (with_reducible first | exact HB.out | apply bA | apply bN | apply bD) | exact HB.out)) hb); have n1_ := Aside0.mk (hbox); have n2_ := Aside0.mk ((by rw [hg]; exact (bZ (by repeat (first | (with_reducible first | exact HB.out | apply bA | apply bN | apply bD) | exact HB.out))) : w.heap.size ≤ gb140)); have n3_ := Aside0.mk ((by rw [hg]; exact (bZ (by repeat (first | (with_reducible first | exact HB.out | apply bA | apply bN | apply bD) | exact HB.out))) : w.heap.size ≤ gb140)); clear HB; have HB := n0_; have BK140 := n1_; have GW140 := n2_; have GE140 := n3_; clear n0_ n1_ n2_ n3_; clear hb hbox hg; have hcz12_0 : w11.cell? ⟨gb140, 0, none⟩ = some (.int .i64 a0_0) := (kC BK140.out 0).trans rfl; have hcz12_1 : w11.cell? ⟨gb140, 1, none⟩ = some (.int .i64 a0_1) := (kC BK140.out 1).trans rfl; have hcz12_2 : w11.cell? ⟨gb140, 2, none⟩ = some (.int .i64 a0_2) := (kC BK140.out 2).trans rfl; have hfz12_0 := blk_frozen BK140.out 0; have hfz12_1 := blk_frozen BK140.out 1; have hfz12_2 := blk_frozen BK140.out 2) | ((with_reducible refine gC (f := 66) rfl ?_); refine goesL_ (some 4) rfl rfl Tryd.func66 (by kernel_rfl) rfl #[.agg #[.int .i64 a0_0, .int .i64 a0_1, .int .i64 a0_2]] rfl (by (try simp only [List.map_toArray, List.map_cons, List.map_nil]); first | done | rfl | (simp only [List.length_drop, List.length_take]; rfl)) ?_; (with_reducible refine (impl_ValidOrnament.calls a0_0 a0_1 a0_2 true _ A2.out).mono ?_); rintro e w13 ⟨rfl, hb⟩; refine ⟨_, rfl, ?_⟩; have n0_ := Aside0.mk (kB (g := gb140) (o := .cells #[.int .i64 a0_0, .int .i64 a0_1, .int .i64 a0_2] 39 (0, 0)) (by (with_reducible repeat (first | refine kN ?_ _ | refine kD ?_ | refine kA ?_ _)); exact BK140.out) hb); have n1_ := Aside0.mk (bP (by repeat (first | (with_reducible first | exact HB.out | apply bA | apply bN | apply bD | refine bS ?_ GE140.out) | exact HB.out)) hb); clear BK140; clear HB; have BK140 := n0_; have HB := n1_; clear n0_ n1_; (try clear hb); (try clear hb2); (try clear hk); (try clear hi)))
      have n0_ := Aside0.mk (kD BK140.out)
      have n1_ := Aside0.mk (bD HB.out)
      clear BK140
      clear HB
      have BK140 := n0_
      have HB := n1_
      clear n0_ n1_
      refine start_ (n := 14) (S := fun w' => w'.cell? ⟨gb140, 0, none⟩ = some (.int .i64 a0_0) ∧ w'.cell? ⟨gb140, 1, none⟩ = some (.int .i64 a0_1) ∧ w'.cell? ⟨gb140, 2, none⟩ = some (.int .i64 a0_2)) (ds := []) #[F,F,F,F,F,F,F,F,F,F,F,F,F,F] (by kernel_rfl) rfl rfl ⟨(kC BK140.out 0).trans rfl, (kC BK140.out 1).trans rfl, (kC BK140.out 2).trans rfl⟩ (fun hHeld => ?_); refine with_tabW impl_OrnamentText.tab3 impl_OrnamentText.bits3 (fun HT_ HW_ => ?_)
      generalize w13.drew = w14 at BK140 HB hHeld ⊢
      refine pure_ (i := 0) (N := some 6) (v := ?_) (a' := ?_) #[T,F,F,F,F,F,F,F,F,F,F,F,F,F] rfl rfl (aO HT_.out (by kernel_rfl)) (fun _ _ _ h => h) (Or.inl ⟨by rfl, ?_⟩) ?_ ?_; rotate_left; (·intro w'; go_simp; with_reducible rfl); rotate_left; (·simp only [Act.put, sI, sZ, sS, iW, jW]; rfl)
      refine pure_ (i := 4) (N := some 10) (v := ?_) (a' := ?_) #[T,F,F,F,T,F,F,F,F,F,F,F,F,F] rfl rfl (aO HT_.out (by kernel_rfl)) (fun _ _ _ h => h) (Or.inl ⟨by rfl, ?_⟩) ?_ ?_; rotate_left; (·intro w'; go_simp; with_reducible rfl); rotate_left; (·simp only [Act.put, sI, sZ, sS, iW, jW]; rfl)
      refine pure_ (i := 9) (N := some 15) (v := ?_) (a' := ?_) #[T,F,F,F,T,F,F,F,F,T,F,F,F,F] rfl rfl (aO HT_.out (by kernel_rfl)) (fun _ _ _ h => h) (Or.inl ⟨by rfl, ?_⟩) ?_ ?_; rotate_left; (·intro w'; go_simp; with_reducible rfl); rotate_left; (·simp only [Act.put, sI, sZ, sS, iW, jW]; rfl)
      refine take_ (i := 1) (N := some 7) (v := ?_) (a' := ?_) #[T,T,F,F,T,F,F,F,F,T,F,F,F,F] rfl rfl (tW HT_.out HW_.out (by kernel_rfl)) (fun _ _ _ h => h) (Or.inl ⟨by rfl, ?_⟩) hHeld ?_ ?_; rotate_left; (·rintro w' ⟨s0, s1, s2⟩; go_simp; with_reducible rfl); rotate_left; (·simp only [Act.put, sI, sZ, sS, iW, jW]; rfl)
      refine take_ (i := 5) (N := some 11) (v := ?_) (a' := ?_) #[T,T,F,F,T,T,F,F,F,T,F,F,F,F] rfl rfl (tW HT_.out HW_.out (by kernel_rfl)) (fun _ _ _ h => h) (Or.inl ⟨by rfl, ?_⟩) hHeld ?_ ?_; rotate_left; (·rintro w' ⟨s0, s1, s2⟩; go_simp; with_reducible rfl); rotate_left; (·simp only [Act.put, sI, sZ, sS, iW, jW]; rfl)
      refine take_ (i := 10) (N := some 16) (v := ?_) (a' := ?_) #[T,T,F,F,T,T,F,F,F,T,T,F,F,F] rfl rfl (tW HT_.out HW_.out (by kernel_rfl)) (fun _ _ _ h => h) (Or.inl ⟨by rfl, ?_⟩) hHeld ?_ ?_; rotate_left; (·rintro w' ⟨s0, s1, s2⟩; go_simp; with_reducible rfl); rotate_left; (·simp only [Act.put, sI, sZ, sS, iW, jW]; rfl)
      refine one_ (i := 2) (N := some 8) #[T,T,T,F,T,T,F,F,F,T,T,F,F,F] rfl rfl (oO HT_.out (by kernel_rfl)) (by decide) (fun K hK => ?_)
      refine goes_ Tryd.func67 (by kernel_rfl) rfl #[.int .i64 a0_0] (by rfl) rfl rfl (by (try simp only [List.map_toArray, List.map_cons, List.map_nil]); first | done | rfl | (simp only [List.length_drop, List.length_take]; rfl)) ?_
      with_reducible refine (impl_OrnamentName.calls a0_0 t142 _ A4.out).mono ?_
      rintro e w' ⟨rfl, ⟨nd, rfl⟩⟩
      refine ⟨_, rfl, ?_⟩
      refine hK.out _ _ ⟨(kC BK140.out 0).trans rfl, (kC BK140.out 1).trans rfl, (kC BK140.out 2).trans rfl⟩ (fun hHeld => ?_)
      clear hK K
      refine norm_ (a' := ?_) ?_ ?_
      rotate_left
      ·show Act.put _ (some 8) _ = _
       simp only [Act.put, sI, sZ, sS, iW, jW]
       rfl
      refine pure_ (i := 3) (N := some 9) (v := ?_) (a' := ?_) #[T,T,T,T,T,T,F,F,F,T,T,F,F,F] rfl rfl (aO HT_.out (by kernel_rfl)) (fun _ _ _ h => h) (Or.inl ⟨by rfl, ?_⟩) ?_ ?_; rotate_left; (·intro w'; go_simp; with_reducible rfl); rotate_left; (·simp only [Act.put, sI, sZ, sS, iW, jW]; rfl)
      refine one_ (i := 6) (N := some 12) #[T,T,T,T,T,T,T,F,F,T,T,F,F,F] rfl rfl (oO HT_.out (by kernel_rfl)) (by decide) (fun K hK => ?_)
      refine goes_ Tryd.func68 (by kernel_rfl) rfl #[.int .i64 a0_1] (by rfl) rfl rfl (by (try simp only [List.map_toArray, List.map_cons, List.map_nil]); first | done | rfl | (simp only [List.length_drop, List.length_take]; rfl)) ?_
      with_reducible refine (impl_Decimal.calls a0_1 t143 _ (by first | exact hT | exact Tab.below hT HB.out | exact Tab.below hT (by repeat (first | (with_reducible first | exact HB.out | apply bA | apply bN | apply bD) | exact HB.out)) | exact Tab.below hT (Below.refl _ _)) A6.out).mono ?_
      rintro e w15 ⟨rfl, hb⟩
      refine ⟨_, rfl, ?_⟩
      have n0_ := Aside0.mk (kB (g := gb140) (o := .cells #[.int .i64 a0_0, .int .i64 a0_1, .int .i64 a0_2] 39 (0, 0)) (by (with_reducible repeat (first | refine kN ?_ _ | refine kD ?_ | refine kA ?_ _)); exact BK140.out) hb)
      have n1_ := Aside0.mk (bP (by repeat (first | (with_reducible first | exact HB.out | apply bA | apply bN | apply bD | refine bS ?_ GE140.out) | exact HB.out)) hb)
      clear BK140
      clear HB
      have BK140 := n0_
      have HB := n1_
      clear n0_ n1_
      (try clear hb)
      (try clear hb2)
      (try clear hk)
      (try clear hi)
      refine hK.out _ _ ⟨(kC BK140.out 0).trans rfl, (kC BK140.out 1).trans rfl, (kC BK140.out 2).trans rfl⟩ (fun hHeld => ?_)
      clear hK K
      refine norm_ (a' := ?_) ?_ ?_
      rotate_left
      ·show Act.put _ (some 12) _ = _
       simp only [Act.put, sI, sZ, sS, iW, jW]
       rfl
      refine pure_ (i := 7) (N := some 13) (v := ?_) (a' := ?_) #[T,T,T,T,T,T,T,T,F,T,T,F,F,F] rfl rfl (aO HT_.out (by kernel_rfl)) (fun _ _ _ h => h) (Or.inl ⟨by rfl, ?_⟩) ?_ ?_; rotate_left; (·intro w'; go_simp; with_reducible rfl); rotate_left; (·simp only [Act.put, sI, sZ, sS, iW, jW]; rfl)
      refine pure_ (i := 8) (N := some 14) (v := ?_) (a' := ?_) #[T,T,T,T,T,T,T,T,T,T,T,F,F,F] rfl rfl (aO HT_.out (by kernel_rfl)) (fun _ _ _ h => h) (Or.inl ⟨by rfl, ?_⟩) ?_ ?_; rotate_left; (·intro w'; go_simp; with_reducible rfl); rotate_left; (·simp only [Act.put, sI, sZ, sS, iW, jW]; rfl)
      refine one_ (i := 11) (N := some 17) #[T,T,T,T,T,T,T,T,T,T,T,T,F,F] rfl rfl (oO HT_.out (by kernel_rfl)) (by decide) (fun K hK => ?_)
      refine goes_ Tryd.func68 (by kernel_rfl) rfl #[.int .i64 a0_2] (by rfl) rfl rfl (by (try simp only [List.map_toArray, List.map_cons, List.map_nil]); first | done | rfl | (simp only [List.length_drop, List.length_take]; rfl)) ?_
      with_reducible refine (impl_Decimal.calls a0_2 t144 _ (by first | exact hT | exact Tab.below hT HB.out | exact Tab.below hT (by repeat (first | (with_reducible first | exact HB.out | apply bA | apply bN | apply bD) | exact HB.out)) | exact Tab.below hT (Below.refl _ _)) A9.out).mono ?_
      rintro e w16 ⟨rfl, hb⟩
      refine ⟨_, rfl, ?_⟩
      have n0_ := Aside0.mk (kB (g := gb140) (o := .cells #[.int .i64 a0_0, .int .i64 a0_1, .int .i64 a0_2] 39 (0, 0)) (by (with_reducible repeat (first | refine kN ?_ _ | refine kD ?_ | refine kA ?_ _)); exact BK140.out) hb)
      have n1_ := Aside0.mk (bP (by repeat (first | (with_reducible first | exact HB.out | apply bA | apply bN | apply bD | refine bS ?_ GE140.out) | exact HB.out)) hb)
      clear BK140
      clear HB
      have BK140 := n0_
      have HB := n1_
      clear n0_ n1_
      (try clear hb)
      (try clear hb2)
      (try clear hk)
      (try clear hi)
      refine hK.out _ _ ⟨(kC BK140.out 0).trans rfl, (kC BK140.out 1).trans rfl, (kC BK140.out 2).trans rfl⟩ (fun hHeld => ?_)
      clear hK K
      refine norm_ (a' := ?_) ?_ ?_
      rotate_left
      ·show Act.put _ (some 17) _ = _
       simp only [Act.put, sI, sZ, sS, iW, jW]
       rfl
      refine pure_ (i := 12) (N := some 18) (v := ?_) (a' := ?_) #[T,T,T,T,T,T,T,T,T,T,T,T,T,F] rfl rfl (aO HT_.out (by kernel_rfl)) (fun _ _ _ h => h) (Or.inl ⟨by rfl, ?_⟩) ?_ ?_; rotate_left; (·intro w'; go_simp; with_reducible rfl); rotate_left; (·simp only [Act.put, sI, sZ, sS, iW, jW]; rfl)
      refine pure_ (i := 13) (N := some 2) (v := ?_) (a' := ?_) #[T,T,T,T,T,T,T,T,T,T,T,T,T,T] rfl rfl (aO HT_.out (by kernel_rfl)) (fun _ _ _ h => h) (Or.inl ⟨by rfl, ?_⟩) ?_ ?_; rotate_left; (·intro w'; go_simp; with_reducible rfl); rotate_left; (·simp only [Act.put, sI, sZ, sS, iW, jW]; rfl)
      refine done_ (done_of HT_.out (by kernel_rfl)) ?_
      try go_wp2
      go_ret
      exact ⟨by first | rfl | (simp [errW_none, errW_some] <;> rfl) | (simp [*, errW_none, errW_some] <;> rfl), by repeat (first | (with_reducible first | exact HB.out | apply bA | apply bN | apply bD | refine bS ?_ GE140.out) | exact HB.out)⟩
     ·rw [if_neg c10] at H
      exact absurd H (by simp)
    ·rw [if_neg c8] at H
     exact absurd H (by simp)
   ·rw [if_neg c7] at H
    exact absurd H (by simp)
  ·rw [if_neg c5] at H
   exact absurd H (by simp)
 ·replace c3 := Bool.eq_false_iff.mpr c3
  subst c3
  have H1 : (some (⟨#[]⟩ : ByteArray)) = some r := by rw [if_neg (show ¬ (false = true) by decide)] at H; exact H
  clear H
  have H := H1
  clear H1
  obtain rfl := Option.some.inj H
  go_enter Tryd.func24, Tryd.ntmps24
  go_wp2_with (first | ((with_reducible refine gate_dst (N := 1) rfl ?_); refine bE ?hg (N := 1) ?hd (cs := #[.int .i64 a0_0, .int .i64 a0_1, .int .i64 a0_2]) (t := 39) ?hr ?_; (case hd => rfl); (case hg => rfl); (case hr => first | (go_simp; done) | (go_simp; rfl)); intro gb140 hg w17 hbox hb; have n0_ := Aside0.mk (bP (by repeat (first | (with_reducible first | exact HB.out | apply bA | apply bN | apply bD) | exact HB.out)) hb); have n1_ := Aside0.mk (hbox); have n2_ := Aside0.mk ((by rw [hg]; exact (bZ (by repeat (first | (with_reducible first | exact HB.out | apply bA | apply bN | apply bD) | exact HB.out))) : w.heap.size ≤ gb140)); have n3_ := Aside0.mk ((by rw [hg]; exact (bZ (by repeat (first | (with_reducible first | exact HB.out | apply bA | apply bN | apply bD) | exact HB.out))) : w.heap.size ≤ gb140)); clear HB; have HB := n0_; have BK140 := n1_; have GW140 := n2_; have GE140 := n3_; clear n0_ n1_ n2_ n3_; clear hb hbox hg; have hcz18_0 : w17.cell? ⟨gb140, 0, none⟩ = some (.int .i64 a0_0) := (kC BK140.out 0).trans rfl; have hcz18_1 : w17.cell? ⟨gb140, 1, none⟩ = some (.int .i64 a0_1) := (kC BK140.out 1).trans rfl; have hcz18_2 : w17.cell? ⟨gb140, 2, none⟩ = some (.int .i64 a0_2) := (kC BK140.out 2).trans rfl; have hfz18_0 := blk_frozen BK140.out 0; have hfz18_1 := blk_frozen BK140.out 1; have hfz18_2 := blk_frozen BK140.out 2) | ((with_reducible refine gC (f := 66) rfl ?_); refine goesL_ (some 4) rfl rfl Tryd.func66 (by kernel_rfl) rfl #[.agg #[.int .i64 a0_0, .int .i64 a0_1, .int .i64 a0_2]] rfl (by (try simp only [List.map_toArray, List.map_cons, List.map_nil]); first | done | rfl | (simp only [List.length_drop, List.length_take]; rfl)) ?_; (with_reducible refine (impl_ValidOrnament.calls a0_0 a0_1 a0_2 false _ A2.out).mono ?_); rintro e w19 ⟨rfl, hb⟩; refine ⟨_, rfl, ?_⟩; have n0_ := Aside0.mk (kB (g := gb140) (o := .cells #[.int .i64 a0_0, .int .i64 a0_1, .int .i64 a0_2] 39 (0, 0)) (by (with_reducible repeat (first | refine kN ?_ _ | refine kD ?_ | refine kA ?_ _)); exact BK140.out) hb); have n1_ := Aside0.mk (bP (by repeat (first | (with_reducible first | exact HB.out | apply bA | apply bN | apply bD | refine bS ?_ GE140.out) | exact HB.out)) hb); clear BK140; clear HB; have BK140 := n0_; have HB := n1_; clear n0_ n1_; (try clear hb); (try clear hb2); (try clear hk); (try clear hi)))
  go_ret
  exact ⟨by first | rfl | (simp [errW_none, errW_some] <;> rfl) | (simp [*, errW_none, errW_some] <;> rfl), by repeat (first | (with_reducible first | exact HB.out | apply bA | apply bN | apply bD | refine bS ?_ GE140.out) | exact HB.out)⟩

end Go.Proofs.YtlphcdophgkdpaaDoor.O
-- shrunk
-- tight
