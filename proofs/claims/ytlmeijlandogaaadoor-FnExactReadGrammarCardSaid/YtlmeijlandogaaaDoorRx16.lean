/- What functions of the given program compute, as plain Lean functions, and that the code comes to just that; by a program of this session over the kit's print. No condition. -/
import Derived.Test.YtlmeijlandogaaaDoorTight
import Derived.Test.YtlmeijlandogaaaDoorRx0
import Derived.Test.YtlmeijlandogaaaDoorRx11
namespace Go.Proofs.YtlmeijlandogaaaDoor.R
open Go.RowKit Go.Proofs.YtlmeijlandogaaaDoorW.PrintWords Go.Proofs.YtlmeijlandogaaaDoorW.PrintLast Go.Proofs.YtlmeijlandogaaaDoorW.PrintMore
open Go.Proofs.YtlmeijlandogaaaDoorW.PrintWords renaming below_alloc → bA, pw_below_drewN → bN, below_drew1 → bD, below_set → bS, blk_drewN → kN, blk_drew → kD, blk_alloc → kA, blk_below → kB, below_size → bZ, below_step → bP, blk_far → kF, blk_lt → kL, gate_callee → gC, box_event → bE, blk_cell → kC
open Go.Proofs.YtlmeijlandogaaaDoorW.PrintLast renaming take_ofW → tW, one_of → oO, i64_w → iW, i32_w → jW
open Go.Proofs.YtlmeijlandogaaaDoorW.PrintWords.Kd renaming R_alloc → rA, R_drewN → rN, R_drew → rD, C_alloc → cA, C_drewN → cN, C_drew → cD, R_lower → rL, R_below → rB, R_elder' → rE, R_new' → rW, R_lt → rT, R_mono → rM
open List renaming setIfInBounds_toArray → sI, set_cons_zero → sZ, set_cons_succ → sS
open Bool renaming true → T, false → F
attribute [local go_sem] max2_int min2_int max_two min_two max_three min_three max_four min_four   -- for this text's walks alone
set_option linter.unusedVariables false
set_option linter.unusedSimpArgs false

/-! ### impl_ReadGrammar: function 14 -/
def impl_ReadGrammar.l0 : Nat → ByteArray → Bool → Bool → List ByteArray → Int → Int → Int → Int → List Int → List (S63) → Option (Int × Int × List Int × (List (S63)) × Bool)
 | 0, _, _, _, _, _, _, _, _, _, _ => none
 | k + 1, x0, x6, x8, x43, x44, x45, x270000, x270001, x270002, x270003 => if x45 < x44 then (if 0 ≤ x45 then (if x45 < (x43.length : Int) then ((impl_readNumbers.f k (rdOf ByteArray.empty x43 x45) 3).bind fun bt274 => (if bt274.2 = true then (if 0 < (bt274.1.length : Int) then (if 1 < (bt274.1.length : Int) then (if 2 < (bt274.1.length : Int) then (if x270003.length < 5864062014805 then (impl_ReadGrammar.l0 k x0 x6 x8 x43 x44 (wrap64 (x45 + 1)) x270000 x270001 x270002 (x270003 ++ [(⟨rd bt274.1 0, rd bt274.1 1, rd bt274.1 2⟩ : S63)])) else (none)) else (none)) else (none)) else (none)) else (some (0, 0, ([] : List Int), ([] : List (S63)), false)))) else (none)) else (none)) else (if x6 = true then (if x8 = true then ((impl_GrammarText.f k x270000 x270001 x270002 x270003).bind fun t284 => (if t284.toList = x0.toList then (some (x270000, x270001, x270002, x270003, true)) else (some (0, 0, ([] : List Int), ([] : List (S63)), false)))) else (some (0, 0, ([] : List Int), ([] : List (S63)), false))) else (some (0, 0, ([] : List Int), ([] : List (S63)), false)))
def impl_ReadGrammar.f (k : Nat) (a0 : ByteArray) : Option (Int × Int × List Int × (List (S63)) × Bool) := (strings_Split.f a0 (⟨#[59]⟩ : ByteArray)).bind fun t254 => (if (t254.length : Int) < 2 then (some (0, 0, ([] : List Int), ([] : List (S63)), false)) else (if 0 < (t254.length : Int) then ((impl_readNumbers.f k (rdOf ByteArray.empty t254 0) 2).bind fun bt258 => (if 1 < (t254.length : Int) then ((impl_ReadList.f k (rdOf ByteArray.empty t254 1)).bind fun bt263 => (if 0 < (bt258.1.length : Int) then (if 1 < (bt258.1.length : Int) then (if 2 ≤ (t254.length : Int) then ((some (t254.drop (2 : Int).toNat : List ByteArray)).bind fun y270 => (impl_ReadGrammar.l0 k a0 bt258.2 bt263.2 y270 (y270.length : Int) 0 (rd bt258.1 0) (rd bt258.1 1) bt263.1 ([] : List (S63)))) else (none)) else (none)) else (none))) else (none))) else (none)))
theorem impl_ReadGrammar.mono_l : ∀ k, (∀ y0 y1 y2 y3 y4 y5 y6 y7 y8 y9, LeO (impl_ReadGrammar.l0 k y0 y1 y2 y3 y4 y5 y6 y7 y8 y9) (impl_ReadGrammar.l0 (k + 1) y0 y1 y2 y3 y4 y5 y6 y7 y8 y9))
 | 0 => fun _ _ _ _ _ _ _ _ _ _ r h => by simp [impl_ReadGrammar.l0] at h
 | k + 1 => by
  have ih0 := impl_ReadGrammar.mono_l k
  ·intro y0 y1 y2 y3 y4 y5 y6 y7 y8 y9
   unfold impl_ReadGrammar.l0
   repeat' first
   | (with_reducible exact ih0 _ _ _ _ _ _ _ _ _ _)
   | (with_reducible exact impl_GrammarText.mono _ _ _ _ _)
   | (with_reducible exact impl_ReadList.mono _ _)
   | (with_reducible exact impl_readNumbers.mono _ _ _)
   | (with_reducible exact LeO.refl _)
   | (with_reducible exact LeO.none _)
   | (with_reducible refine LeO.ite ?_ ?_)
   | (with_reducible refine LeO.bind ?_ (fun _ => ?_))
   | exact ih0 _ _ _ _ _ _ _ _ _ _
   | exact impl_GrammarText.mono _ _ _ _ _
   | exact impl_ReadList.mono _ _
   | exact impl_readNumbers.mono _ _ _
   | exact LeO.none _
   | refine LeO.ite ?_ ?_
   | refine LeO.bind ?_ (fun _ => ?_)
theorem impl_ReadGrammar.mono : ∀ a0 k, LeO (impl_ReadGrammar.f k a0) (impl_ReadGrammar.f (k + 1) a0) := by
 intro a0 k
 have ih0 := impl_ReadGrammar.mono_l k
 unfold impl_ReadGrammar.f
 repeat' first
   | (with_reducible exact ih0 _ _ _ _ _ _ _ _ _ _)
   | (with_reducible exact impl_GrammarText.mono _ _ _ _ _)
   | (with_reducible exact impl_ReadList.mono _ _)
   | (with_reducible exact impl_readNumbers.mono _ _ _)
   | (with_reducible exact LeO.refl _)
   | (with_reducible exact LeO.none _)
   | (with_reducible refine LeO.ite ?_ ?_)
   | (with_reducible refine LeO.bind ?_ (fun _ => ?_))
   | exact ih0 _ _ _ _ _ _ _ _ _ _
   | exact impl_GrammarText.mono _ _ _ _ _
   | exact impl_ReadList.mono _ _
   | exact impl_readNumbers.mono _ _ _
   | exact LeO.none _
   | refine LeO.ite ?_ ?_
   | refine LeO.bind ?_ (fun _ => ?_)
def impl_ReadGrammar.T6 : Bool × List (List Nat × List Nat) := (true, [([], []), ([0], [0]), ([1], [1]), ([], []), ([3], [3]), ([4], [4]), ([], []), ([2, 5, 6], [2, 5, 6]), ([], []), ([8, 7, 0, 1, 2, 3, 4, 5, 6, 7, 8], [7, 8])])
def impl_ReadGrammar.B6 : List Nat := [0, 1, 3, 0, 8, 24, 0, 127, 0, 511]
theorem impl_ReadGrammar.tab6 : rtab .any (opsOf Tryd.f14 6) = impl_ReadGrammar.T6 := by kernel_rfl
theorem impl_ReadGrammar.bits6 : waitsOk impl_ReadGrammar.T6.2 impl_ReadGrammar.B6 = true := by kernel_rfl
def impl_ReadGrammar.T13 : Bool × List (List Nat × List Nat) := (true, [([], []), ([0], [0]), ([], []), ([2], [2]), ([3], [3]), ([], []), ([5], [5]), ([6], [6]), ([], []), ([8], [8]), ([9], [9]), ([4, 7, 10], [4, 7, 10]), ([11], [11]), ([1, 12], [1, 12]), ([0, 1, 2, 3, 4, 5, 6, 7, 8, 9, 10, 11, 12, 13], []), ([14, 13, 13, 0, 1, 2, 3, 4, 5, 6, 7, 8, 9, 10, 11, 12, 13], [13, 14])])
def impl_ReadGrammar.B13 : List Nat := [0, 1, 0, 4, 12, 0, 32, 96, 0, 256, 768, 2044, 4092, 8191, 16383, 32767]
theorem impl_ReadGrammar.tab13 : rtab .any (opsOf Tryd.f14 13) = impl_ReadGrammar.T13 := by kernel_rfl
theorem impl_ReadGrammar.bits13 : waitsOk impl_ReadGrammar.T13.2 impl_ReadGrammar.B13 = true := by kernel_rfl
set_option maxHeartbeats 8000000 in
set_option maxRecDepth 100000 in
theorem impl_ReadGrammar.calls (k : Nat) (a0 : ByteArray) (r1 : Int) (r2 : Int) (r3 : List Int) (r4 : List (S63)) (r5 : Bool) (w : World) (hT : TabR w) (h : impl_ReadGrammar.f k a0 = some (r1, r2, r3, r4, r5)) :
  Calls Tryd.prog 14 #[.string a0] w fun e w' => ∃ v2_ v3_ : Value, e = .returned (.tuple #[.agg #[.int .i64 r1, .int .i64 r2, v2_, v3_], .bool r5]) ∧ Kd.R (Kd.int .i64) 2 w' w.heap.size (fun _ => True) v2_ r3 ∧ Kd.R k63 63 w' w.heap.size (fun _ => True) v3_ r4 ∧ Below w.heap.size w w' := by
 have hu31 := Tryd.underlying31
 have hu63 := Tryd.underlying63
 have HB := Aside0.mk (Below.refl w.heap.size w)
 have H : ((strings_Split.f a0 (⟨#[59]⟩ : ByteArray)).bind fun t254 => (if (t254.length : Int) < 2 then (some (0, 0, ([] : List Int), ([] : List (S63)), false)) else (if 0 < (t254.length : Int) then ((impl_readNumbers.f k (rdOf ByteArray.empty t254 0) 2).bind fun bt258 => (if 1 < (t254.length : Int) then ((impl_ReadList.f k (rdOf ByteArray.empty t254 1)).bind fun bt263 => (if 0 < (bt258.1.length : Int) then (if 1 < (bt258.1.length : Int) then (if 2 ≤ (t254.length : Int) then ((some (t254.drop (2 : Int).toNat : List ByteArray)).bind fun y270 => (impl_ReadGrammar.l0 k a0 bt258.2 bt263.2 y270 (y270.length : Int) 0 (rd bt258.1 0) (rd bt258.1 1) bt263.1 ([] : List (S63)))) else (none)) else (none)) else (none))) else (none))) else (none)))) = some (r1, r2, r3, r4, r5) := h
 clear h
 replace H := Option.bind_eq_some_iff.mp H
 obtain ⟨t254, A20, H⟩ := H
 replace H : (if (t254.length : Int) < 2 then (some (0, 0, ([] : List Int), ([] : List (S63)), false)) else (if 0 < (t254.length : Int) then ((impl_readNumbers.f k (rdOf ByteArray.empty t254 0) 2).bind fun bt258 => (if 1 < (t254.length : Int) then ((impl_ReadList.f k (rdOf ByteArray.empty t254 1)).bind fun bt263 => (if 0 < (bt258.1.length : Int) then (if 1 < (bt258.1.length : Int) then (if 2 ≤ (t254.length : Int) then ((some (t254.drop (2 : Int).toNat : List ByteArray)).bind fun y270 => (impl_ReadGrammar.l0 k a0 bt258.2 bt263.2 y270 (y270.length : Int) 0 (rd bt258.1 0) (rd bt258.1 1) bt263.1 ([] : List (S63)))) else (none)) else (none)) else (none))) else (none))) else (none))) = some (r1, r2, r3, r4, r5) := H
 have A2 := Aside0.mk A20
 clear A20
 by_cases c3 : (t254.length : Int) < 2
 ·rw [if_pos c3] at H
  have c3b0 : decide ((t254.length : Int) < 2) = true := decide_eq_true c3
  have c3b1 : decide (t254.length < 2) = true := decide_eq_true (by omega)
  clear c3
  simp only [Option.some.injEq, Prod.mk.injEq] at H
  obtain ⟨rfl, rfl, rfl, rfl, rfl⟩ := H
  go_enter Tryd.func14, Tryd.ntmps14
  go_wp2_with (first | ((with_reducible refine gate_dst (N := 2) rfl ?_); refine bE ?hg (N := 2) ?hd (cs := #[.int .i64 0, .int .i64 0, .slice none 0 0, .slice none 0 0]) (t := 31) ?hr ?_; (case hd => rfl); (case hg => rfl); (case hr => first | (go_simp; done) | (go_simp; rfl)); intro gb253 hg w4 hbox hb; have z_ := bX hb (hQ HB); have n0_ := Aside0.mk (bP z_ hb); have n1_ := Aside0.mk (hbox); have n2_ := Aside0.mk ((by rw [hg]; exact (bZ z_) : w.heap.size ≤ gb253)); have n3_ := Aside0.mk ((by rw [hg]; exact (bZ z_) : w.heap.size ≤ gb253)); clear HB; have HB := n0_; have BK253 := n1_; have GW253 := n2_; have GE253 := n3_; clear z_ n0_ n1_ n2_ n3_; clear hb hbox hg) | ((with_reducible refine gC (f := 40) rfl ?_); refine goesL_ (some 15) rfl rfl Tryd.func40 (by kernel_rfl) rfl #[.string a0, .string (⟨#[59]⟩ : ByteArray)] rfl lQ ?_; (with_reducible refine (strings_Split.calls a0 (⟨#[59]⟩ : ByteArray) t254 _ (by first | exact hT | exact TabR.below hT HB.out | exact TabR.below hT (by repeat (first | (with_reducible first | exact HB.out | apply bA | apply bN | apply bD | refine bS ?_ GE253.out | refine bS ?_ GE269.out) | exact HB.out)) | exact TabR.below hT (Below.refl _ _)) A2.out).mono ?_); rintro e w5 ⟨v255, rfl, ho0, hb⟩; refine ⟨_, rfl, ?_⟩; have z_ := bX hb (by repeat (first | (with_reducible first | exact HB.out | apply bA | apply bN | apply bD | refine bS ?_ GE253.out) | exact HB.out)); have n0_ := Aside0.mk (rL ho0 (bZ z_)); have n1_ := Aside0.mk (kB (kQ BK253) hb); have n2_ := Aside0.mk (bP z_ hb); clear BK253; clear HB; have HO256 := n0_; have BK253 := n1_; have HB := n2_; clear z_ n0_ n1_ n2_; (try clear hb); (try clear hb2); (try clear hk); (try clear hi); (try clear ho0); obtain ⟨Ao6, co6, eo6⟩ := Kd.R_slice HO256.out; subst eo6; obtain ⟨hcz7_0, hcz7_1, hcz7_2, hcz7_3⟩ := cZ4 BK253.out; obtain ⟨hfz7_0, hfz7_1, hfz7_2, hfz7_3⟩ := fZ4 BK253.out))
  refine bodyPost_ret (results_ct rfl _ _ gb253 31 #[.int .i64 0, .int .i64 0, .slice none 0 0, .slice none 0 0] (0, 0) _ rfl (by (with_reducible repeat (first | refine kN ?_ _ | refine kD ?_ | refine kA ?_ _)); refine blk_put (cs := #[.int .i64 0, .int .i64 0, .slice none 0 0, .slice none 0 0]) ?_ 3 _ rfl; (with_reducible repeat (first | refine kN ?_ _ | refine kD ?_ | refine kA ?_ _)); refine blk_put (cs := #[.int .i64 0, .int .i64 0, .slice none 0 0, .slice none 0 0]) ?_ 2 _ rfl; (with_reducible repeat (first | refine kN ?_ _ | refine kD ?_ | refine kA ?_ _)); refine blk_put (cs := #[.int .i64 0, .int .i64 0, .slice none 0 0, .slice none 0 0]) ?_ 1 _ rfl; (with_reducible repeat (first | refine kN ?_ _ | refine kD ?_ | refine kA ?_ _)); refine blk_put (cs := #[.int .i64 0, .int .i64 0, .slice none 0 0, .slice none 0 0]) ?_ 0 _ rfl; (with_reducible repeat (first | refine kN ?_ _ | refine kD ?_ | refine kA ?_ _)); exact BK253.out) Tryd.underlying31 rfl (by kernel_rfl)) rfl ?_
  exact ⟨_, _, by first | rfl | (simp [errW_none, errW_some] <;> rfl) | (simp [*, errW_none, errW_some] <;> rfl), by first | exact Kd.R_nil _ _ _ _ _ | exact Kd.N_nil _ _ _ _ _ | exact Kd.V_nil _ _ _ _ _ | exact Kd.Q_nil _ _ _ _ _ | exact Kd.S_nil _ _ _ _ _, by first | exact Kd.R_nil _ _ _ _ _ | exact Kd.N_nil _ _ _ _ _ | exact Kd.V_nil _ _ _ _ _ | exact Kd.Q_nil _ _ _ _ _ | exact Kd.S_nil _ _ _ _ _, by repeat (first | (with_reducible first | exact HB.out | apply bA | apply bN | apply bD | refine bS ?_ GE253.out) | exact HB.out)⟩
 ·rw [if_neg c3] at H
  have c3b0 : decide ((t254.length : Int) < 2) = false := decide_eq_false c3
  have c3b1 : decide (t254.length < 2) = false := decide_eq_false (by omega)
  clear c3
  by_cases c8 : 0 < (t254.length : Int)
  ·rw [if_pos c8] at H
   have c8b0 : decide (0 < (t254.length : Int)) = true := decide_eq_true c8
   have c8b1 : decide (0 < t254.length) = true := decide_eq_true (by omega)
   clear c8
   replace H := Option.bind_eq_some_iff.mp H
   obtain ⟨⟨t258, t259⟩, A90, H⟩ := H
   replace H : (if 1 < (t254.length : Int) then ((impl_ReadList.f k (rdOf ByteArray.empty t254 1)).bind fun bt263 => (if 0 < (t258.length : Int) then (if 1 < (t258.length : Int) then (if 2 ≤ (t254.length : Int) then ((some (t254.drop (2 : Int).toNat : List ByteArray)).bind fun y270 => (impl_ReadGrammar.l0 k a0 t259 bt263.2 y270 (y270.length : Int) 0 (rd t258 0) (rd t258 1) bt263.1 ([] : List (S63)))) else (none)) else (none)) else (none))) else (none)) = some (r1, r2, r3, r4, r5) := H
   have A9 := Aside0.mk A90
   clear A90
   by_cases c10 : 1 < (t254.length : Int)
   ·rw [if_pos c10] at H
    have c10b0 : decide (1 < (t254.length : Int)) = true := decide_eq_true c10
    have c10b1 : decide (1 < t254.length) = true := decide_eq_true (by omega)
    clear c10
    replace H := Option.bind_eq_some_iff.mp H
    obtain ⟨⟨t263, t264⟩, A110, H⟩ := H
    replace H : (if 0 < (t258.length : Int) then (if 1 < (t258.length : Int) then (if 2 ≤ (t254.length : Int) then ((some (t254.drop (2 : Int).toNat : List ByteArray)).bind fun y270 => (impl_ReadGrammar.l0 k a0 t259 t264 y270 (y270.length : Int) 0 (rd t258 0) (rd t258 1) t263 ([] : List (S63)))) else (none)) else (none)) else (none)) = some (r1, r2, r3, r4, r5) := H
    have A11 := Aside0.mk A110
    clear A110
    by_cases c12 : 0 < (t258.length : Int)
    ·rw [if_pos c12] at H
     have c12b0 : decide (0 < (t258.length : Int)) = true := decide_eq_true c12
     have c12b1 : decide (0 < t258.length) = true := decide_eq_true (by omega)
     clear c12
     by_cases c13 : 1 < (t258.length : Int)
     ·rw [if_pos c13] at H
      have c13b0 : decide (1 < (t258.length : Int)) = true := decide_eq_true c13
      have c13b1 : decide (1 < t258.length) = true := decide_eq_true (by omega)
      clear c13
      by_cases c14 : 2 ≤ (t254.length : Int)
      ·rw [if_pos c14] at H
       have c14b0 := eq_true c14
       have c14b1 : decide (2 ≤ (t254.length : Int)) = true := decide_eq_true c14
       clear c14
       obtain ⟨y270, hy270⟩ : ∃ y_ : List ByteArray, y_ = (t254.drop (2 : Int).toNat) := ⟨_, rfl⟩
       replace H : (impl_ReadGrammar.l0 k a0 t259 t264 y270 (y270.length : Int) 0 (rd t258 0) (rd t258 1) t263 ([] : List (S63))) = some (r1, r2, r3, r4, r5) := by first | (rw [hy270]; with_reducible exact H) | (have H2_ := (Option.bind_some _ _).symm.trans H; rw [hy270]; with_reducible exact H2_) | (have H2_ := (Option.bind_some _ _).symm.trans H; with_reducible exact H2_) | with_reducible exact H | (rw [hy270]; exact H) | exact H
       have Ny270 := Aside0.mk hy270
       clear hy270
       have H' := Aside0.mk H
       clear H
       go_enter Tryd.func14, Tryd.ntmps14
       try go_wp2_with (first | ((with_reducible refine gate_dst (N := 2) rfl ?_); refine bE ?hg (N := 2) ?hd (cs := #[.int .i64 0, .int .i64 0, .slice none 0 0, .slice none 0 0]) (t := 31) ?hr ?_; (case hd => rfl); (case hg => rfl); (case hr => first | (go_simp; done) | (go_simp; rfl)); intro gb253 hg w15 hbox hb; have z_ := bX hb (hQ HB); have n0_ := Aside0.mk (bP z_ hb); have n1_ := Aside0.mk (hbox); have n2_ := Aside0.mk ((by rw [hg]; exact (bZ z_) : w.heap.size ≤ gb253)); have n3_ := Aside0.mk ((by rw [hg]; exact (bZ z_) : w.heap.size ≤ gb253)); clear HB; have HB := n0_; have BK253 := n1_; have GW253 := n2_; have GE253 := n3_; clear z_ n0_ n1_ n2_ n3_; clear hb hbox hg) | ((with_reducible refine gC (f := 40) rfl ?_); refine goesL_ (some 15) rfl rfl Tryd.func40 (by kernel_rfl) rfl #[.string a0, .string (⟨#[59]⟩ : ByteArray)] rfl lQ ?_; (with_reducible refine (strings_Split.calls a0 (⟨#[59]⟩ : ByteArray) t254 _ (by first | exact hT | exact TabR.below hT HB.out | exact TabR.below hT (by repeat (first | (with_reducible first | exact HB.out | apply bA | apply bN | apply bD | refine bS ?_ GE253.out | refine bS ?_ GE269.out) | exact HB.out)) | exact TabR.below hT (Below.refl _ _)) A2.out).mono ?_); rintro e w16 ⟨v255, rfl, ho0, hb⟩; refine ⟨_, rfl, ?_⟩; have z_ := bX hb (by repeat (first | (with_reducible first | exact HB.out | apply bA | apply bN | apply bD | refine bS ?_ GE253.out) | exact HB.out)); have n0_ := Aside0.mk (rL ho0 (bZ z_)); have n1_ := Aside0.mk (kB (kQ BK253) hb); have n2_ := Aside0.mk (bP z_ hb); clear BK253; clear HB; have HO256 := n0_; have BK253 := n1_; have HB := n2_; clear z_ n0_ n1_ n2_; (try clear hb); (try clear hb2); (try clear hk); (try clear hi); (try clear ho0); obtain ⟨Ao17, co17, eo17⟩ := Kd.R_slice HO256.out; subst eo17; have p257 : 0 ≤ (0 : Int) := (by omega); have q257 : 0 < (t254.length : Int) := oT; obtain ⟨ad257, e257, hx257_0⟩ := Kd.at_string (Kd.R_reads' HO256.out).2.2 0 p257 q257; cases e257; have qi257 : (0 < t254.length) = True := eq_true (by omega); (try rw [t00] at hx257_0); (try rw [Addr.add_zero'] at hx257_0); replace p257 := eq_true p257; replace q257 := eq_true q257) | ((with_reducible refine gC (f := 41) rfl ?_); refine goesL_ (some 24) rfl rfl Tryd.func41 (by kernel_rfl) rfl #[.string (rdOf ByteArray.empty t254 0), .int .i64 2] rfl lQ ?_; (with_reducible refine (impl_readNumbers.calls k (rdOf ByteArray.empty t254 0) 2 t258 t259 _ (by first | exact hT | exact TabR.below hT HB.out | exact TabR.below hT (by repeat (first | (with_reducible first | exact HB.out | apply bA | apply bN | apply bD | refine bS ?_ GE253.out | refine bS ?_ GE269.out) | exact HB.out)) | exact TabR.below hT (Below.refl _ _)) A9.out).mono ?_); rintro e w18 ⟨v260, rfl, ho0, hb⟩; refine ⟨_, rfl, ?_⟩; have z_ := bX hb (by repeat (first | (with_reducible first | exact HB.out | apply bA | apply bN | apply bD | refine bS ?_ GE253.out) | exact HB.out)); have n0_ := Aside0.mk (rB (rQ HO256) hb); have n1_ := Aside0.mk (rL ho0 (bZ z_)); have n2_ := Aside0.mk (kB (kQ BK253) hb); have n3_ := Aside0.mk (bP z_ hb); clear HO256; clear BK253; clear HB; have HO256 := n0_; have HO261 := n1_; have BK253 := n2_; have HB := n3_; clear z_ n0_ n1_ n2_ n3_; (try clear hb); (try clear hb2); (try clear hk); (try clear hi); (try clear ho0); have p262 : 0 ≤ (1 : Int) := (by omega); have q262 : 1 < (t254.length : Int) := oT; obtain ⟨ad262, e262, hx262_0⟩ := Kd.at_string (Kd.R_reads' HO256.out).2.2 1 p262 q262; obtain rfl : ad257 = ad262 := (by injection e262); (try simp only [show (1 : Int).toNat = 1 from rfl, Nat.reduceMul, Nat.reduceEqDiff, Go.Addr.add, ↓reduceIte] at hx262_0); have qi262 : (1 < t254.length) = True := eq_true (by omega); (try rw [show ((1 : Int)).toNat = 1 from rfl] at hx262_0); replace p262 := eq_true p262; replace q262 := eq_true q262) | ((with_reducible refine gC (f := 32) rfl ?_); refine goesL_ (some 31) rfl rfl Tryd.func32 (by kernel_rfl) rfl #[.string (rdOf ByteArray.empty t254 1)] rfl lQ ?_; (with_reducible refine (impl_ReadList.calls k (rdOf ByteArray.empty t254 1) t263 t264 _ (by first | exact hT | exact TabR.below hT HB.out | exact TabR.below hT (by repeat (first | (with_reducible first | exact HB.out | apply bA | apply bN | apply bD | refine bS ?_ GE253.out | refine bS ?_ GE269.out) | exact HB.out)) | exact TabR.below hT (Below.refl _ _)) A11.out).mono ?_); rintro e w19 ⟨v265, rfl, ho0, hb⟩; refine ⟨_, rfl, ?_⟩; have z_ := bX hb (by repeat (first | (with_reducible first | exact HB.out | apply bA | apply bN | apply bD | refine bS ?_ GE253.out) | exact HB.out)); have n0_ := Aside0.mk (rB (rQ HO256) hb); have n1_ := Aside0.mk (rE (rQ HO261) (Kd.R_base ho0) hb); have n2_ := Aside0.mk (rL (rW ho0 (rT (rQ HO261))) (bZ z_)); have n3_ := Aside0.mk (kB (kQ BK253) hb); have n4_ := Aside0.mk (bP z_ hb); clear HO256; clear HO261; clear BK253; clear HB; have HO256 := n0_; have HO261 := n1_; have HO266 := n2_; have BK253 := n3_; have HB := n4_; clear z_ n0_ n1_ n2_ n3_ n4_; (try clear hb); (try clear hb2); (try clear hk); (try clear hi); (try clear ho0)))
       have n0_ := Aside0.mk (rD HO256.out)
       have n1_ := Aside0.mk (rD HO261.out)
       have n2_ := Aside0.mk (rD HO266.out)
       have n3_ := Aside0.mk (kD BK253.out)
       have n4_ := Aside0.mk (bD HB.out)
       clear HO256
       clear HO261
       clear HO266
       clear BK253
       clear HB
       have HO256 := n0_
       have HO261 := n1_
       have HO266 := n2_
       have BK253 := n3_
       have HB := n4_
       clear n0_ n1_ n2_ n3_ n4_
       obtain ⟨Ao21, co21, eo21⟩ := Kd.R_slice HO261.out
       (first | subst eo21 | (injection eo21 with f1_ f2_ f3_; have f4_ := f1_.symm; have f5_ := f3_.symm; clear f1_ f2_ f3_; subst f4_; subst f5_))
       have p267 : 0 ≤ (0 : Int) := (by omega)
       have q267 : 0 < (t258.length : Int) := oT
       obtain ⟨ad267, e267, hx267_0⟩ := Kd.at_int (Kd.R_reads' HO261.out).2.2 0 p267 q267
       cases e267
       have qi267 : (0 < t258.length) = True := eq_true (by omega)
       (try rw [t00] at hx267_0)
       (try rw [Addr.add_zero'] at hx267_0)
       replace p267 := eq_true p267
       replace q267 := eq_true q267
       have p268 : 0 ≤ (1 : Int) := (by omega)
       have q268 : 1 < (t258.length : Int) := oT
       obtain ⟨ad268, e268, hx268_0⟩ := Kd.at_int (Kd.R_reads' HO261.out).2.2 1 p268 q268
       obtain rfl : ad267 = ad268 := (by injection e268)
       (try simp only [show (1 : Int).toNat = 1 from rfl, Nat.reduceMul, Nat.reduceEqDiff, Go.Addr.add, ↓reduceIte] at hx268_0)
       have qi268 : (1 < t258.length) = True := eq_true (by omega)
       (try rw [show ((1 : Int)).toNat = 1 from rfl] at hx268_0)
       replace p268 := eq_true p268
       replace q268 := eq_true q268
       obtain ⟨Ao22, co22, eo22⟩ := Kd.R_slice HO266.out
       (first | subst eo22 | (injection eo22 with f1_ f2_ f3_; have f4_ := f1_.symm; have f5_ := f3_.symm; clear f1_ f2_ f3_; subst f4_; subst f5_))
       refine start_ (n := 10) (S := fun w' => w'.cell? ad267 = some (.int .i64 (rd t258 0)) ∧ w'.cell? ⟨ad267.block, ad267.off + 1, none⟩ = some (.int .i64 (rd t258 1))) (ds := []) #[F,F,F,F,F,F,F,F,F,F] (by kernel_rfl) rfl rfl ⟨hx267_0, hx268_0⟩ (fun hHeld => ?_); refine with_tabW impl_ReadGrammar.tab6 impl_ReadGrammar.bits6 (fun HT_ HW_ => ?_)
       generalize w19.drew = w20 at HO256 HO261 HO266 BK253 HB hx267_0 hx268_0 hHeld ⊢
       refine pure_ (i := 0) (N := some 34) (v := ?_) (a' := ?_) #[T,F,F,F,F,F,F,F,F,F] rfl rfl (any_of HT_.out (by kernel_rfl)) (fun _ _ _ h => h) (Or.inl ⟨by rfl, ?_⟩) ?_ ?_; rotate_left; (·intro w'; go_simp; with_reducible rfl); rotate_left; (·simp only [Act.put, sI, sZ, sS, iW, jW]; rfl)
       refine pure_ (i := 1) (N := some 35) (v := ?_) (a' := ?_) #[T,T,F,F,F,F,F,F,F,F] rfl rfl (any_of HT_.out (by kernel_rfl)) (fun _ _ _ h => h) (Or.inl ⟨by rfl, ?_⟩) ?_ ?_; rotate_left; (·intro w'; go_simp; with_reducible rfl); rotate_left; (·simp only [Act.put, sI, sZ, sS, iW, jW]; rfl)
       refine pure_ (i := 3) (N := some 37) (v := ?_) (a' := ?_) #[T,T,F,T,F,F,F,F,F,F] rfl rfl (any_of HT_.out (by kernel_rfl)) (fun _ _ _ h => h) (Or.inl ⟨by rfl, ?_⟩) ?_ ?_; rotate_left; (·intro w'; go_simp; with_reducible rfl); rotate_left; (·simp only [Act.put, sI, sZ, sS, iW, jW]; rfl)
       refine pure_ (i := 4) (N := some 38) (v := ?_) (a' := ?_) #[T,T,F,T,T,F,F,F,F,F] rfl rfl (any_of HT_.out (by kernel_rfl)) (fun _ _ _ h => h) (Or.inl ⟨by rfl, ?_⟩) ?_ ?_; rotate_left; (·intro w'; go_simp; with_reducible rfl); rotate_left; (·simp only [Act.put, sI, sZ, sS, iW, jW]; rfl)
       refine pure_ (i := 6) (N := some 40) (v := ?_) (a' := ?_) #[T,T,F,T,T,F,T,F,F,F] rfl rfl (any_of HT_.out (by kernel_rfl)) (fun _ _ _ h => h) (Or.inl ⟨by rfl, ?_⟩) ?_ ?_; rotate_left; (·intro w'; go_simp; with_reducible rfl); rotate_left; (·simp only [Act.put, sI, sZ, sS, iW, jW]; rfl)
       refine take_ (i := 2) (N := some 36) (v := ?_) (a' := ?_) #[T,T,T,T,T,F,T,F,F,F] rfl rfl (tW HT_.out HW_.out (by kernel_rfl)) (fun _ _ _ h => h) (Or.inl ⟨by rfl, ?_⟩) hHeld ?_ ?_; rotate_left; (·rintro w' ⟨s0, s1⟩; go_simp; with_reducible rfl); rotate_left; (·simp only [Act.put, sI, sZ, sS, iW, jW]; rfl)
       refine take_ (i := 5) (N := some 39) (v := ?_) (a' := ?_) #[T,T,T,T,T,T,T,F,F,F] rfl rfl (tW HT_.out HW_.out (by kernel_rfl)) (fun _ _ _ h => h) (Or.inl ⟨by rfl, ?_⟩) hHeld ?_ ?_; rotate_left; (·rintro w' ⟨s0, s1⟩; go_simp; with_reducible rfl); rotate_left; (·simp only [Act.put, sI, sZ, sS, iW, jW]; rfl)
       refine pure_ (i := 7) (N := some 41) (v := ?_) (a' := ?_) #[T,T,T,T,T,T,T,T,F,F] rfl rfl (any_of HT_.out (by kernel_rfl)) (fun _ _ _ h => h) (Or.inl ⟨by rfl, ?_⟩) ?_ ?_; rotate_left; (·intro w'; go_simp; with_reducible rfl); rotate_left; (·simp only [Act.put, sI, sZ, sS, iW, jW]; rfl)
       refine one_ (i := 8) (N := some 9) #[T,T,T,T,T,T,T,T,T,F] rfl rfl (oO HT_.out (by kernel_rfl)) (by decide) (fun K hK => ?_)
       refine box_step ?hg (N := 9) ?hd (cs := #[.int .i64 0, .int .i64 0, .slice none 0 0, .slice none 0 0]) (t := 31) ?hr ?_; (case hd => rfl); (case hg => rfl); (case hr => first | (go_simp; done) | (go_simp; rfl))
       intro gb269 hg w23 hbox hb
       have HS0_ := (hb.cell (World.block_lt_of_cell? _ _ (hHeld.1))).trans (hHeld.1)
       have HS1_ := (hb.cell (World.block_lt_of_cell? _ _ (hHeld.2))).trans (hHeld.2)
       have z_ := bX hb (by repeat (first | (with_reducible first | exact HB.out | apply bA | apply bN | apply bD | refine bS ?_ GE253.out) | exact HB.out))
       have n0_ := Aside0.mk (rB (rQ HO256) hb)
       have n1_ := Aside0.mk (rB (rQ HO261) hb)
       have n2_ := Aside0.mk (rB (rQ HO266) hb)
       have n3_ := Aside0.mk (kB (kQ BK253) hb)
       have n4_ := Aside0.mk (bP z_ hb)
       have n5_ := Aside0.mk (hbox)
       have n6_ := Aside0.mk ((by rw [hg]; exact (bZ z_) : w.heap.size ≤ gb269))
       have n7_ := Aside0.mk ((by rw [hg]; exact (bZ z_) : w.heap.size ≤ gb269))
       have n8_ := Aside0.mk ((by rw [hg]; exact Nat.ne_of_lt (kL (kQ BK253)) : gb253 ≠ gb269))
       have n9_ := Aside0.mk ((by rw [hg]; exact Nat.ne_of_gt (kL (kQ BK253)) : gb269 ≠ gb253))
       clear HO256
       clear HO261
       clear HO266
       clear BK253
       clear HB
       have HO256 := n0_
       have HO261 := n1_
       have HO266 := n2_
       have BK253 := n3_
       have HB := n4_
       have BK269 := n5_
       have GW269 := n6_
       have GE269 := n7_
       have NB253_269 := n8_
       have NB269_253 := n9_
       clear z_ n0_ n1_ n2_ n3_ n4_ n5_ n6_ n7_ n8_ n9_
       clear hb hbox hg
       refine hK.out _ _ ⟨HS0_, HS1_⟩ (fun hHeld => ?_)
       clear hK K
       refine norm_ (a' := ?_) ?_ ?_
       rotate_left
       ·show Act.put _ (some 9) _ = _
        simp only [Act.put, sI, sZ, sS, iW, jW]
        rfl
       refine one_ (i := 9) (N := none) #[T,T,T,T,T,T,T,T,T,T] rfl rfl (oO HT_.out (by kernel_rfl)) (by decide) (fun K hK => ?_)
       have hs24 : w23.cell? ⟨gb269, 0, none⟩ = some (.int .i64 0) := (kC BK269.out 0).trans rfl
       have hfs24 := blk_frozen BK269.out 0
       have hns24_0 := NB253_269.out
       have hms24_0 := NB269_253.out
       have hs25 : w23.cell? ⟨gb269, 1, none⟩ = some (.int .i64 0) := (kC BK269.out 1).trans rfl
       have hfs25 := blk_frozen BK269.out 1
       have hns25_0 := NB253_269.out
       have hms25_0 := NB269_253.out
       have hs26 : w23.cell? ⟨gb269, 2, none⟩ = some (.slice none 0 0) := (kC BK269.out 2).trans rfl
       have hfs26 := blk_frozen BK269.out 2
       have hns26_0 := NB253_269.out
       have hms26_0 := NB269_253.out
       have hs27 : w23.cell? ⟨gb269, 3, none⟩ = some (.slice none 0 0) := (kC BK269.out 3).trans rfl
       have hfs27 := blk_frozen BK269.out 3
       have hns27_0 := NB253_269.out
       have hms27_0 := NB269_253.out
       refine skip_ (w1 := ?_) (by rfl) rfl ?_ ?_
       rotate_left
       ·go_simp
        rfl
       refine hK.out _ _ ⟨ (by refine (cell_far (p := ⟨gb269, _, none⟩) (by first | ((try rw [add_block]); (try dsimp only); exact Kd.own_blk (Kd.R_ne HO261.out BK269.out (by decide))) | exact Kd.own_blk (Kd.R_ne HO261.out BK269.out (by decide)) | (show (Addr.add _ _).block ≠ _; rw [add_block]; exact Kd.own_blk (Kd.R_ne HO261.out BK269.out (by decide))) | (dsimp only; exact Kd.own_blk (Kd.R_ne HO261.out BK269.out (by decide)))) _).trans ?_; refine (cell_far (p := ⟨gb269, _, none⟩) (by first | ((try rw [add_block]); (try dsimp only); exact Kd.own_blk (Kd.R_ne HO261.out BK269.out (by decide))) | exact Kd.own_blk (Kd.R_ne HO261.out BK269.out (by decide)) | (show (Addr.add _ _).block ≠ _; rw [add_block]; exact Kd.own_blk (Kd.R_ne HO261.out BK269.out (by decide))) | (dsimp only; exact Kd.own_blk (Kd.R_ne HO261.out BK269.out (by decide)))) _).trans ?_; refine (cell_far (p := ⟨gb269, _, none⟩) (by first | ((try rw [add_block]); (try dsimp only); exact Kd.own_blk (Kd.R_ne HO261.out BK269.out (by decide))) | exact Kd.own_blk (Kd.R_ne HO261.out BK269.out (by decide)) | (show (Addr.add _ _).block ≠ _; rw [add_block]; exact Kd.own_blk (Kd.R_ne HO261.out BK269.out (by decide))) | (dsimp only; exact Kd.own_blk (Kd.R_ne HO261.out BK269.out (by decide)))) _).trans ?_; refine (cell_far (p := ⟨gb269, _, none⟩) (by first | ((try rw [add_block]); (try dsimp only); exact Kd.own_blk (Kd.R_ne HO261.out BK269.out (by decide))) | exact Kd.own_blk (Kd.R_ne HO261.out BK269.out (by decide)) | (show (Addr.add _ _).block ≠ _; rw [add_block]; exact Kd.own_blk (Kd.R_ne HO261.out BK269.out (by decide))) | (dsimp only; exact Kd.own_blk (Kd.R_ne HO261.out BK269.out (by decide)))) _).trans ?_; exact hHeld.1), (by refine (cell_far (p := ⟨gb269, _, none⟩) (by first | ((try rw [add_block]); (try dsimp only); exact Kd.own_blk (Kd.R_ne HO261.out BK269.out (by decide))) | exact Kd.own_blk (Kd.R_ne HO261.out BK269.out (by decide)) | (show (Addr.add _ _).block ≠ _; rw [add_block]; exact Kd.own_blk (Kd.R_ne HO261.out BK269.out (by decide))) | (dsimp only; exact Kd.own_blk (Kd.R_ne HO261.out BK269.out (by decide)))) _).trans ?_; refine (cell_far (p := ⟨gb269, _, none⟩) (by first | ((try rw [add_block]); (try dsimp only); exact Kd.own_blk (Kd.R_ne HO261.out BK269.out (by decide))) | exact Kd.own_blk (Kd.R_ne HO261.out BK269.out (by decide)) | (show (Addr.add _ _).block ≠ _; rw [add_block]; exact Kd.own_blk (Kd.R_ne HO261.out BK269.out (by decide))) | (dsimp only; exact Kd.own_blk (Kd.R_ne HO261.out BK269.out (by decide)))) _).trans ?_; refine (cell_far (p := ⟨gb269, _, none⟩) (by first | ((try rw [add_block]); (try dsimp only); exact Kd.own_blk (Kd.R_ne HO261.out BK269.out (by decide))) | exact Kd.own_blk (Kd.R_ne HO261.out BK269.out (by decide)) | (show (Addr.add _ _).block ≠ _; rw [add_block]; exact Kd.own_blk (Kd.R_ne HO261.out BK269.out (by decide))) | (dsimp only; exact Kd.own_blk (Kd.R_ne HO261.out BK269.out (by decide)))) _).trans ?_; refine (cell_far (p := ⟨gb269, _, none⟩) (by first | ((try rw [add_block]); (try dsimp only); exact Kd.own_blk (Kd.R_ne HO261.out BK269.out (by decide))) | exact Kd.own_blk (Kd.R_ne HO261.out BK269.out (by decide)) | (show (Addr.add _ _).block ≠ _; rw [add_block]; exact Kd.own_blk (Kd.R_ne HO261.out BK269.out (by decide))) | (dsimp only; exact Kd.own_blk (Kd.R_ne HO261.out BK269.out (by decide)))) _).trans ?_; exact hHeld.2)⟩ (fun hHeld => ?_)
       clear hK K
       refine done_ (done_of HT_.out (by kernel_rfl)) ?_
       have n0_ : Aside0 (Kd.R Kd.string 9 ((((w23.setCell ⟨gb269, 0, none⟩ (.int .i64 (rd t258 0))).setCell ⟨gb269, 1, none⟩ (.int .i64 (rd t258 1))).setCell ⟨gb269, 2, none⟩ (.slice Ao22 t263.length co22)).setCell ⟨gb269, 3, none⟩ (.slice none 0 0)) w.heap.size (fun _ => True) (.slice (some ad257) t254.length co17) t254) := ⟨by (with_reducible repeat (first | apply rA | apply rN | apply rD)); exact rM (Kd.R_far (p := ⟨gb269, 3, none⟩) (Kd.R_far (p := ⟨gb269, 2, none⟩) (Kd.R_far (p := ⟨gb269, 1, none⟩) (Kd.R_far (p := ⟨gb269, 0, none⟩) (Kd.R_types HO256.out BK269.out (by decide)) (fun _ hk => hk.2) (.int .i64 (rd t258 0))) (fun _ hk => hk.2) (.int .i64 (rd t258 1))) (fun _ hk => hk.2) (.slice Ao22 t263.length co22)) (fun _ hk => hk.2) (.slice none 0 0)) (fun _ hk => trivial)⟩
       have n1_ : Aside0 (Kd.R (Kd.int .i64) 2 ((((w23.setCell ⟨gb269, 0, none⟩ (.int .i64 (rd t258 0))).setCell ⟨gb269, 1, none⟩ (.int .i64 (rd t258 1))).setCell ⟨gb269, 2, none⟩ (.slice Ao22 t263.length co22)).setCell ⟨gb269, 3, none⟩ (.slice none 0 0)) w.heap.size (fun k_ => some k_ ≠ (.slice Ao22 t263.length co22 : Value).ownBlock) (.slice (some ad267) t258.length co21) t258) := ⟨by (with_reducible repeat (first | apply rA | apply rN | apply rD)); exact rM (Kd.R_far (p := ⟨gb269, 3, none⟩) (Kd.R_far (p := ⟨gb269, 2, none⟩) (Kd.R_far (p := ⟨gb269, 1, none⟩) (Kd.R_far (p := ⟨gb269, 0, none⟩) (Kd.R_types HO261.out BK269.out (by decide)) (fun _ hk => hk.2) (.int .i64 (rd t258 0))) (fun _ hk => hk.2) (.int .i64 (rd t258 1))) (fun _ hk => hk.2) (.slice Ao22 t263.length co22)) (fun _ hk => hk.2) (.slice none 0 0)) (fun _ hk => hk.1.2)⟩
       have n2_ : Aside0 (Kd.R (Kd.int .i64) 2 ((((w23.setCell ⟨gb269, 0, none⟩ (.int .i64 (rd t258 0))).setCell ⟨gb269, 1, none⟩ (.int .i64 (rd t258 1))).setCell ⟨gb269, 2, none⟩ (.slice Ao22 t263.length co22)).setCell ⟨gb269, 3, none⟩ (.slice none 0 0)) w.heap.size (fun k_ => some k_ ≠ (.slice (some ad267) t258.length co21 : Value).ownBlock) (.slice Ao22 t263.length co22) t263) := ⟨by (with_reducible repeat (first | apply rA | apply rN | apply rD)); exact rM (Kd.R_far (p := ⟨gb269, 3, none⟩) (Kd.R_far (p := ⟨gb269, 2, none⟩) (Kd.R_far (p := ⟨gb269, 1, none⟩) (Kd.R_far (p := ⟨gb269, 0, none⟩) (Kd.R_types HO266.out BK269.out (by decide)) (fun _ hk => hk.2) (.int .i64 (rd t258 0))) (fun _ hk => hk.2) (.int .i64 (rd t258 1))) (fun _ hk => hk.2) (.slice Ao22 t263.length co22)) (fun _ hk => hk.2) (.slice none 0 0)) (fun _ hk => hk.1.2)⟩
       have n3_ : Aside0 (((((w23.setCell ⟨gb269, 0, none⟩ (.int .i64 (rd t258 0))).setCell ⟨gb269, 1, none⟩ (.int .i64 (rd t258 1))).setCell ⟨gb269, 2, none⟩ (.slice Ao22 t263.length co22)).setCell ⟨gb269, 3, none⟩ (.slice none 0 0)).heap[gb253]? = some (.cells #[.int .i64 0, .int .i64 0, .slice none 0 0, .slice none 0 0] 31 (0, 0))) := ⟨by (with_reducible repeat (first | refine kN ?_ _ | refine kD ?_ | refine kA ?_ _)); refine kF ?_ NB253_269.out _; (with_reducible repeat (first | refine kN ?_ _ | refine kD ?_ | refine kA ?_ _)); refine kF ?_ NB253_269.out _; (with_reducible repeat (first | refine kN ?_ _ | refine kD ?_ | refine kA ?_ _)); refine kF ?_ NB253_269.out _; (with_reducible repeat (first | refine kN ?_ _ | refine kD ?_ | refine kA ?_ _)); refine kF ?_ NB253_269.out _; (with_reducible repeat (first | refine kN ?_ _ | refine kD ?_ | refine kA ?_ _)); exact BK253.out⟩
       have n4_ : Aside0 (((((w23.setCell ⟨gb269, 0, none⟩ (.int .i64 (rd t258 0))).setCell ⟨gb269, 1, none⟩ (.int .i64 (rd t258 1))).setCell ⟨gb269, 2, none⟩ (.slice Ao22 t263.length co22)).setCell ⟨gb269, 3, none⟩ (.slice none 0 0)).heap[gb269]? = some (.cells #[.int .i64 (rd t258 0), .int .i64 (rd t258 1), .slice Ao22 t263.length co22, .slice none 0 0] 31 (0, 0))) := ⟨by (with_reducible repeat (first | refine kN ?_ _ | refine kD ?_ | refine kA ?_ _)); refine blk_put (cs := #[.int .i64 (rd t258 0), .int .i64 (rd t258 1), .slice Ao22 t263.length co22, .slice none 0 0]) ?_ 3 _ rfl; (with_reducible repeat (first | refine kN ?_ _ | refine kD ?_ | refine kA ?_ _)); refine blk_put (cs := #[.int .i64 (rd t258 0), .int .i64 (rd t258 1), .slice none 0 0, .slice none 0 0]) ?_ 2 _ rfl; (with_reducible repeat (first | refine kN ?_ _ | refine kD ?_ | refine kA ?_ _)); refine blk_put (cs := #[.int .i64 (rd t258 0), .int .i64 0, .slice none 0 0, .slice none 0 0]) ?_ 1 _ rfl; (with_reducible repeat (first | refine kN ?_ _ | refine kD ?_ | refine kA ?_ _)); refine blk_put (cs := #[.int .i64 0, .int .i64 0, .slice none 0 0, .slice none 0 0]) ?_ 0 _ rfl; (with_reducible repeat (first | refine kN ?_ _ | refine kD ?_ | refine kA ?_ _)); exact BK269.out⟩
       have n5_ : Aside0 (Below w.heap.size w ((((w23.setCell ⟨gb269, 0, none⟩ (.int .i64 (rd t258 0))).setCell ⟨gb269, 1, none⟩ (.int .i64 (rd t258 1))).setCell ⟨gb269, 2, none⟩ (.slice Ao22 t263.length co22)).setCell ⟨gb269, 3, none⟩ (.slice none 0 0))) := ⟨by repeat (first | (with_reducible first | exact HB.out | apply bA | apply bN | apply bD | refine bS ?_ GE253.out | refine bS ?_ GE269.out) | exact HB.out)⟩
       (try clear HO256)
       (try clear HO261)
       (try clear HO266)
       (try clear BK253)
       (try clear BK269)
       (try clear HB)
       generalize ((((w23.setCell ⟨gb269, 0, none⟩ (.int .i64 (rd t258 0))).setCell ⟨gb269, 1, none⟩ (.int .i64 (rd t258 1))).setCell ⟨gb269, 2, none⟩ (.slice Ao22 t263.length co22)).setCell ⟨gb269, 3, none⟩ (.slice none 0 0)) = w28 at n0_ n1_ n2_ n3_ n4_ n5_ ⊢
       have HO256 := n0_
       have HO261 := n1_
       have HO266 := n2_
       have BK253 := n3_
       have BK269 := n4_
       have HB := n5_
       clear n0_ n1_ n2_ n3_ n4_ n5_
       have q29 : (2 : Int) ≤ ((t254.length : Int) : Int) := oT
       obtain ⟨i029, hi029, _, hsz29, _⟩ := info_parts info9
       have hcut29 := cut_from (P := Tryd.prog) 54 9 .i64 Tryd.underlying54 hi029 1 hsz29 (some ad257) t254.length co17 2 (by omega) q29
       have hr29 := Kd.Q_drop (k := (2 : Int).toNat) (Kd.Q_of_R HO256.out) (by omega)
       obtain ⟨A29, hA29⟩ : ∃ A1, A1 = (if co17 = (2 : Int).toNat then (some ad257) else ((some ad257) : Option Addr).map (·.add ((2 : Int).toNat * 1))) := ⟨_, rfl⟩
       obtain ⟨c29, hc29⟩ : ∃ c1, c1 = co17 - (2 : Int).toNat := ⟨_, rfl⟩
       have hy29 : y270.length = t254.length - (2 : Int).toNat := (by rw [Ny270.out, List.length_drop])
       rw [← Ny270.out] at hr29
       rw [← hy29, ← hA29, ← hc29] at hcut29
       replace hr29 : Kd.Q Kd.string 9 w28 w.heap.size (fun _ => True) (.slice A29 y270.length c29) y270 := (by rw [hA29, hc29, hy29]; exact hr29)
       have HE29 : Aside0 ((Value.slice A29 y270.length c29).ownBlock = (.slice (some ad257) t254.length co17 : Value).ownBlock) := ⟨by rw [hA29]; split <;> (cases ((some ad257) : Option Addr) <;> rfl)⟩
       clear hy29 hi029 hsz29 HO256 hA29 hc29
       have HO272 := Aside0.mk hr29
       clear hr29
       replace q29 := eq_true q29
       try go_wp2
       go_loopg [45] k (fun kq v45 w' => ∃ (x45_1 : Int) (x254000_1 : Int) (x254001_1 : Int) (x270003_1 : List (S63)) (u270003 : Value), v45 = .int .i64 x45_1 ∧ Aside0 (impl_ReadGrammar.l0 kq a0 t259 t264 y270 (y270.length : Int) x45_1 (rd t258 0) (rd t258 1) t263 x270003_1 = some (r1, r2, r3, r4, r5)) ∧ Aside0 (kq ≤ k) ∧ Aside0 (Kd.Q Kd.string 9 w' w.heap.size (fun _ => True) (.slice A29 y270.length c29) y270) ∧ Aside0 (Kd.R (Kd.int .i64) 2 w' w.heap.size (fun _ => True) (.slice Ao22 t263.length co22) t263) ∧ Aside0 (Kd.R k63 63 w' w.heap.size (fun _ => True) u270003 x270003_1) ∧ Aside0 (w'.heap[gb253]? = some (.cells #[.int .i64 x254000_1, .int .i64 x254001_1, (.slice none 0 0), (.slice none 0 0)] 31 (0, 0))) ∧ Aside0 (w'.heap[gb269]? = some (.cells #[.int .i64 (rd t258 0), .int .i64 (rd t258 1), (.slice Ao22 t263.length co22), u270003] 31 (0, 0))) ∧ Aside0 (Below w.heap.size w w'))
       case atStart => exact ⟨(0), (0), (0), (([] : List (S63))), (.slice none 0 0), eT, H', ⟨Nat.le_refl _⟩, ⟨by (with_reducible repeat (first | apply Kd.Q_alloc | apply Kd.Q_drewN | apply Kd.Q_drew)); exact HO272.out⟩, ⟨by (with_reducible repeat (first | apply rA | apply rN | apply rD)); exact rM HO266.out (fun _ hk => trivial)⟩, ⟨by first | exact Kd.R_nil _ _ _ _ _ | exact Kd.N_nil _ _ _ _ _ | exact Kd.V_nil _ _ _ _ _ | exact Kd.Q_nil _ _ _ _ _ | exact Kd.S_nil _ _ _ _ _⟩, ⟨kQ BK253⟩, ⟨kQ BK269⟩, ⟨by repeat (first | (with_reducible first | exact HB.out | apply bA | apply bN | apply bD | refine bS ?_ GE253.out | refine bS ?_ GE269.out) | exact HB.out)⟩⟩
       case round =>
        clear H'
        try clear c1
        try clear c2
        try clear p2
        try clear q2
        try clear hx2
        try clear qi2
        try clear c3
        try clear c3b0
        try clear c3b1
        try clear c4
        try clear c8
        try clear c8b0
        try clear c8b1
        try clear c10
        try clear c10b0
        try clear c10b1
        try clear c12
        try clear c12b0
        try clear c12b1
        try clear c13
        try clear c13b0
        try clear c13b1
        try clear c14
        try clear c14b0
        try clear c14b1
        try clear p25
        try clear q25
        try clear hx25
        try clear qi25
        try clear p26
        try clear q26
        try clear hx26
        try clear qi26
        try clear c29
        try clear q29
        try clear hcz7_0
        try clear hcz7_1
        try clear hcz7_2
        try clear hcz7_3
        try clear hfz7_0
        try clear hfz7_1
        try clear hfz7_2
        try clear hfz7_3
        try clear hx257_0
        try clear hx262_0
        try clear hx267_0
        try clear hx268_0
        try clear p257
        try clear p262
        try clear p267
        try clear p268
        try clear q257
        try clear q262
        try clear q267
        try clear q268
        try clear q29
        obtain ⟨x45_1, x254000_1, x254001_1, x270003_1, u270003, rfl, HA, HK1, HO_43, HO_270002, HO_270003, BK253, BK269, HB⟩ := hrel
        cases gk with
        | zero => exact absurd HA.out (by simp [impl_ReadGrammar.l0])
        | succ k1 =>
         have H := HA.out
         clear HA
         simp only [impl_ReadGrammar.l0] at H
         by_cases c30 : x45_1 < (y270.length : Int)
         ·rw [if_pos c30] at H
          have c30b0 : decide (x45_1 < (y270.length : Int)) = true := decide_eq_true c30
          clear c30
          by_cases c31 : 0 ≤ x45_1
          ·rw [if_pos c31] at H
           have c31b0 : decide (0 ≤ x45_1) = true := decide_eq_true c31
           clear c31
           by_cases c32 : x45_1 < (y270.length : Int)
           ·rw [if_pos c32] at H
            have c32b0 : decide (x45_1 < (y270.length : Int)) = true := decide_eq_true c32
            clear c32
            replace H := Option.bind_eq_some_iff.mp H
            obtain ⟨⟨t274, t275⟩, A330, H⟩ := H
            replace H : (if t275 = true then (if 0 < (t274.length : Int) then (if 1 < (t274.length : Int) then (if 2 < (t274.length : Int) then (if x270003_1.length < 5864062014805 then (impl_ReadGrammar.l0 k1 a0 t259 t264 y270 (y270.length : Int) (wrap64 (x45_1 + 1)) (rd t258 0) (rd t258 1) t263 (x270003_1 ++ [(⟨rd t274 0, rd t274 1, rd t274 2⟩ : S63)])) else (none)) else (none)) else (none)) else (none)) else (some (0, 0, ([] : List Int), ([] : List (S63)), false))) = some (r1, r2, r3, r4, r5) := H
            have A33 := Aside0.mk A330
            clear A330
            by_cases c34 : t275 = true
            ·subst c34
             have H1 : (if 0 < (t274.length : Int) then (if 1 < (t274.length : Int) then (if 2 < (t274.length : Int) then (if x270003_1.length < 5864062014805 then (impl_ReadGrammar.l0 k1 a0 t259 t264 y270 (y270.length : Int) (wrap64 (x45_1 + 1)) (rd t258 0) (rd t258 1) t263 (x270003_1 ++ [(⟨rd t274 0, rd t274 1, rd t274 2⟩ : S63)])) else (none)) else (none)) else (none)) else (none)) = some (r1, r2, r3, r4, r5) := by rw [if_pos rfl] at H; exact H
             clear H
             have H := H1
             clear H1
             by_cases c35 : 0 < (t274.length : Int)
             ·rw [if_pos c35] at H
              have c35b0 : decide (0 < (t274.length : Int)) = true := decide_eq_true c35
              have c35b1 : decide (0 < t274.length) = true := decide_eq_true (by omega)
              clear c35
              by_cases c36 : 1 < (t274.length : Int)
              ·rw [if_pos c36] at H
               have c36b0 : decide (1 < (t274.length : Int)) = true := decide_eq_true c36
               have c36b1 : decide (1 < t274.length) = true := decide_eq_true (by omega)
               clear c36
               by_cases c37 : 2 < (t274.length : Int)
               ·rw [if_pos c37] at H
                have c37b0 : decide (2 < (t274.length : Int)) = true := decide_eq_true c37
                have c37b1 : decide (2 < t274.length) = true := decide_eq_true (by omega)
                clear c37
                by_cases c38 : x270003_1.length < 5864062014805
                ·rw [if_pos c38] at H
                 have LMc38 := Aside0.mk c38
                 clear c38
                 obtain ⟨y281, hy281⟩ : ∃ y_ : List (S63), y_ = (x270003_1 ++ [(⟨rd t274 0, rd t274 1, rd t274 2⟩ : S63)]) := ⟨_, rfl⟩
                 replace H : (impl_ReadGrammar.l0 k1 a0 t259 t264 y270 (y270.length : Int) (wrap64 (x45_1 + 1)) (rd t258 0) (rd t258 1) t263 y281) = some (r1, r2, r3, r4, r5) := by first | (rw [hy281]; with_reducible exact H) | (have H2_ := (Option.bind_some _ _).symm.trans H; rw [hy281]; with_reducible exact H2_) | (have H2_ := (Option.bind_some _ _).symm.trans H; with_reducible exact H2_) | with_reducible exact H | (rw [hy281]; exact H) | exact H
                 have Ny281 := Aside0.mk hy281
                 clear hy281
                 have H' := Aside0.mk H
                 clear H
                 have p273 : 0 ≤ (x45_1 : Int) := oT
                 have q273 : x45_1 < (y270.length : Int) := oT
                 obtain ⟨ad273, e273, hx273_0⟩ := Kd.at_string (Kd.Q_reads' HO_43.out).2.2 x45_1 p273 q273
                 cases e273
                 replace p273 := eq_true p273
                 replace q273 := eq_true q273
                 try go_wp2_with (first | ((with_reducible refine gC (f := 41) rfl ?_); refine goesL_ (some 51) rfl rfl Tryd.func41 (by kernel_rfl) rfl #[.string (rdOf ByteArray.empty y270 x45_1), .int .i64 3] rfl lQ ?_; (with_reducible refine (impl_readNumbers.calls k1 (rdOf ByteArray.empty y270 x45_1) 3 t274 true _ (by first | exact hT | exact TabR.below hT HB.out | exact TabR.below hT (by repeat (first | (with_reducible first | exact HB.out | apply bA | apply bN | apply bD | refine bS ?_ GE253.out | refine bS ?_ GE269.out) | exact HB.out)) | exact TabR.below hT (Below.refl _ _)) A33.out).mono ?_); rintro e w39 ⟨v276, rfl, ho0, hb⟩; refine ⟨_, rfl, ?_⟩; have z_ := bX hb (by repeat (first | (with_reducible first | exact HB.out | apply bA | apply bN | apply bD | refine bS ?_ GE253.out | refine bS ?_ GE269.out) | exact HB.out)); have n0_ := Aside0.mk (Kd.Q_below (by (with_reducible repeat (first | apply Kd.Q_alloc | apply Kd.Q_drewN | apply Kd.Q_drew)); exact HO_43.out) hb); have n1_ := Aside0.mk (rE (rQ HO_270002) (Kd.R_base ho0) hb); have n2_ := Aside0.mk (rB (rQ HO_270003) hb); have n3_ := Aside0.mk (rL (rW ho0 (rT (rQ HO_270002))) (bZ z_)); have n4_ := Aside0.mk (kB (kQ BK253) hb); have n5_ := Aside0.mk (kB (kQ BK269) hb); have n6_ := Aside0.mk (bP z_ hb); clear HO_43; clear HO_270002; clear HO_270003; clear BK253; clear BK269; clear HB; have HO_43 := n0_; have HO_270002 := n1_; have HO_270003 := n2_; have HO277 := n3_; have BK253 := n4_; have BK269 := n5_; have HB := n6_; clear z_ n0_ n1_ n2_ n3_ n4_ n5_ n6_; (try clear hb); (try clear hb2); (try clear hk); (try clear hi); (try clear ho0)))
                 have n0_ := Aside0.mk (Kd.Q_drew HO_43.out)
                 have n1_ := Aside0.mk (rD HO_270002.out)
                 have n2_ := Aside0.mk (rD HO_270003.out)
                 have n3_ := Aside0.mk (rD HO277.out)
                 have n4_ := Aside0.mk (kD BK253.out)
                 have n5_ := Aside0.mk (kD BK269.out)
                 have n6_ := Aside0.mk (bD HB.out)
                 clear HO_43
                 clear HO_270002
                 clear HO_270003
                 clear HO277
                 clear BK253
                 clear BK269
                 clear HB
                 have HO_43 := n0_
                 have HO_270002 := n1_
                 have HO_270003 := n2_
                 have HO277 := n3_
                 have BK253 := n4_
                 have BK269 := n5_
                 have HB := n6_
                 clear n0_ n1_ n2_ n3_ n4_ n5_ n6_
                 obtain ⟨Ao41, co41, eo41⟩ := Kd.R_slice HO277.out
                 (first | subst eo41 | (injection eo41 with f1_ f2_ f3_; have f4_ := f1_.symm; have f5_ := f3_.symm; clear f1_ f2_ f3_; subst f4_; subst f5_))
                 have p278 : 0 ≤ (0 : Int) := (by omega)
                 have q278 : 0 < (t274.length : Int) := oT
                 obtain ⟨ad278, e278, hx278_0⟩ := Kd.at_int (Kd.R_reads' HO277.out).2.2 0 p278 q278
                 cases e278
                 have qi278 : (0 < t274.length) = True := eq_true (by omega)
                 (try rw [t00] at hx278_0)
                 (try rw [Addr.add_zero'] at hx278_0)
                 replace p278 := eq_true p278
                 replace q278 := eq_true q278
                 have p279 : 0 ≤ (1 : Int) := (by omega)
                 have q279 : 1 < (t274.length : Int) := oT
                 obtain ⟨ad279, e279, hx279_0⟩ := Kd.at_int (Kd.R_reads' HO277.out).2.2 1 p279 q279
                 obtain rfl : ad278 = ad279 := (by injection e279)
                 (try simp only [show (1 : Int).toNat = 1 from rfl, Nat.reduceMul, Nat.reduceEqDiff, Go.Addr.add, ↓reduceIte] at hx279_0)
                 have qi279 : (1 < t274.length) = True := eq_true (by omega)
                 (try rw [show ((1 : Int)).toNat = 1 from rfl] at hx279_0)
                 replace p279 := eq_true p279
                 replace q279 := eq_true q279
                 have p280 : 0 ≤ (2 : Int) := (by omega)
                 have q280 : 2 < (t274.length : Int) := oT
                 obtain ⟨ad280, e280, hx280_0⟩ := Kd.at_int (Kd.R_reads' HO277.out).2.2 2 p280 q280
                 obtain rfl : ad278 = ad280 := (by injection e280)
                 (try simp only [show (2 : Int).toNat = 2 from rfl, Nat.reduceMul, Nat.reduceEqDiff, Go.Addr.add, ↓reduceIte] at hx280_0)
                 have qi280 : (2 < t274.length) = True := eq_true (by omega)
                 (try rw [show ((2 : Int)).toNat = 2 from rfl] at hx280_0)
                 replace p280 := eq_true p280
                 replace q280 := eq_true q280
                 refine start_ (n := 16) (S := fun w' => w'.cell? ⟨gb269, 0, none⟩ = some (.int .i64 (rd t258 0)) ∧ w'.cell? ⟨gb269, 1, none⟩ = some (.int .i64 (rd t258 1)) ∧ w'.cell? ⟨gb269, 2, none⟩ = some (.slice Ao22 t263.length co22) ∧ w'.cell? ⟨gb269, 3, none⟩ = some (u270003) ∧ w'.cell? ad278 = some (.int .i64 (rd t274 0)) ∧ w'.cell? ⟨ad278.block, ad278.off + 1, none⟩ = some (.int .i64 (rd t274 1)) ∧ w'.cell? ⟨ad278.block, ad278.off + 2, none⟩ = some (.int .i64 (rd t274 2))) (ds := [13, 15]) #[F,F,F,F,F,F,F,F,F,F,F,F,F,F,F,F] (by kernel_rfl) rfl rfl ⟨(kC BK269.out 0).trans rfl, (kC BK269.out 1).trans rfl, (kC BK269.out 2).trans rfl, (kC BK269.out 3).trans rfl, hx278_0, hx279_0, hx280_0⟩ (fun hHeld => ?_); refine with_tabW impl_ReadGrammar.tab13 impl_ReadGrammar.bits13 (fun HT_ HW_ => ?_)
                 generalize w39.drew = w40 at HO_43 HO_270002 HO_270003 HO277 BK253 BK269 HB hx278_0 hx279_0 hx280_0 hHeld ⊢
                 refine pure_ (i := 0) (N := some 57) (v := ?_) (a' := ?_) #[T,F,F,F,F,F,F,F,F,F,F,F,F,F,F,F] rfl rfl (any_of HT_.out (by kernel_rfl)) (fun _ _ _ h => h) (Or.inl ⟨by rfl, ?_⟩) ?_ ?_; rotate_left; (·intro w'; go_simp; with_reducible rfl); rotate_left; (·simp only [Act.put, sI, sZ, sS, iW, jW]; rfl)
                 refine pure_ (i := 2) (N := some 59) (v := ?_) (a' := ?_) #[T,F,T,F,F,F,F,F,F,F,F,F,F,F,F,F] rfl rfl (any_of HT_.out (by kernel_rfl)) (fun _ _ _ h => h) (Or.inl ⟨by rfl, ?_⟩) ?_ ?_; rotate_left; (·intro w'; go_simp; with_reducible rfl); rotate_left; (·simp only [Act.put, sI, sZ, sS, iW, jW]; rfl)
                 refine pure_ (i := 3) (N := some 60) (v := ?_) (a' := ?_) #[T,F,T,T,F,F,F,F,F,F,F,F,F,F,F,F] rfl rfl (any_of HT_.out (by kernel_rfl)) (fun _ _ _ h => h) (Or.inl ⟨by rfl, ?_⟩) ?_ ?_; rotate_left; (·intro w'; go_simp; with_reducible rfl); rotate_left; (·simp only [Act.put, sI, sZ, sS, iW, jW]; rfl)
                 refine pure_ (i := 5) (N := some 62) (v := ?_) (a' := ?_) #[T,F,T,T,F,T,F,F,F,F,F,F,F,F,F,F] rfl rfl (any_of HT_.out (by kernel_rfl)) (fun _ _ _ h => h) (Or.inl ⟨by rfl, ?_⟩) ?_ ?_; rotate_left; (·intro w'; go_simp; with_reducible rfl); rotate_left; (·simp only [Act.put, sI, sZ, sS, iW, jW]; rfl)
                 refine pure_ (i := 6) (N := some 63) (v := ?_) (a' := ?_) #[T,F,T,T,F,T,T,F,F,F,F,F,F,F,F,F] rfl rfl (any_of HT_.out (by kernel_rfl)) (fun _ _ _ h => h) (Or.inl ⟨by rfl, ?_⟩) ?_ ?_; rotate_left; (·intro w'; go_simp; with_reducible rfl); rotate_left; (·simp only [Act.put, sI, sZ, sS, iW, jW]; rfl)
                 refine pure_ (i := 8) (N := some 65) (v := ?_) (a' := ?_) #[T,F,T,T,F,T,T,F,T,F,F,F,F,F,F,F] rfl rfl (any_of HT_.out (by kernel_rfl)) (fun _ _ _ h => h) (Or.inl ⟨by rfl, ?_⟩) ?_ ?_; rotate_left; (·intro w'; go_simp; with_reducible rfl); rotate_left; (·simp only [Act.put, sI, sZ, sS, iW, jW]; rfl)
                 refine pure_ (i := 9) (N := some 66) (v := ?_) (a' := ?_) #[T,F,T,T,F,T,T,F,T,T,F,F,F,F,F,F] rfl rfl (any_of HT_.out (by kernel_rfl)) (fun _ _ _ h => h) (Or.inl ⟨by rfl, ?_⟩) ?_ ?_; rotate_left; (·intro w'; go_simp; with_reducible rfl); rotate_left; (·simp only [Act.put, sI, sZ, sS, iW, jW]; rfl)
                 refine take_ (i := 1) (N := some 58) (v := ?_) (a' := ?_) #[T,T,T,T,F,T,T,F,T,T,F,F,F,F,F,F] rfl rfl (tW HT_.out HW_.out (by kernel_rfl)) (fun _ _ _ h => h) (Or.inl ⟨by rfl, ?_⟩) hHeld ?_ ?_; rotate_left; (·rintro w' ⟨s0, s1, s2, s3, s4, s5, s6⟩; go_simp; with_reducible rfl); rotate_left; (·simp only [Act.put, sI, sZ, sS, iW, jW]; rfl)
                 refine take_ (i := 4) (N := some 61) (v := ?_) (a' := ?_) #[T,T,T,T,T,T,T,F,T,T,F,F,F,F,F,F] rfl rfl (tW HT_.out HW_.out (by kernel_rfl)) (fun _ _ _ h => h) (Or.inl ⟨by rfl, ?_⟩) hHeld ?_ ?_; rotate_left; (·rintro w' ⟨s0, s1, s2, s3, s4, s5, s6⟩; go_simp; with_reducible rfl); rotate_left; (·simp only [Act.put, sI, sZ, sS, iW, jW]; rfl)
                 refine take_ (i := 7) (N := some 64) (v := ?_) (a' := ?_) #[T,T,T,T,T,T,T,T,T,T,F,F,F,F,F,F] rfl rfl (tW HT_.out HW_.out (by kernel_rfl)) (fun _ _ _ h => h) (Or.inl ⟨by rfl, ?_⟩) hHeld ?_ ?_; rotate_left; (·rintro w' ⟨s0, s1, s2, s3, s4, s5, s6⟩; go_simp; with_reducible rfl); rotate_left; (·simp only [Act.put, sI, sZ, sS, iW, jW]; rfl)
                 refine take_ (i := 10) (N := some 67) (v := ?_) (a' := ?_) #[T,T,T,T,T,T,T,T,T,T,T,F,F,F,F,F] rfl rfl (tW HT_.out HW_.out (by kernel_rfl)) (fun _ _ _ h => h) (Or.inl ⟨by rfl, ?_⟩) hHeld ?_ ?_; rotate_left; (·rintro w' ⟨s0, s1, s2, s3, s4, s5, s6⟩; go_simp; with_reducible rfl); rotate_left; (·simp only [Act.put, sI, sZ, sS, iW, jW]; rfl)
                 refine pure_ (i := 11) (N := some 68) (v := ?_) (a' := ?_) #[T,T,T,T,T,T,T,T,T,T,T,T,F,F,F,F] rfl rfl (any_of HT_.out (by kernel_rfl)) (fun _ _ _ h => h) (Or.inl ⟨by rfl, ?_⟩) ?_ ?_; rotate_left; (·intro w'; go_simp; with_reducible rfl); rotate_left; (·simp only [Act.put, sI, sZ, sS, iW, jW]; rfl)
                 refine one_ (i := 12) (N := some 69) #[T,T,T,T,T,T,T,T,T,T,T,T,T,F,F,F] rfl rfl (oO HT_.out (by kernel_rfl)) (by decide) (fun K hK => ?_)
                 refine value_ (w1 := ?_) (v := ?_) (by rfl) rfl ?_ ?_
                 rotate_left 2
                 ·go_simp
                  constructor
                  ·rfl
                  ·rfl
                 refine hK.out _ _ ⟨(kC (kA BK269.out _) 0).trans rfl, (kC (kA BK269.out _) 1).trans rfl, (kC (kA BK269.out _) 2).trans rfl, (kC (kA BK269.out _) 3).trans rfl, (World.cell?_alloc_lt _ _ _ (World.block_lt_of_cell? _ _ (hHeld.2.2.2.2.1))).trans (hHeld.2.2.2.2.1), (World.cell?_alloc_lt _ _ _ (World.block_lt_of_cell? _ _ (hHeld.2.2.2.2.2.1))).trans (hHeld.2.2.2.2.2.1), (World.cell?_alloc_lt _ _ _ (World.block_lt_of_cell? _ _ (hHeld.2.2.2.2.2.2))).trans (hHeld.2.2.2.2.2.2)⟩ (fun hHeld => ?_)
                 clear hK K
                 refine norm_ (a' := ?_) ?_ ?_
                 rotate_left
                 ·show Act.put _ (some 69) _ = _
                  simp only [Act.put, sI, sZ, sS, iW, jW]
                  rfl
                 refine last_ (i := 13) (N := some 70) #[T,T,T,T,T,T,T,T,T,T,T,T,T,T,F,F] rfl rfl (oO HT_.out (by kernel_rfl)) (by decide) (fun K hK => ?_)
                 refine Kd.R_append_step k63 (w0 := w) w.heap.size (by rfl) (.tmp 58) (.tmp 69) 29 63 (.agg #[(.int .i64 0), (.int .i64 0), (.int .i64 0)]) 24 rfl Tryd.underlying29 info63 rfl (by decide) (by omega) u270003 x270003_1 (⟨rd t274 0, rd t274 1, rd t274 2⟩ : S63) [.int .i64 (rd t274 0), .int .i64 (rd t274 1), .int .i64 (rd t274 2)] (fun _ => True) (fun _ => False) rfl rfl ?aP (fun _ hk => hk.elim) ?aF ?aO ?aB ?aS ?aL ?_
                 (case aP => exact k63_mkM _ _ _ (⟨rd t274 0, rd t274 1, rd t274 2⟩ : S63))
                 (case aB => exact (by repeat (first | (with_reducible first | exact HB.out | apply bA | apply bN | apply bD | refine bS ?_ GE253.out | refine bS ?_ GE269.out) | exact HB.out)))
                 (case aF => exact (fun _ _ => trivial))
                 (case aO => exact (rQ HO_270003))
                 (case aS => exact (bZ (by repeat (first | (with_reducible first | exact HB.out | apply bA | apply bN | apply bD | refine bS ?_ GE253.out | refine bS ?_ GE269.out) | exact HB.out))))
                 (case aL => have := LMc38.out; omega)
                 intro v282 w42 ho hb hg hat
                 rw [← Ny281.out] at ho
                 have n0_ := Aside0.mk (Kd.Q_over' (by (with_reducible repeat (first | apply Kd.Q_alloc | apply Kd.Q_drewN | apply Kd.Q_drew)); exact HO_43.out) (Kd.R_typed (rQ HO_270003)) (by decide) hg)
                 have n1_ := Aside0.mk (Kd.R_over' (rQ HO_270002) (Kd.R_typed (rQ HO_270003)) (by decide) hg)
                 have n2_ := Aside0.mk (blk_grown (kQ BK253) hg (Kd.R_ne HO_270003.out BK253.out (by decide)))
                 have n3_ := Aside0.mk (blk_grown (kQ BK269) hg (Kd.R_ne HO_270003.out BK269.out (by decide)))
                 have n4_ := Aside0.mk (Kd.R_over' (rQ HO277) (Kd.R_typed (rQ HO_270003)) (by decide) hg)
                 have n5_ := Aside0.mk (hb)
                 have n6_ := Aside0.mk (ho)
                 clear HO_43
                 clear HO_270002
                 clear BK253
                 clear BK269
                 clear HO277
                 clear HB
                 clear HO_270003
                 have HO_43 := n0_
                 have HO_270002 := n1_
                 have BK253 := n2_
                 have BK269 := n3_
                 have HO277 := n4_
                 have HB := n5_
                 have HO283 := n6_
                 clear n0_ n1_ n2_ n3_ n4_ n5_ n6_
                 clear ho hb hg hat
                 obtain ⟨Ao43, co43, eo43⟩ := Kd.R_slice HO283.out
                 (first | subst eo43 | (injection eo43 with f1_ f2_ f3_; have f4_ := f1_.symm; have f5_ := f3_.symm; clear f1_ f2_ f3_; subst f4_; subst f5_))
                 refine hK.out _ _ ?_
                 clear hK K
                 refine norm_ (a' := ?_) ?_ ?_
                 rotate_left
                 ·show Act.put _ (some 70) _ = _
                  simp only [Act.put, sI, sZ, sS, iW, jW]
                  rfl
                 refine pure_ (i := 14) (N := some 71) (v := ?_) (a' := ?_) #[T,T,T,T,T,T,T,T,T,T,T,T,T,T,T,F] rfl rfl (any_of HT_.out (by kernel_rfl)) (fun _ _ _ h => h) (Or.inl ⟨by rfl, ?_⟩) ?_ ?_; rotate_left; (·intro w'; go_simp; with_reducible rfl); rotate_left; (·simp only [Act.put, sI, sZ, sS, iW, jW]; rfl)
                 refine last_ (i := 15) (N := none) #[T,T,T,T,T,T,T,T,T,T,T,T,T,T,T,T] rfl rfl (oO HT_.out (by kernel_rfl)) (by decide) (fun K hK => ?_)
                 have hs44 : w42.cell? ⟨gb269, 3, none⟩ = some (u270003) := (kC BK269.out 3).trans rfl
                 have hfs44 := blk_frozen BK269.out 3
                 have hns44_0 := NB253_269.out
                 have hms44_0 := NB269_253.out
                 refine skip_ (w1 := ?_) (by rfl) rfl ?_ ?_
                 rotate_left
                 ·go_simp
                  rfl
                 refine hK.out _ _ ?_
                 clear hK K
                 refine done_ (done_of HT_.out (by kernel_rfl)) ?_
                 try go_wp2
                 go_roundg k1
                 case measure => have := HK1.out; omega
                 case rel => exact ⟨(wrap64 (x45_1 + 1)), (x254000_1), (x254001_1), (y281), (.slice Ao43 y281.length co43), eT, H', ⟨by have := HK1.out; omega⟩, ⟨by (with_reducible repeat (first | apply Kd.Q_alloc | apply Kd.Q_drewN | apply Kd.Q_drew)); exact Kd.Q_mono (Kd.Q_far (p := ⟨gb269, 3, none⟩) (Kd.Q_types HO_43.out BK269.out (by decide)) (fun _ hk => hk.2) (.slice Ao43 y281.length co43)) (fun _ hk => trivial)⟩, ⟨by (with_reducible repeat (first | apply rA | apply rN | apply rD)); exact rM (Kd.R_far (p := ⟨gb269, 3, none⟩) (Kd.R_types HO_270002.out BK269.out (by decide)) (fun _ hk => hk.2) (.slice Ao43 y281.length co43)) (fun _ hk => trivial)⟩, ⟨by (with_reducible repeat (first | apply rA | apply rN | apply rD)); exact rM (Kd.R_far (p := ⟨gb269, 3, none⟩) (Kd.R_types HO283.out BK269.out (by decide)) (fun _ hk => hk.2) (.slice Ao43 y281.length co43)) (fun _ hk => trivial)⟩, ⟨by (with_reducible repeat (first | refine kN ?_ _ | refine kD ?_ | refine kA ?_ _)); refine kF ?_ NB253_269.out _; (with_reducible repeat (first | refine kN ?_ _ | refine kD ?_ | refine kA ?_ _)); exact BK253.out⟩, ⟨by (with_reducible repeat (first | refine kN ?_ _ | refine kD ?_ | refine kA ?_ _)); refine blk_put (cs := #[.int .i64 (rd t258 0), .int .i64 (rd t258 1), .slice Ao22 t263.length co22, u270003]) ?_ 3 _ rfl; (with_reducible repeat (first | refine kN ?_ _ | refine kD ?_ | refine kA ?_ _)); exact BK269.out⟩, ⟨by repeat (first | (with_reducible first | exact HB.out | apply bA | apply bN | apply bD | refine bS ?_ GE253.out | refine bS ?_ GE269.out) | exact HB.out)⟩⟩
                ·rw [if_neg c38] at H
                 exact absurd H (by simp)
               ·rw [if_neg c37] at H
                exact absurd H (by simp)
              ·rw [if_neg c36] at H
               exact absurd H (by simp)
             ·rw [if_neg c35] at H
              exact absurd H (by simp)
            ·replace c34 := Bool.eq_false_iff.mpr c34
             subst c34
             have H1 : (some (0, 0, ([] : List Int), ([] : List (S63)), false)) = some (r1, r2, r3, r4, r5) := by rw [if_neg (show ¬ (false = true) by decide)] at H; exact H
             clear H
             have H := H1
             clear H1
             simp only [Option.some.injEq, Prod.mk.injEq] at H
             obtain ⟨rfl, rfl, rfl, rfl, rfl⟩ := H
             have p273 : 0 ≤ (x45_1 : Int) := oT
             have q273 : x45_1 < (y270.length : Int) := oT
             obtain ⟨ad273, e273, hx273_0⟩ := Kd.at_string (Kd.Q_reads' HO_43.out).2.2 x45_1 p273 q273
             cases e273
             replace p273 := eq_true p273
             replace q273 := eq_true q273
             go_wp2_with (first | ((with_reducible refine gC (f := 41) rfl ?_); refine goesL_ (some 51) rfl rfl Tryd.func41 (by kernel_rfl) rfl #[.string (rdOf ByteArray.empty y270 x45_1), .int .i64 3] rfl lQ ?_; (with_reducible refine (impl_readNumbers.calls k1 (rdOf ByteArray.empty y270 x45_1) 3 t274 false _ (by first | exact hT | exact TabR.below hT HB.out | exact TabR.below hT (by repeat (first | (with_reducible first | exact HB.out | apply bA | apply bN | apply bD | refine bS ?_ GE253.out | refine bS ?_ GE269.out) | exact HB.out)) | exact TabR.below hT (Below.refl _ _)) A33.out).mono ?_); rintro e w45 ⟨v276, rfl, ho0, hb⟩; refine ⟨_, rfl, ?_⟩; have z_ := bX hb (by repeat (first | (with_reducible first | exact HB.out | apply bA | apply bN | apply bD | refine bS ?_ GE253.out | refine bS ?_ GE269.out) | exact HB.out)); have n0_ := Aside0.mk (Kd.Q_below (by (with_reducible repeat (first | apply Kd.Q_alloc | apply Kd.Q_drewN | apply Kd.Q_drew)); exact HO_43.out) hb); have n1_ := Aside0.mk (rE (rQ HO_270002) (Kd.R_base ho0) hb); have n2_ := Aside0.mk (rB (rQ HO_270003) hb); have n3_ := Aside0.mk (rL (rW ho0 (rT (rQ HO_270002))) (bZ z_)); have n4_ := Aside0.mk (kB (kQ BK253) hb); have n5_ := Aside0.mk (kB (kQ BK269) hb); have n6_ := Aside0.mk (bP z_ hb); clear HO_43; clear HO_270002; clear HO_270003; clear BK253; clear BK269; clear HB; have HO_43 := n0_; have HO_270002 := n1_; have HO_270003 := n2_; have HO277 := n3_; have BK253 := n4_; have BK269 := n5_; have HB := n6_; clear z_ n0_ n1_ n2_ n3_ n4_ n5_ n6_; (try clear hb); (try clear hb2); (try clear hk); (try clear hi); (try clear ho0); have hnb46 := NB253_269.out; have hnc46 := NB269_253.out; obtain ⟨hcz47_0, hcz47_1, hcz47_2, hcz47_3⟩ := cZ4 BK253.out; obtain ⟨hfz47_0, hfz47_1, hfz47_2, hfz47_3⟩ := fZ4 BK253.out))
             refine bodyPost_ret (results_ct rfl _ _ gb253 31 #[.int .i64 0, .int .i64 0, .slice none 0 0, .slice none 0 0] (0, 0) _ rfl (by (with_reducible repeat (first | refine kN ?_ _ | refine kD ?_ | refine kA ?_ _)); refine blk_put (cs := #[.int .i64 0, .int .i64 0, .slice none 0 0, .slice none 0 0]) ?_ 3 _ rfl; (with_reducible repeat (first | refine kN ?_ _ | refine kD ?_ | refine kA ?_ _)); refine blk_put (cs := #[.int .i64 0, .int .i64 0, .slice none 0 0, .slice none 0 0]) ?_ 2 _ rfl; (with_reducible repeat (first | refine kN ?_ _ | refine kD ?_ | refine kA ?_ _)); refine blk_put (cs := #[.int .i64 0, .int .i64 x254001_1, .slice none 0 0, .slice none 0 0]) ?_ 1 _ rfl; (with_reducible repeat (first | refine kN ?_ _ | refine kD ?_ | refine kA ?_ _)); refine blk_put (cs := #[.int .i64 x254000_1, .int .i64 x254001_1, .slice none 0 0, .slice none 0 0]) ?_ 0 _ rfl; (with_reducible repeat (first | refine kN ?_ _ | refine kD ?_ | refine kA ?_ _)); exact BK253.out) Tryd.underlying31 rfl (by kernel_rfl)) rfl ?_
             exact ⟨_, _, by first | rfl | (simp [errW_none, errW_some] <;> rfl) | (simp [*, errW_none, errW_some] <;> rfl), by first | exact Kd.R_nil _ _ _ _ _ | exact Kd.N_nil _ _ _ _ _ | exact Kd.V_nil _ _ _ _ _ | exact Kd.Q_nil _ _ _ _ _ | exact Kd.S_nil _ _ _ _ _, by first | exact Kd.R_nil _ _ _ _ _ | exact Kd.N_nil _ _ _ _ _ | exact Kd.V_nil _ _ _ _ _ | exact Kd.Q_nil _ _ _ _ _ | exact Kd.S_nil _ _ _ _ _, by repeat (first | (with_reducible first | exact HB.out | apply bA | apply bN | apply bD | refine bS ?_ GE253.out | refine bS ?_ GE269.out) | exact HB.out)⟩
           ·rw [if_neg c32] at H
            exact absurd H (by simp)
          ·rw [if_neg c31] at H
           exact absurd H (by simp)
         ·rw [if_neg c30] at H
          have c30b0 : decide (x45_1 < (y270.length : Int)) = false := decide_eq_false c30
          clear c30
          by_cases c48 : t259 = true
          ·subst c48
           have H1 : (if t264 = true then ((impl_GrammarText.f k1 (rd t258 0) (rd t258 1) t263 x270003_1).bind fun t284 => (if t284.toList = a0.toList then (some ((rd t258 0), (rd t258 1), t263, x270003_1, true)) else (some (0, 0, ([] : List Int), ([] : List (S63)), false)))) else (some (0, 0, ([] : List Int), ([] : List (S63)), false))) = some (r1, r2, r3, r4, r5) := by rw [if_pos rfl] at H; exact H
           clear H
           have H := H1
           clear H1
           by_cases c49 : t264 = true
           ·subst c49
            have H1 : ((impl_GrammarText.f k1 (rd t258 0) (rd t258 1) t263 x270003_1).bind fun t284 => (if t284.toList = a0.toList then (some ((rd t258 0), (rd t258 1), t263, x270003_1, true)) else (some (0, 0, ([] : List Int), ([] : List (S63)), false)))) = some (r1, r2, r3, r4, r5) := by rw [if_pos rfl] at H; exact H
            clear H
            have H := H1
            clear H1
            replace H := Option.bind_eq_some_iff.mp H
            obtain ⟨t284, A500, H⟩ := H
            replace H : (if t284.toList = a0.toList then (some ((rd t258 0), (rd t258 1), t263, x270003_1, true)) else (some (0, 0, ([] : List Int), ([] : List (S63)), false))) = some (r1, r2, r3, r4, r5) := H
            have A50 := Aside0.mk A500
            clear A500
            by_cases c51 : t284.toList = a0.toList
            ·rw [if_pos c51] at H
             have c51b0 : (t284.toList == a0.toList) = true := beq_iff_eq.mpr c51
             have c51b1 : (t284.toList != a0.toList) = false := bne_eq_false_iff_eq.mpr c51
             clear c51
             simp only [Option.some.injEq, Prod.mk.injEq] at H
             obtain ⟨rfl, rfl, rfl, rfl, rfl⟩ := H
             have hnb52 := NB269_253.out
             have hnc52 := NB253_269.out
             obtain ⟨hcz53_0, hcz53_1, hcz53_2, hcz53_3⟩ := cZ4 BK269.out
             obtain ⟨hfz53_0, hfz53_1, hfz53_2, hfz53_3⟩ := fZ4 BK269.out
             obtain ⟨Ao54, co54, eo54⟩ := Kd.R_slice HO_270003.out
             subst eo54
             go_wp2_with (first | (go_at_call 21; (with_reducible refine (impl_GrammarText.calls k1 (rd t258 0) (rd t258 1) _ _ t263 _ _ x270003_1 t284 _ ?side1 ?side2 ?side3 ?side4 (by first | exact hT | exact TabR.below hT HB.out | exact TabR.below hT (by repeat (first | (with_reducible first | exact HB.out | apply bA | apply bN | apply bD | refine bS ?_ GE253.out | refine bS ?_ GE269.out) | exact HB.out)) | exact TabR.below hT (Below.refl _ _)) A50.out).mono ?_); (case side1 => exact cP (Kd.R_reads' HO_270002.out).2.2); (case side2 => exact (Kd.R_reads' HO_270002.out).2.1); (case side3 => exact cP (Kd.R_reads' HO_270003.out).2.2); (case side4 => exact (Kd.R_reads' HO_270003.out).2.1); rintro e w55 ⟨rfl, hb⟩; have n0_ := Aside0.mk (Kd.Q_below (by (with_reducible repeat (first | apply Kd.Q_alloc | apply Kd.Q_drewN | apply Kd.Q_drew)); exact HO_43.out) hb); have n1_ := Aside0.mk (rB (rQ HO_270002) hb); have n2_ := Aside0.mk (rB (rQ HO_270003) hb); have n3_ := Aside0.mk (kB (kQ BK253) hb); have n4_ := Aside0.mk (kB (kQ BK269) hb); have n5_ := Aside0.mk (bP (by repeat (first | (with_reducible first | exact HB.out | apply bA | apply bN | apply bD | refine bS ?_ GE253.out | refine bS ?_ GE269.out) | exact HB.out)) hb); clear HO_43; clear HO_270002; clear HO_270003; clear BK253; clear BK269; clear HB; have HO_43 := n0_; have HO_270002 := n1_; have HO_270003 := n2_; have BK253 := n3_; have BK269 := n4_; have HB := n5_; clear n0_ n1_ n2_ n3_ n4_ n5_; (try clear hb); (try clear hb2); (try clear hk); (try clear hi); obtain ⟨hcz56_0, hcz56_1, hcz56_2, hcz56_3⟩ := cZ4 BK269.out; obtain ⟨hfz56_0, hfz56_1, hfz56_2, hfz56_3⟩ := fZ4 BK269.out; obtain ⟨hcz57_0, hcz57_1, hcz57_2, hcz57_3⟩ := cZ4 BK253.out; obtain ⟨hfz57_0, hfz57_1, hfz57_2, hfz57_3⟩ := fZ4 BK253.out))
             refine bodyPost_ret (results_ct rfl _ _ gb253 31 #[.int .i64 (rd t258 0), .int .i64 (rd t258 1), .slice Ao22 t263.length co22, .slice Ao54 x270003_1.length co54] (0, 0) _ rfl (by (with_reducible repeat (first | refine kN ?_ _ | refine kD ?_ | refine kA ?_ _)); refine blk_put (cs := #[.int .i64 (rd t258 0), .int .i64 (rd t258 1), .slice Ao22 t263.length co22, .slice none 0 0]) ?_ 3 _ rfl; (with_reducible repeat (first | refine kN ?_ _ | refine kD ?_ | refine kA ?_ _)); refine blk_put (cs := #[.int .i64 (rd t258 0), .int .i64 (rd t258 1), .slice none 0 0, .slice none 0 0]) ?_ 2 _ rfl; (with_reducible repeat (first | refine kN ?_ _ | refine kD ?_ | refine kA ?_ _)); refine blk_put (cs := #[.int .i64 (rd t258 0), .int .i64 x254001_1, .slice none 0 0, .slice none 0 0]) ?_ 1 _ rfl; (with_reducible repeat (first | refine kN ?_ _ | refine kD ?_ | refine kA ?_ _)); refine blk_put (cs := #[.int .i64 x254000_1, .int .i64 x254001_1, .slice none 0 0, .slice none 0 0]) ?_ 0 _ rfl; (with_reducible repeat (first | refine kN ?_ _ | refine kD ?_ | refine kA ?_ _)); exact BK253.out) Tryd.underlying31 rfl (by kernel_rfl)) rfl ?_
             exact ⟨_, _, by first | rfl | (simp [errW_none, errW_some] <;> rfl) | (simp [*, errW_none, errW_some] <;> rfl), by (with_reducible repeat (first | apply rA | apply rN | apply rD)); exact rM (Kd.R_far (p := ⟨gb253, 3, none⟩) (Kd.R_far (p := ⟨gb253, 2, none⟩) (Kd.R_far (p := ⟨gb253, 1, none⟩) (Kd.R_far (p := ⟨gb253, 0, none⟩) (Kd.R_types HO_270002.out BK253.out (by decide)) (fun _ hk => hk.2) (.int .i64 (rd t258 0))) (fun _ hk => hk.2) (.int .i64 (rd t258 1))) (fun _ hk => hk.2) (.slice Ao22 t263.length co22)) (fun _ hk => hk.2) (.slice Ao54 x270003_1.length co54)) (fun _ hk => trivial), by (with_reducible repeat (first | apply rA | apply rN | apply rD)); exact rM (Kd.R_far (p := ⟨gb253, 3, none⟩) (Kd.R_far (p := ⟨gb253, 2, none⟩) (Kd.R_far (p := ⟨gb253, 1, none⟩) (Kd.R_far (p := ⟨gb253, 0, none⟩) (Kd.R_types HO_270003.out BK253.out (by decide)) (fun _ hk => hk.2) (.int .i64 (rd t258 0))) (fun _ hk => hk.2) (.int .i64 (rd t258 1))) (fun _ hk => hk.2) (.slice Ao22 t263.length co22)) (fun _ hk => hk.2) (.slice Ao54 x270003_1.length co54)) (fun _ hk => trivial), by repeat (first | (with_reducible first | exact HB.out | apply bA | apply bN | apply bD | refine bS ?_ GE253.out | refine bS ?_ GE269.out) | exact HB.out)⟩
            ·rw [if_neg c51] at H
             have c51b0 : (t284.toList == a0.toList) = false := beq_eq_false_iff_ne.mpr c51
             have c51b1 : (t284.toList != a0.toList) = true := bne_iff_ne.mpr c51
             simp only [Option.some.injEq, Prod.mk.injEq] at H
             obtain ⟨rfl, rfl, rfl, rfl, rfl⟩ := H
             have hnb58 := NB269_253.out
             have hnc58 := NB253_269.out
             obtain ⟨hcz59_0, hcz59_1, hcz59_2, hcz59_3⟩ := cZ4 BK269.out
             obtain ⟨hfz59_0, hfz59_1, hfz59_2, hfz59_3⟩ := fZ4 BK269.out
             obtain ⟨Ao60, co60, eo60⟩ := Kd.R_slice HO_270003.out
             subst eo60
             go_wp2_with (first | (go_at_call 21; (with_reducible refine (impl_GrammarText.calls k1 (rd t258 0) (rd t258 1) _ _ t263 _ _ x270003_1 t284 _ ?side1 ?side2 ?side3 ?side4 (by first | exact hT | exact TabR.below hT HB.out | exact TabR.below hT (by repeat (first | (with_reducible first | exact HB.out | apply bA | apply bN | apply bD | refine bS ?_ GE253.out | refine bS ?_ GE269.out) | exact HB.out)) | exact TabR.below hT (Below.refl _ _)) A50.out).mono ?_); (case side1 => exact cP (Kd.R_reads' HO_270002.out).2.2); (case side2 => exact (Kd.R_reads' HO_270002.out).2.1); (case side3 => exact cP (Kd.R_reads' HO_270003.out).2.2); (case side4 => exact (Kd.R_reads' HO_270003.out).2.1); rintro e w61 ⟨rfl, hb⟩; have n0_ := Aside0.mk (Kd.Q_below (by (with_reducible repeat (first | apply Kd.Q_alloc | apply Kd.Q_drewN | apply Kd.Q_drew)); exact HO_43.out) hb); have n1_ := Aside0.mk (rB (rQ HO_270002) hb); have n2_ := Aside0.mk (rB (rQ HO_270003) hb); have n3_ := Aside0.mk (kB (kQ BK253) hb); have n4_ := Aside0.mk (kB (kQ BK269) hb); have n5_ := Aside0.mk (bP (by repeat (first | (with_reducible first | exact HB.out | apply bA | apply bN | apply bD | refine bS ?_ GE253.out | refine bS ?_ GE269.out) | exact HB.out)) hb); clear HO_43; clear HO_270002; clear HO_270003; clear BK253; clear BK269; clear HB; have HO_43 := n0_; have HO_270002 := n1_; have HO_270003 := n2_; have BK253 := n3_; have BK269 := n4_; have HB := n5_; clear n0_ n1_ n2_ n3_ n4_ n5_; (try clear hb); (try clear hb2); (try clear hk); (try clear hi); obtain ⟨hcz62_0, hcz62_1, hcz62_2, hcz62_3⟩ := cZ4 BK253.out; obtain ⟨hfz62_0, hfz62_1, hfz62_2, hfz62_3⟩ := fZ4 BK253.out))
             refine bodyPost_ret (results_ct rfl _ _ gb253 31 #[.int .i64 0, .int .i64 0, .slice none 0 0, .slice none 0 0] (0, 0) _ rfl (by (with_reducible repeat (first | refine kN ?_ _ | refine kD ?_ | refine kA ?_ _)); refine blk_put (cs := #[.int .i64 0, .int .i64 0, .slice none 0 0, .slice none 0 0]) ?_ 3 _ rfl; (with_reducible repeat (first | refine kN ?_ _ | refine kD ?_ | refine kA ?_ _)); refine blk_put (cs := #[.int .i64 0, .int .i64 0, .slice none 0 0, .slice none 0 0]) ?_ 2 _ rfl; (with_reducible repeat (first | refine kN ?_ _ | refine kD ?_ | refine kA ?_ _)); refine blk_put (cs := #[.int .i64 0, .int .i64 x254001_1, .slice none 0 0, .slice none 0 0]) ?_ 1 _ rfl; (with_reducible repeat (first | refine kN ?_ _ | refine kD ?_ | refine kA ?_ _)); refine blk_put (cs := #[.int .i64 x254000_1, .int .i64 x254001_1, .slice none 0 0, .slice none 0 0]) ?_ 0 _ rfl; (with_reducible repeat (first | refine kN ?_ _ | refine kD ?_ | refine kA ?_ _)); exact BK253.out) Tryd.underlying31 rfl (by kernel_rfl)) rfl ?_
             exact ⟨_, _, by first | rfl | (simp [errW_none, errW_some] <;> rfl) | (simp [*, errW_none, errW_some] <;> rfl), by first | exact Kd.R_nil _ _ _ _ _ | exact Kd.N_nil _ _ _ _ _ | exact Kd.V_nil _ _ _ _ _ | exact Kd.Q_nil _ _ _ _ _ | exact Kd.S_nil _ _ _ _ _, by first | exact Kd.R_nil _ _ _ _ _ | exact Kd.N_nil _ _ _ _ _ | exact Kd.V_nil _ _ _ _ _ | exact Kd.Q_nil _ _ _ _ _ | exact Kd.S_nil _ _ _ _ _, by repeat (first | (with_reducible first | exact HB.out | apply bA | apply bN | apply bD | refine bS ?_ GE253.out | refine bS ?_ GE269.out) | exact HB.out)⟩
           ·replace c49 := Bool.eq_false_iff.mpr c49
            subst c49
            have H1 : (some (0, 0, ([] : List Int), ([] : List (S63)), false)) = some (r1, r2, r3, r4, r5) := by rw [if_neg (show ¬ (false = true) by decide)] at H; exact H
            clear H
            have H := H1
            clear H1
            simp only [Option.some.injEq, Prod.mk.injEq] at H
            obtain ⟨rfl, rfl, rfl, rfl, rfl⟩ := H
            have hnb63 := NB253_269.out
            have hnc63 := NB269_253.out
            obtain ⟨hcz64_0, hcz64_1, hcz64_2, hcz64_3⟩ := cZ4 BK253.out
            obtain ⟨hfz64_0, hfz64_1, hfz64_2, hfz64_3⟩ := fZ4 BK253.out
            go_wp2
            refine bodyPost_ret (results_ct rfl _ _ gb253 31 #[.int .i64 0, .int .i64 0, .slice none 0 0, .slice none 0 0] (0, 0) _ rfl (by (with_reducible repeat (first | refine kN ?_ _ | refine kD ?_ | refine kA ?_ _)); refine blk_put (cs := #[.int .i64 0, .int .i64 0, .slice none 0 0, .slice none 0 0]) ?_ 3 _ rfl; (with_reducible repeat (first | refine kN ?_ _ | refine kD ?_ | refine kA ?_ _)); refine blk_put (cs := #[.int .i64 0, .int .i64 0, .slice none 0 0, .slice none 0 0]) ?_ 2 _ rfl; (with_reducible repeat (first | refine kN ?_ _ | refine kD ?_ | refine kA ?_ _)); refine blk_put (cs := #[.int .i64 0, .int .i64 x254001_1, .slice none 0 0, .slice none 0 0]) ?_ 1 _ rfl; (with_reducible repeat (first | refine kN ?_ _ | refine kD ?_ | refine kA ?_ _)); refine blk_put (cs := #[.int .i64 x254000_1, .int .i64 x254001_1, .slice none 0 0, .slice none 0 0]) ?_ 0 _ rfl; (with_reducible repeat (first | refine kN ?_ _ | refine kD ?_ | refine kA ?_ _)); exact BK253.out) Tryd.underlying31 rfl (by kernel_rfl)) rfl ?_
            exact ⟨_, _, by first | rfl | (simp [errW_none, errW_some] <;> rfl) | (simp [*, errW_none, errW_some] <;> rfl), by first | exact Kd.R_nil _ _ _ _ _ | exact Kd.N_nil _ _ _ _ _ | exact Kd.V_nil _ _ _ _ _ | exact Kd.Q_nil _ _ _ _ _ | exact Kd.S_nil _ _ _ _ _, by first | exact Kd.R_nil _ _ _ _ _ | exact Kd.N_nil _ _ _ _ _ | exact Kd.V_nil _ _ _ _ _ | exact Kd.Q_nil _ _ _ _ _ | exact Kd.S_nil _ _ _ _ _, by repeat (first | (with_reducible first | exact HB.out | apply bA | apply bN | apply bD | refine bS ?_ GE253.out | refine bS ?_ GE269.out) | exact HB.out)⟩
          ·replace c48 := Bool.eq_false_iff.mpr c48
           subst c48
           have H1 : (some (0, 0, ([] : List Int), ([] : List (S63)), false)) = some (r1, r2, r3, r4, r5) := by rw [if_neg (show ¬ (false = true) by decide)] at H; exact H
           clear H
           have H := H1
           clear H1
           simp only [Option.some.injEq, Prod.mk.injEq] at H
           obtain ⟨rfl, rfl, rfl, rfl, rfl⟩ := H
           have hnb65 := NB253_269.out
           have hnc65 := NB269_253.out
           obtain ⟨hcz66_0, hcz66_1, hcz66_2, hcz66_3⟩ := cZ4 BK253.out
           obtain ⟨hfz66_0, hfz66_1, hfz66_2, hfz66_3⟩ := fZ4 BK253.out
           go_wp2
           refine bodyPost_ret (results_ct rfl _ _ gb253 31 #[.int .i64 0, .int .i64 0, .slice none 0 0, .slice none 0 0] (0, 0) _ rfl (by (with_reducible repeat (first | refine kN ?_ _ | refine kD ?_ | refine kA ?_ _)); refine blk_put (cs := #[.int .i64 0, .int .i64 0, .slice none 0 0, .slice none 0 0]) ?_ 3 _ rfl; (with_reducible repeat (first | refine kN ?_ _ | refine kD ?_ | refine kA ?_ _)); refine blk_put (cs := #[.int .i64 0, .int .i64 0, .slice none 0 0, .slice none 0 0]) ?_ 2 _ rfl; (with_reducible repeat (first | refine kN ?_ _ | refine kD ?_ | refine kA ?_ _)); refine blk_put (cs := #[.int .i64 0, .int .i64 x254001_1, .slice none 0 0, .slice none 0 0]) ?_ 1 _ rfl; (with_reducible repeat (first | refine kN ?_ _ | refine kD ?_ | refine kA ?_ _)); refine blk_put (cs := #[.int .i64 x254000_1, .int .i64 x254001_1, .slice none 0 0, .slice none 0 0]) ?_ 0 _ rfl; (with_reducible repeat (first | refine kN ?_ _ | refine kD ?_ | refine kA ?_ _)); exact BK253.out) Tryd.underlying31 rfl (by kernel_rfl)) rfl ?_
           exact ⟨_, _, by first | rfl | (simp [errW_none, errW_some] <;> rfl) | (simp [*, errW_none, errW_some] <;> rfl), by first | exact Kd.R_nil _ _ _ _ _ | exact Kd.N_nil _ _ _ _ _ | exact Kd.V_nil _ _ _ _ _ | exact Kd.Q_nil _ _ _ _ _ | exact Kd.S_nil _ _ _ _ _, by first | exact Kd.R_nil _ _ _ _ _ | exact Kd.N_nil _ _ _ _ _ | exact Kd.V_nil _ _ _ _ _ | exact Kd.Q_nil _ _ _ _ _ | exact Kd.S_nil _ _ _ _ _, by repeat (first | (with_reducible first | exact HB.out | apply bA | apply bN | apply bD | refine bS ?_ GE253.out | refine bS ?_ GE269.out) | exact HB.out)⟩
      ·rw [if_neg c14] at H
       exact absurd H (by simp)
     ·rw [if_neg c13] at H
      exact absurd H (by simp)
    ·rw [if_neg c12] at H
     exact absurd H (by simp)
   ·rw [if_neg c10] at H
    exact absurd H (by simp)
  ·rw [if_neg c8] at H
   exact absurd H (by simp)

end Go.Proofs.YtlmeijlandogaaaDoor.R
-- shrunk
-- tight
-- tight2
-- tight3
