/- What functions of the given program compute, as plain Lean functions, and that the code comes to just that; by a program of this session over the kit's print. No condition. -/
import Derived.Test.YteljnbhbpidjpaaTight
import Derived.Test.YteljnbhbpidjpaaGx0
import Derived.Test.YteljnbhbpidjpaaGx10
import Derived.Test.YteljnbhbpidjpaaGx11
namespace Go.Proofs.Yteljnbhbpidjpaa.G
open Go.RowKit Go.Proofs.YteljnbhbpidjpaaW.PrintWords Go.Proofs.YteljnbhbpidjpaaW.PrintLast Go.Proofs.YteljnbhbpidjpaaW.PrintMore
open Go.Proofs.YteljnbhbpidjpaaW.PrintWords renaming below_alloc → bA, pw_below_drewN → bN, below_drew1 → bD, below_set → bS, blk_drewN → kN, blk_drew → kD, blk_alloc → kA, blk_below → kB, below_size → bZ, below_step → bP, blk_far → kF, blk_lt → kL, gate_callee → gC, box_event → bE, blk_cell → kC
open Go.Proofs.YteljnbhbpidjpaaW.PrintLast renaming take_ofW → tW, any_of → aO, one_of → oO, i64_w → iW, i32_w → jW
open Go.Proofs.YteljnbhbpidjpaaW.PrintWords.Kd renaming C_alloc → cA, C_drewN → cN, C_drew → cD, C_below → cB
open List renaming setIfInBounds_toArray → sI, set_cons_zero → sZ, set_cons_succ → sS
open Bool renaming true → T, false → F
attribute [local go_sem] max2_int min2_int max_two min_two max_three min_three max_four min_four   -- for this text's walks alone
set_option linter.unusedVariables false
set_option linter.unusedSimpArgs false

/-! ### impl_ValidGrammar: function 41 -/
mutual
def impl_ValidGrammar.j0 : Nat → Bool → Int → Int → List Int → List (S68) → Option (Bool)
 | 0, _, _, _, _, _ => none
 | k + 1, x36, x221000, x221001, x221002, x221003 => if x36 = true then (some false) else (impl_ValidGrammar.l0 k x221003 (x221003.length : Int) 0 x221000 x221001 x221002 x221003)
def impl_ValidGrammar.l0 : Nat → List (S68) → Int → Int → Int → Int → List Int → List (S68) → Option (Bool)
 | 0, _, _, _, _, _, _, _ => none
 | k + 1, x38, x39, x40, x221000, x221001, x221002, x221003 => if x40 < x39 then (if 0 ≤ x40 then (if x40 < (x38.length : Int) then ((impl_Grammar_hasState.f x221000 x221001 x221002 x221003 ((rd_T68 x38 x40).f0)).bind fun t227 => (if t227 = true then ((impl_Grammar_hasState.f x221000 x221001 x221002 x221003 ((rd_T68 x38 x40).f2)).bind fun t228 => (if t228 = true then ((impl_pitchOk.f ((rd_T68 x38 x40).f1)).bind fun t229 => (if t229 = true then (if x40 > 0 then (if 0 ≤ (wrap64 (x40 - 1)) then (if (wrap64 (x40 - 1)) < (x221003.length : Int) then ((impl_compareArcs.f k ((rd_T68 x221003 (wrap64 (x40 - 1))).f0) ((rd_T68 x221003 (wrap64 (x40 - 1))).f1) ((rd_T68 x221003 (wrap64 (x40 - 1))).f2) ((rd_T68 x38 x40).f0) ((rd_T68 x38 x40).f1) ((rd_T68 x38 x40).f2)).bind fun t231 => (if t231 ≥ 0 then (some false) else (impl_ValidGrammar.l0 k x38 x39 (wrap64 (x40 + 1)) x221000 x221001 x221002 x221003))) else (none)) else (none)) else (impl_ValidGrammar.l0 k x38 x39 (wrap64 (x40 + 1)) x221000 x221001 x221002 x221003)) else (some false))) else (some false))) else (some false))) else (none)) else (none)) else (some true)
end
def impl_ValidGrammar.f (k : Nat) (a0_0 : Int) (a0_1 : Int) (l0_2 : List Int) (l0_3 : List (S68)) : Option (Bool) := (impl_within.f a0_0 1 32).bind fun t221 => (if t221 = true then ((impl_Grammar_hasState.f a0_0 a0_1 l0_2 l0_3 a0_1).bind fun t222 => (if t222 = true then ((impl_increasing.f k l0_2).bind fun t223 => (if t223 = true then ((impl_allWithin.f l0_2 0 (wrap64 (a0_0 - 1))).bind fun t224 => (if t224 = true then (impl_ValidGrammar.j0 k (decide ((l0_3.length : Int) > 256)) a0_0 a0_1 l0_2 l0_3) else (impl_ValidGrammar.j0 k true a0_0 a0_1 l0_2 l0_3))) else (impl_ValidGrammar.j0 k true a0_0 a0_1 l0_2 l0_3))) else (impl_ValidGrammar.j0 k true a0_0 a0_1 l0_2 l0_3))) else (impl_ValidGrammar.j0 k true a0_0 a0_1 l0_2 l0_3))
theorem impl_ValidGrammar.mono_l : ∀ k, (∀ y0 y1 y2 y3 y4, LeO (impl_ValidGrammar.j0 k y0 y1 y2 y3 y4) (impl_ValidGrammar.j0 (k + 1) y0 y1 y2 y3 y4)) ∧ (∀ y0 y1 y2 y3 y4 y5 y6, LeO (impl_ValidGrammar.l0 k y0 y1 y2 y3 y4 y5 y6) (impl_ValidGrammar.l0 (k + 1) y0 y1 y2 y3 y4 y5 y6))
 | 0 => ⟨fun _ _ _ _ _ r h => by simp [impl_ValidGrammar.j0] at h, fun _ _ _ _ _ _ _ r h => by simp [impl_ValidGrammar.l0] at h⟩
 | k + 1 => by
  obtain ⟨ih0, ih1⟩ := impl_ValidGrammar.mono_l k
  refine ⟨?_, ?_⟩
  ·intro y0 y1 y2 y3 y4
   unfold impl_ValidGrammar.j0
   repeat' first
   | (with_reducible exact ih0 _ _ _ _ _)
   | (with_reducible exact ih1 _ _ _ _ _ _ _)
   | (with_reducible exact impl_compareArcs.mono _ _ _ _ _ _ _)
   | (with_reducible exact impl_increasing.mono _ _)
   | (with_reducible exact LeO.refl _)
   | (with_reducible exact LeO.none _)
   | (with_reducible refine LeO.ite ?_ ?_)
   | (with_reducible refine LeO.bind ?_ (fun _ => ?_))
   | exact ih0 _ _ _ _ _
   | exact ih1 _ _ _ _ _ _ _
   | exact impl_compareArcs.mono _ _ _ _ _ _ _
   | exact impl_increasing.mono _ _
   | exact LeO.none _
   | refine LeO.ite ?_ ?_
   | refine LeO.bind ?_ (fun _ => ?_)
  ·intro y0 y1 y2 y3 y4 y5 y6
   unfold impl_ValidGrammar.l0
   repeat' first
   | (with_reducible exact ih0 _ _ _ _ _)
   | (with_reducible exact ih1 _ _ _ _ _ _ _)
   | (with_reducible exact impl_compareArcs.mono _ _ _ _ _ _ _)
   | (with_reducible exact impl_increasing.mono _ _)
   | (with_reducible exact LeO.refl _)
   | (with_reducible exact LeO.none _)
   | (with_reducible refine LeO.ite ?_ ?_)
   | (with_reducible refine LeO.bind ?_ (fun _ => ?_))
   | exact ih0 _ _ _ _ _
   | exact ih1 _ _ _ _ _ _ _
   | exact impl_compareArcs.mono _ _ _ _ _ _ _
   | exact impl_increasing.mono _ _
   | exact LeO.none _
   | refine LeO.ite ?_ ?_
   | refine LeO.bind ?_ (fun _ => ?_)
theorem impl_ValidGrammar.mono : ∀ a0 a1 a2 a3 k, LeO (impl_ValidGrammar.f k a0 a1 a2 a3) (impl_ValidGrammar.f (k + 1) a0 a1 a2 a3) := by
 intro a0 a1 a2 a3 k
 obtain ⟨ih0, ih1⟩ := impl_ValidGrammar.mono_l k
 unfold impl_ValidGrammar.f
 repeat' first
   | (with_reducible exact ih0 _ _ _ _ _)
   | (with_reducible exact ih1 _ _ _ _ _ _ _)
   | (with_reducible exact impl_compareArcs.mono _ _ _ _ _ _ _)
   | (with_reducible exact impl_increasing.mono _ _)
   | (with_reducible exact LeO.refl _)
   | (with_reducible exact LeO.none _)
   | (with_reducible refine LeO.ite ?_ ?_)
   | (with_reducible refine LeO.bind ?_ (fun _ => ?_))
   | exact ih0 _ _ _ _ _
   | exact ih1 _ _ _ _ _ _ _
   | exact impl_compareArcs.mono _ _ _ _ _ _ _
   | exact impl_increasing.mono _ _
   | exact LeO.none _
   | refine LeO.ite ?_ ?_
   | refine LeO.bind ?_ (fun _ => ?_)
def impl_ValidGrammar.T6 : Bool × List (List Nat × List Nat) := (true, [([], []), ([], []), ([1], [1]), ([0, 2], [0, 2]), ([3], [3]), ([4, 3], [4]), ([5], [5]), ([5], [5]), ([7, 5], [5, 7]), ([6, 8, 5, 5], [5, 6, 8]), ([9, 5], [5, 9]), ([5, 10], [5, 10]), ([11, 9], [11]), ([12], [12]), ([13, 12], [12, 13]), ([14, 12, 12], [12, 14]), ([15, 12], [12, 15]), ([12, 16], [12, 16]), ([17, 15], [17]), ([18], [18]), ([19, 18], [18, 19]), ([20, 18, 18], [18, 20]), ([21], [21]), ([22, 21], [21, 22]), ([21], [21]), ([24, 21], [21, 24]), ([23, 25, 21], [21, 23, 25]), ([26, 21], [21, 26]), ([21], [21]), ([27, 28, 21, 21], [21, 27, 28]), ([29, 21], [21, 29]), ([21, 30, 18], [18, 21, 30]), ([18, 31], [18, 31])])
def impl_ValidGrammar.B6 : List Nat := [0, 0, 2, 7, 15, 31, 63, 63, 191, 511, 1023, 2047, 4095, 8191, 16383, 32767, 65535, 131071, 262143, 524287, 1048575, 2097151, 4194303, 8388607, 4194303, 20971519, 67108863, 134217727, 4194303, 536870911, 1073741823, 2147483647, 4294967295]
theorem impl_ValidGrammar.tab6 : rtab .any (opsOf Try.f41 6) = impl_ValidGrammar.T6 := by kernel_rfl
theorem impl_ValidGrammar.bits6 : waitsOk impl_ValidGrammar.T6.2 impl_ValidGrammar.B6 = true := by kernel_rfl
set_option maxHeartbeats 8000000 in
set_option maxRecDepth 100000 in
theorem impl_ValidGrammar.calls (k : Nat) (a0_0 : Int) (a0_1 : Int) (A0_2 : Option Addr) (c0_2 : Nat) (l0_2 : List Int) (A0_3 : Option Addr) (c0_3 : Nat) (l0_3 : List (S68)) (r : Bool) (w : World) (hr0_2 : Kd.C (Kd.int .i64) w A0_2 l0_2.length l0_2) (hc0_2 : l0_2.length ≤ c0_2) (hr0_3 : Kd.C k68 w A0_3 l0_3.length l0_3) (hc0_3 : l0_3.length ≤ c0_3) (h : impl_ValidGrammar.f k a0_0 a0_1 l0_2 l0_3 = some r) :
  Calls Try.prog 41 #[.agg #[.int .i64 a0_0, .int .i64 a0_1, .slice A0_2 l0_2.length c0_2, .slice A0_3 l0_3.length c0_3]] w fun e w' => e = .returned (.bool r) ∧ Below w.heap.size w w' := by
 have hu39 := Try.underlying39
 have hu68 := Try.underlying68
 have HR0_2 := Aside0.mk hr0_2
 have HC0_2 := Aside0.mk hc0_2
 clear hr0_2 hc0_2
 have HR0_3 := Aside0.mk hr0_3
 have HC0_3 := Aside0.mk hc0_3
 clear hr0_3 hc0_3
 have HB := Aside0.mk (Below.refl w.heap.size w)
 have H : ((impl_within.f a0_0 1 32).bind fun t221 => (if t221 = true then ((impl_Grammar_hasState.f a0_0 a0_1 l0_2 l0_3 a0_1).bind fun t222 => (if t222 = true then ((impl_increasing.f k l0_2).bind fun t223 => (if t223 = true then ((impl_allWithin.f l0_2 0 (wrap64 (a0_0 - 1))).bind fun t224 => (if t224 = true then (impl_ValidGrammar.j0 k (decide ((l0_3.length : Int) > 256)) a0_0 a0_1 l0_2 l0_3) else (impl_ValidGrammar.j0 k true a0_0 a0_1 l0_2 l0_3))) else (impl_ValidGrammar.j0 k true a0_0 a0_1 l0_2 l0_3))) else (impl_ValidGrammar.j0 k true a0_0 a0_1 l0_2 l0_3))) else (impl_ValidGrammar.j0 k true a0_0 a0_1 l0_2 l0_3))) = some r := h
 clear h
 have HC2 := Aside0.mk H
 clear H
 go_enter Try.func41, Try.ntmps41
 go_upto_region 1 with (first | ((with_reducible refine gate_dst (N := 1) rfl ?_); (try (refine gate_guard (by rfl) ?_; dsimp only)); refine bE ?hg (N := 1) ?hd (cs := #[.int .i64 a0_0, .int .i64 a0_1, .slice A0_2 l0_2.length c0_2, .slice A0_3 l0_3.length c0_3]) (t := 39) ?hr ?_; (case hd => rfl); (case hg => rfl); (case hr => first | (go_simp; done) | (go_simp; rfl)); intro gb220 hg w3 hbox hb; have z_ := bX hb (hQ HB); have n0_ := Aside0.mk (bP z_ hb); have n1_ := Aside0.mk (hbox); have n2_ := Aside0.mk ((by rw [hg]; exact (bZ z_) : w.heap.size ≤ gb220)); have n3_ := Aside0.mk ((by rw [hg]; exact (bZ z_) : w.heap.size ≤ gb220)); clear HB; have HB := n0_; have BK220 := n1_; have GW220 := n2_; have GE220 := n3_; clear z_ n0_ n1_ n2_ n3_; clear hb hbox hg))
 (try simp only [Act.put, sI, sZ, sS])
 go_cut [36] (fun v36 wc => ∃ (kq : Nat) (x36_1 : Bool), v36 = .bool x36_1 ∧ Aside0 (impl_ValidGrammar.j0 kq x36_1 a0_0 a0_1 l0_2 l0_3 = some r) ∧ Aside0 (kq ≤ k) ∧ Aside0 (wc.heap[gb220]? = some (.cells #[.int .i64 a0_0, .int .i64 a0_1, (.slice A0_2 l0_2.length c0_2), (.slice A0_3 l0_3.length c0_3)] 39 (0, 0))) ∧ Aside0 (Below w.heap.size w wc))
 case first =>
  have H := HC2.out
  clear HC2
  replace H := Option.bind_eq_some_iff.mp H
  obtain ⟨t221, A40, H⟩ := H
  replace H : (if t221 = true then ((impl_Grammar_hasState.f a0_0 a0_1 l0_2 l0_3 a0_1).bind fun t222 => (if t222 = true then ((impl_increasing.f k l0_2).bind fun t223 => (if t223 = true then ((impl_allWithin.f l0_2 0 (wrap64 (a0_0 - 1))).bind fun t224 => (if t224 = true then (impl_ValidGrammar.j0 k (decide ((l0_3.length : Int) > 256)) a0_0 a0_1 l0_2 l0_3) else (impl_ValidGrammar.j0 k true a0_0 a0_1 l0_2 l0_3))) else (impl_ValidGrammar.j0 k true a0_0 a0_1 l0_2 l0_3))) else (impl_ValidGrammar.j0 k true a0_0 a0_1 l0_2 l0_3))) else (impl_ValidGrammar.j0 k true a0_0 a0_1 l0_2 l0_3)) = some r := H
  have A4 := Aside0.mk A40
  clear A40
  by_cases c5 : t221 = true
  ·subst c5
   have H1 : ((impl_Grammar_hasState.f a0_0 a0_1 l0_2 l0_3 a0_1).bind fun t222 => (if t222 = true then ((impl_increasing.f k l0_2).bind fun t223 => (if t223 = true then ((impl_allWithin.f l0_2 0 (wrap64 (a0_0 - 1))).bind fun t224 => (if t224 = true then (impl_ValidGrammar.j0 k (decide ((l0_3.length : Int) > 256)) a0_0 a0_1 l0_2 l0_3) else (impl_ValidGrammar.j0 k true a0_0 a0_1 l0_2 l0_3))) else (impl_ValidGrammar.j0 k true a0_0 a0_1 l0_2 l0_3))) else (impl_ValidGrammar.j0 k true a0_0 a0_1 l0_2 l0_3))) = some r := by rw [if_pos rfl] at H; exact H
   clear H
   have H := H1
   clear H1
   replace H := Option.bind_eq_some_iff.mp H
   obtain ⟨t222, A60, H⟩ := H
   replace H : (if t222 = true then ((impl_increasing.f k l0_2).bind fun t223 => (if t223 = true then ((impl_allWithin.f l0_2 0 (wrap64 (a0_0 - 1))).bind fun t224 => (if t224 = true then (impl_ValidGrammar.j0 k (decide ((l0_3.length : Int) > 256)) a0_0 a0_1 l0_2 l0_3) else (impl_ValidGrammar.j0 k true a0_0 a0_1 l0_2 l0_3))) else (impl_ValidGrammar.j0 k true a0_0 a0_1 l0_2 l0_3))) else (impl_ValidGrammar.j0 k true a0_0 a0_1 l0_2 l0_3)) = some r := H
   have A6 := Aside0.mk A60
   clear A60
   by_cases c7 : t222 = true
   ·subst c7
    have H1 : ((impl_increasing.f k l0_2).bind fun t223 => (if t223 = true then ((impl_allWithin.f l0_2 0 (wrap64 (a0_0 - 1))).bind fun t224 => (if t224 = true then (impl_ValidGrammar.j0 k (decide ((l0_3.length : Int) > 256)) a0_0 a0_1 l0_2 l0_3) else (impl_ValidGrammar.j0 k true a0_0 a0_1 l0_2 l0_3))) else (impl_ValidGrammar.j0 k true a0_0 a0_1 l0_2 l0_3))) = some r := by rw [if_pos rfl] at H; exact H
    clear H
    have H := H1
    clear H1
    replace H := Option.bind_eq_some_iff.mp H
    obtain ⟨t223, A80, H⟩ := H
    replace H : (if t223 = true then ((impl_allWithin.f l0_2 0 (wrap64 (a0_0 - 1))).bind fun t224 => (if t224 = true then (impl_ValidGrammar.j0 k (decide ((l0_3.length : Int) > 256)) a0_0 a0_1 l0_2 l0_3) else (impl_ValidGrammar.j0 k true a0_0 a0_1 l0_2 l0_3))) else (impl_ValidGrammar.j0 k true a0_0 a0_1 l0_2 l0_3)) = some r := H
    have A8 := Aside0.mk A80
    clear A80
    by_cases c9 : t223 = true
    ·subst c9
     have H1 : ((impl_allWithin.f l0_2 0 (wrap64 (a0_0 - 1))).bind fun t224 => (if t224 = true then (impl_ValidGrammar.j0 k (decide ((l0_3.length : Int) > 256)) a0_0 a0_1 l0_2 l0_3) else (impl_ValidGrammar.j0 k true a0_0 a0_1 l0_2 l0_3))) = some r := by rw [if_pos rfl] at H; exact H
     clear H
     have H := H1
     clear H1
     replace H := Option.bind_eq_some_iff.mp H
     obtain ⟨t224, A100, H⟩ := H
     replace H : (if t224 = true then (impl_ValidGrammar.j0 k (decide ((l0_3.length : Int) > 256)) a0_0 a0_1 l0_2 l0_3) else (impl_ValidGrammar.j0 k true a0_0 a0_1 l0_2 l0_3)) = some r := H
     have A10 := Aside0.mk A100
     clear A100
     by_cases c11 : t224 = true
     ·subst c11
      have H1 : (impl_ValidGrammar.j0 k (decide ((l0_3.length : Int) > 256)) a0_0 a0_1 l0_2 l0_3) = some r := by rw [if_pos rfl] at H; exact H
      clear H
      have H := H1
      clear H1
      have H' := Aside0.mk H
      clear H
      obtain ⟨hcz12_0, hcz12_1, hcz12_2, hcz12_3⟩ := cZ4 BK220.out
      obtain ⟨hfz12_0, hfz12_1, hfz12_2, hfz12_3⟩ := fZ4 BK220.out
      go_wp2_with (first | ((with_reducible refine gC (f := 55) rfl ?_); refine goesL_ (some 7) rfl rfl Try.func55 (by kernel_rfl) rfl #[.int .i64 a0_0, .int .i64 1, .int .i64 32] rfl lQ ?_; (with_reducible refine (impl_within.calls a0_0 1 32 true _ A4.out).mono ?_); rintro e w' ⟨rfl, ⟨nd, rfl⟩⟩; refine ⟨_, rfl, ?_⟩) | (go_at_call 59; (with_reducible refine (impl_Grammar_hasState.calls a0_0 a0_1 _ _ l0_2 _ _ l0_3 a0_1 true _ ?side1 ?side2 ?side3 ?side4 A6.out).mono ?_); (case side1 => repeat (first | exact (cB HR0_2.out (by repeat (first | (with_reducible first | exact HB.out | apply bA | apply bN | apply bD | refine bS ?_ GE220.out) | exact HB.out))) | (with_reducible refine cA ?_ _) | (with_reducible refine cN ?_ _) | (with_reducible refine cD ?_))); (case side2 => exact HC0_2.out); (case side3 => repeat (first | exact (cB HR0_3.out (by repeat (first | (with_reducible first | exact HB.out | apply bA | apply bN | apply bD | refine bS ?_ GE220.out) | exact HB.out))) | (with_reducible refine cA ?_ _) | (with_reducible refine cN ?_ _) | (with_reducible refine cD ?_))); (case side4 => exact HC0_3.out); rintro e w13 ⟨rfl, hb⟩; have n0_ := Aside0.mk (kB (kQ BK220) hb); have n1_ := Aside0.mk (bP (by repeat (first | (with_reducible first | exact HB.out | apply bA | apply bN | apply bD | refine bS ?_ GE220.out) | exact HB.out)) hb); clear BK220; clear HB; have BK220 := n0_; have HB := n1_; clear n0_ n1_; (try clear hb); (try clear hb2); (try clear hk); (try clear hi); obtain ⟨hcz14_0, hcz14_1, hcz14_2, hcz14_3⟩ := cZ4 BK220.out; obtain ⟨hfz14_0, hfz14_1, hfz14_2, hfz14_3⟩ := fZ4 BK220.out) | (go_at_call 60; (with_reducible refine (impl_increasing.calls k _ _ l0_2 true _ ?side1 ?side2 A8.out).mono ?_); (case side1 => exact cP (cB HR0_2.out HB.out)); (case side2 => exact HC0_2.out); rintro e w' ⟨rfl, ⟨nd, rfl⟩⟩) | (go_at_call 54; (with_reducible refine (impl_allWithin.calls _ _ l0_2 0 (wrap64 (a0_0 - 1)) true _ ?side1 ?side2 A10.out).mono ?_); (case side1 => repeat (first | exact (cB HR0_2.out (by repeat (first | (with_reducible first | exact HB.out | apply bA | apply bN | apply bD | refine bS ?_ GE220.out) | exact HB.out))) | (with_reducible refine cA ?_ _) | (with_reducible refine cN ?_ _) | (with_reducible refine cD ?_))); (case side2 => exact HC0_2.out); rintro e w15 ⟨rfl, hb⟩; have n0_ := Aside0.mk (kB (kQ BK220) hb); have n1_ := Aside0.mk (bP (by repeat (first | (with_reducible first | exact HB.out | apply bA | apply bN | apply bD | refine bS ?_ GE220.out) | exact HB.out)) hb); clear BK220; clear HB; have BK220 := n0_; have HB := n1_; clear n0_ n1_; (try clear hb); (try clear hb2); (try clear hk); (try clear hi); obtain ⟨hcz16_0, hcz16_1, hcz16_2, hcz16_3⟩ := cZ4 BK220.out; obtain ⟨hfz16_0, hfz16_1, hfz16_2, hfz16_3⟩ := fZ4 BK220.out))
      go_meet
      case rel => exact ⟨_, (decide ((l0_3.length : Int) > 256)), eT, H', ⟨by first | omega | exact Nat.le_refl _⟩, ⟨kQ BK220⟩, ⟨by repeat (first | (with_reducible first | exact HB.out | apply bA | apply bN | apply bD | refine bS ?_ GE220.out) | exact HB.out)⟩⟩
     ·replace c11 := Bool.eq_false_iff.mpr c11
      subst c11
      have H1 : (impl_ValidGrammar.j0 k true a0_0 a0_1 l0_2 l0_3) = some r := by rw [if_neg (show ¬ (false = true) by decide)] at H; exact H
      clear H
      have H := H1
      clear H1
      have H' := Aside0.mk H
      clear H
      obtain ⟨hcz17_0, hcz17_1, hcz17_2, hcz17_3⟩ := cZ4 BK220.out
      obtain ⟨hfz17_0, hfz17_1, hfz17_2, hfz17_3⟩ := fZ4 BK220.out
      go_wp2_with (first | ((with_reducible refine gC (f := 55) rfl ?_); refine goesL_ (some 7) rfl rfl Try.func55 (by kernel_rfl) rfl #[.int .i64 a0_0, .int .i64 1, .int .i64 32] rfl lQ ?_; (with_reducible refine (impl_within.calls a0_0 1 32 true _ A4.out).mono ?_); rintro e w' ⟨rfl, ⟨nd, rfl⟩⟩; refine ⟨_, rfl, ?_⟩) | (go_at_call 59; (with_reducible refine (impl_Grammar_hasState.calls a0_0 a0_1 _ _ l0_2 _ _ l0_3 a0_1 true _ ?side1 ?side2 ?side3 ?side4 A6.out).mono ?_); (case side1 => repeat (first | exact (cB HR0_2.out (by repeat (first | (with_reducible first | exact HB.out | apply bA | apply bN | apply bD | refine bS ?_ GE220.out) | exact HB.out))) | (with_reducible refine cA ?_ _) | (with_reducible refine cN ?_ _) | (with_reducible refine cD ?_))); (case side2 => exact HC0_2.out); (case side3 => repeat (first | exact (cB HR0_3.out (by repeat (first | (with_reducible first | exact HB.out | apply bA | apply bN | apply bD | refine bS ?_ GE220.out) | exact HB.out))) | (with_reducible refine cA ?_ _) | (with_reducible refine cN ?_ _) | (with_reducible refine cD ?_))); (case side4 => exact HC0_3.out); rintro e w18 ⟨rfl, hb⟩; have n0_ := Aside0.mk (kB (kQ BK220) hb); have n1_ := Aside0.mk (bP (by repeat (first | (with_reducible first | exact HB.out | apply bA | apply bN | apply bD | refine bS ?_ GE220.out) | exact HB.out)) hb); clear BK220; clear HB; have BK220 := n0_; have HB := n1_; clear n0_ n1_; (try clear hb); (try clear hb2); (try clear hk); (try clear hi); obtain ⟨hcz19_0, hcz19_1, hcz19_2, hcz19_3⟩ := cZ4 BK220.out; obtain ⟨hfz19_0, hfz19_1, hfz19_2, hfz19_3⟩ := fZ4 BK220.out) | (go_at_call 60; (with_reducible refine (impl_increasing.calls k _ _ l0_2 true _ ?side1 ?side2 A8.out).mono ?_); (case side1 => exact cP (cB HR0_2.out HB.out)); (case side2 => exact HC0_2.out); rintro e w' ⟨rfl, ⟨nd, rfl⟩⟩) | (go_at_call 54; (with_reducible refine (impl_allWithin.calls _ _ l0_2 0 (wrap64 (a0_0 - 1)) false _ ?side1 ?side2 A10.out).mono ?_); (case side1 => repeat (first | exact (cB HR0_2.out (by repeat (first | (with_reducible first | exact HB.out | apply bA | apply bN | apply bD | refine bS ?_ GE220.out) | exact HB.out))) | (with_reducible refine cA ?_ _) | (with_reducible refine cN ?_ _) | (with_reducible refine cD ?_))); (case side2 => exact HC0_2.out); rintro e w20 ⟨rfl, hb⟩; have n0_ := Aside0.mk (kB (kQ BK220) hb); have n1_ := Aside0.mk (bP (by repeat (first | (with_reducible first | exact HB.out | apply bA | apply bN | apply bD | refine bS ?_ GE220.out) | exact HB.out)) hb); clear BK220; clear HB; have BK220 := n0_; have HB := n1_; clear n0_ n1_; (try clear hb); (try clear hb2); (try clear hk); (try clear hi)))
      go_meet
      case rel => exact ⟨_, (true), eT, H', ⟨by first | omega | exact Nat.le_refl _⟩, ⟨kQ BK220⟩, ⟨by repeat (first | (with_reducible first | exact HB.out | apply bA | apply bN | apply bD | refine bS ?_ GE220.out) | exact HB.out)⟩⟩
    ·replace c9 := Bool.eq_false_iff.mpr c9
     subst c9
     have H1 : (impl_ValidGrammar.j0 k true a0_0 a0_1 l0_2 l0_3) = some r := by rw [if_neg (show ¬ (false = true) by decide)] at H; exact H
     clear H
     have H := H1
     clear H1
     have H' := Aside0.mk H
     clear H
     obtain ⟨hcz21_0, hcz21_1, hcz21_2, hcz21_3⟩ := cZ4 BK220.out
     obtain ⟨hfz21_0, hfz21_1, hfz21_2, hfz21_3⟩ := fZ4 BK220.out
     go_wp2_with (first | ((with_reducible refine gC (f := 55) rfl ?_); refine goesL_ (some 7) rfl rfl Try.func55 (by kernel_rfl) rfl #[.int .i64 a0_0, .int .i64 1, .int .i64 32] rfl lQ ?_; (with_reducible refine (impl_within.calls a0_0 1 32 true _ A4.out).mono ?_); rintro e w' ⟨rfl, ⟨nd, rfl⟩⟩; refine ⟨_, rfl, ?_⟩) | (go_at_call 59; (with_reducible refine (impl_Grammar_hasState.calls a0_0 a0_1 _ _ l0_2 _ _ l0_3 a0_1 true _ ?side1 ?side2 ?side3 ?side4 A6.out).mono ?_); (case side1 => repeat (first | exact (cB HR0_2.out (by repeat (first | (with_reducible first | exact HB.out | apply bA | apply bN | apply bD | refine bS ?_ GE220.out) | exact HB.out))) | (with_reducible refine cA ?_ _) | (with_reducible refine cN ?_ _) | (with_reducible refine cD ?_))); (case side2 => exact HC0_2.out); (case side3 => repeat (first | exact (cB HR0_3.out (by repeat (first | (with_reducible first | exact HB.out | apply bA | apply bN | apply bD | refine bS ?_ GE220.out) | exact HB.out))) | (with_reducible refine cA ?_ _) | (with_reducible refine cN ?_ _) | (with_reducible refine cD ?_))); (case side4 => exact HC0_3.out); rintro e w22 ⟨rfl, hb⟩; have n0_ := Aside0.mk (kB (kQ BK220) hb); have n1_ := Aside0.mk (bP (by repeat (first | (with_reducible first | exact HB.out | apply bA | apply bN | apply bD | refine bS ?_ GE220.out) | exact HB.out)) hb); clear BK220; clear HB; have BK220 := n0_; have HB := n1_; clear n0_ n1_; (try clear hb); (try clear hb2); (try clear hk); (try clear hi); obtain ⟨hcz23_0, hcz23_1, hcz23_2, hcz23_3⟩ := cZ4 BK220.out; obtain ⟨hfz23_0, hfz23_1, hfz23_2, hfz23_3⟩ := fZ4 BK220.out) | (go_at_call 60; (with_reducible refine (impl_increasing.calls k _ _ l0_2 false _ ?side1 ?side2 A8.out).mono ?_); (case side1 => exact cP (cB HR0_2.out HB.out)); (case side2 => exact HC0_2.out); rintro e w' ⟨rfl, ⟨nd, rfl⟩⟩))
     go_meet
     case rel => exact ⟨_, (true), eT, H', ⟨by first | omega | exact Nat.le_refl _⟩, ⟨kQ BK220⟩, ⟨by repeat (first | (with_reducible first | exact HB.out | apply bA | apply bN | apply bD | refine bS ?_ GE220.out) | exact HB.out)⟩⟩
   ·replace c7 := Bool.eq_false_iff.mpr c7
    subst c7
    have H1 : (impl_ValidGrammar.j0 k true a0_0 a0_1 l0_2 l0_3) = some r := by rw [if_neg (show ¬ (false = true) by decide)] at H; exact H
    clear H
    have H := H1
    clear H1
    have H' := Aside0.mk H
    clear H
    obtain ⟨hcz24_0, hcz24_1, hcz24_2, hcz24_3⟩ := cZ4 BK220.out
    obtain ⟨hfz24_0, hfz24_1, hfz24_2, hfz24_3⟩ := fZ4 BK220.out
    go_wp2_with (first | ((with_reducible refine gC (f := 55) rfl ?_); refine goesL_ (some 7) rfl rfl Try.func55 (by kernel_rfl) rfl #[.int .i64 a0_0, .int .i64 1, .int .i64 32] rfl lQ ?_; (with_reducible refine (impl_within.calls a0_0 1 32 true _ A4.out).mono ?_); rintro e w' ⟨rfl, ⟨nd, rfl⟩⟩; refine ⟨_, rfl, ?_⟩) | (go_at_call 59; (with_reducible refine (impl_Grammar_hasState.calls a0_0 a0_1 _ _ l0_2 _ _ l0_3 a0_1 false _ ?side1 ?side2 ?side3 ?side4 A6.out).mono ?_); (case side1 => repeat (first | exact (cB HR0_2.out (by repeat (first | (with_reducible first | exact HB.out | apply bA | apply bN | apply bD | refine bS ?_ GE220.out) | exact HB.out))) | (with_reducible refine cA ?_ _) | (with_reducible refine cN ?_ _) | (with_reducible refine cD ?_))); (case side2 => exact HC0_2.out); (case side3 => repeat (first | exact (cB HR0_3.out (by repeat (first | (with_reducible first | exact HB.out | apply bA | apply bN | apply bD | refine bS ?_ GE220.out) | exact HB.out))) | (with_reducible refine cA ?_ _) | (with_reducible refine cN ?_ _) | (with_reducible refine cD ?_))); (case side4 => exact HC0_3.out); rintro e w25 ⟨rfl, hb⟩; have n0_ := Aside0.mk (kB (kQ BK220) hb); have n1_ := Aside0.mk (bP (by repeat (first | (with_reducible first | exact HB.out | apply bA | apply bN | apply bD | refine bS ?_ GE220.out) | exact HB.out)) hb); clear BK220; clear HB; have BK220 := n0_; have HB := n1_; clear n0_ n1_; (try clear hb); (try clear hb2); (try clear hk); (try clear hi)))
    go_meet
    case rel => exact ⟨_, (true), eT, H', ⟨by first | omega | exact Nat.le_refl _⟩, ⟨kQ BK220⟩, ⟨by repeat (first | (with_reducible first | exact HB.out | apply bA | apply bN | apply bD | refine bS ?_ GE220.out) | exact HB.out)⟩⟩
  ·replace c5 := Bool.eq_false_iff.mpr c5
   subst c5
   have H1 : (impl_ValidGrammar.j0 k true a0_0 a0_1 l0_2 l0_3) = some r := by rw [if_neg (show ¬ (false = true) by decide)] at H; exact H
   clear H
   have H := H1
   clear H1
   have H' := Aside0.mk H
   clear H
   obtain ⟨hcz26_0, hcz26_1, hcz26_2, hcz26_3⟩ := cZ4 BK220.out
   obtain ⟨hfz26_0, hfz26_1, hfz26_2, hfz26_3⟩ := fZ4 BK220.out
   go_wp2_with (first | ((with_reducible refine gC (f := 55) rfl ?_); refine goesL_ (some 7) rfl rfl Try.func55 (by kernel_rfl) rfl #[.int .i64 a0_0, .int .i64 1, .int .i64 32] rfl lQ ?_; (with_reducible refine (impl_within.calls a0_0 1 32 false _ A4.out).mono ?_); rintro e w' ⟨rfl, ⟨nd, rfl⟩⟩; refine ⟨_, rfl, ?_⟩))
   go_meet
   case rel => exact ⟨_, (true), eT, H', ⟨by first | omega | exact Nat.le_refl _⟩, ⟨kQ BK220⟩, ⟨by repeat (first | (with_reducible first | exact HB.out | apply bA | apply bN | apply bD | refine bS ?_ GE220.out) | exact HB.out)⟩⟩
 case rest =>
  clear HC2
  try clear c1
  try clear p2
  try clear c4
  try clear c5
  try clear p6
  try clear c7
  try clear c9
  try clear c11
  try clear hcz12_0
  try clear hcz12_1
  try clear hcz12_2
  try clear hcz12_3
  try clear hcz14_0
  try clear hcz14_1
  try clear hcz14_2
  try clear hcz14_3
  try clear hcz16_0
  try clear hcz16_1
  try clear hcz16_2
  try clear hcz16_3
  try clear hcz17_0
  try clear hcz17_1
  try clear hcz17_2
  try clear hcz17_3
  try clear hcz19_0
  try clear hcz19_1
  try clear hcz19_2
  try clear hcz19_3
  try clear hcz21_0
  try clear hcz21_1
  try clear hcz21_2
  try clear hcz21_3
  try clear hcz23_0
  try clear hcz23_1
  try clear hcz23_2
  try clear hcz23_3
  try clear hcz24_0
  try clear hcz24_1
  try clear hcz24_2
  try clear hcz24_3
  try clear hcz26_0
  try clear hcz26_1
  try clear hcz26_2
  try clear hcz26_3
  try clear hfz12_0
  try clear hfz12_1
  try clear hfz12_2
  try clear hfz12_3
  try clear hfz14_0
  try clear hfz14_1
  try clear hfz14_2
  try clear hfz14_3
  try clear hfz16_0
  try clear hfz16_1
  try clear hfz16_2
  try clear hfz16_3
  try clear hfz17_0
  try clear hfz17_1
  try clear hfz17_2
  try clear hfz17_3
  try clear hfz19_0
  try clear hfz19_1
  try clear hfz19_2
  try clear hfz19_3
  try clear hfz21_0
  try clear hfz21_1
  try clear hfz21_2
  try clear hfz21_3
  try clear hfz23_0
  try clear hfz23_1
  try clear hfz23_2
  try clear hfz23_3
  try clear hfz24_0
  try clear hfz24_1
  try clear hfz24_2
  try clear hfz24_3
  try clear hfz26_0
  try clear hfz26_1
  try clear hfz26_2
  try clear hfz26_3
  obtain ⟨kq, x36_1, rfl, HA, HJ1, BK220, HB⟩ := hcut
  cases kq with
  | zero => exact absurd HA.out (by simp [impl_ValidGrammar.j0])
  | succ kj1 =>
   have H := HA.out
   clear HA
   simp only [impl_ValidGrammar.j0] at H
   by_cases c27 : x36_1 = true
   ·subst c27
    have H1 : (some false) = some r := by rw [if_pos rfl] at H; exact H
    clear H
    have H := H1
    clear H1
    obtain rfl := Option.some.inj H
    go_wp2
    go_ret
    exact ⟨by first | rfl | (simp [errW_none, errW_some] <;> rfl) | (simp [*, errW_none, errW_some] <;> rfl), by repeat (first | (with_reducible first | exact HB.out | apply bA | apply bN | apply bD | refine bS ?_ GE220.out) | exact HB.out)⟩
   ·replace c27 := Bool.eq_false_iff.mpr c27
    subst c27
    have H1 : (impl_ValidGrammar.l0 kj1 l0_3 (l0_3.length : Int) 0 a0_0 a0_1 l0_2 l0_3) = some r := by rw [if_neg (show ¬ (false = true) by decide)] at H; exact H
    clear H
    have H := H1
    clear H1
    have H' := Aside0.mk H
    clear H
    obtain ⟨hcz28_0, hcz28_1, hcz28_2, hcz28_3⟩ := cZ4 BK220.out
    obtain ⟨hfz28_0, hfz28_1, hfz28_2, hfz28_3⟩ := fZ4 BK220.out
    go_wp2
    go_loopg [40] kj1 (fun kq v40 w' => ∃ (x40_2 : Int), v40 = .int .i64 x40_2 ∧ Aside0 (impl_ValidGrammar.l0 kq l0_3 (l0_3.length : Int) x40_2 a0_0 a0_1 l0_2 l0_3 = some r) ∧ Aside0 (kq ≤ kj1) ∧ Aside0 (w'.heap[gb220]? = some (.cells #[.int .i64 a0_0, .int .i64 a0_1, (.slice A0_2 l0_2.length c0_2), (.slice A0_3 l0_3.length c0_3)] 39 (0, 0))) ∧ Aside0 (Below w.heap.size w w'))
    case atStart => exact ⟨(0), eT, H', ⟨Nat.le_refl _⟩, ⟨kQ BK220⟩, ⟨by repeat (first | (with_reducible first | exact HB.out | apply bA | apply bN | apply bD | refine bS ?_ GE220.out) | exact HB.out)⟩⟩
    case round =>
     clear H'
     try clear c1
     try clear c2
     try clear p2
     try clear c4
     try clear c5
     try clear p6
     try clear c7
     try clear c9
     try clear c11
     try clear c27
     try clear hcz12_0
     try clear hcz12_1
     try clear hcz12_2
     try clear hcz12_3
     try clear hcz14_0
     try clear hcz14_1
     try clear hcz14_2
     try clear hcz14_3
     try clear hcz16_0
     try clear hcz16_1
     try clear hcz16_2
     try clear hcz16_3
     try clear hcz17_0
     try clear hcz17_1
     try clear hcz17_2
     try clear hcz17_3
     try clear hcz19_0
     try clear hcz19_1
     try clear hcz19_2
     try clear hcz19_3
     try clear hcz21_0
     try clear hcz21_1
     try clear hcz21_2
     try clear hcz21_3
     try clear hcz23_0
     try clear hcz23_1
     try clear hcz23_2
     try clear hcz23_3
     try clear hcz24_0
     try clear hcz24_1
     try clear hcz24_2
     try clear hcz24_3
     try clear hcz26_0
     try clear hcz26_1
     try clear hcz26_2
     try clear hcz26_3
     try clear hcz28_0
     try clear hcz28_1
     try clear hcz28_2
     try clear hcz28_3
     try clear hfz12_0
     try clear hfz12_1
     try clear hfz12_2
     try clear hfz12_3
     try clear hfz14_0
     try clear hfz14_1
     try clear hfz14_2
     try clear hfz14_3
     try clear hfz16_0
     try clear hfz16_1
     try clear hfz16_2
     try clear hfz16_3
     try clear hfz17_0
     try clear hfz17_1
     try clear hfz17_2
     try clear hfz17_3
     try clear hfz19_0
     try clear hfz19_1
     try clear hfz19_2
     try clear hfz19_3
     try clear hfz21_0
     try clear hfz21_1
     try clear hfz21_2
     try clear hfz21_3
     try clear hfz23_0
     try clear hfz23_1
     try clear hfz23_2
     try clear hfz23_3
     try clear hfz24_0
     try clear hfz24_1
     try clear hfz24_2
     try clear hfz24_3
     try clear hfz26_0
     try clear hfz26_1
     try clear hfz26_2
     try clear hfz26_3
     try clear hfz28_0
     try clear hfz28_1
     try clear hfz28_2
     try clear hfz28_3
     try clear p2
     try clear p6
     obtain ⟨x40_2, rfl, HA, HK2, BK220, HB⟩ := hrel
     cases gk with
     | zero => exact absurd HA.out (by simp [impl_ValidGrammar.l0])
     | succ k2 =>
      have H := HA.out
      clear HA
      simp only [impl_ValidGrammar.l0] at H
      by_cases c29 : x40_2 < (l0_3.length : Int)
      ·rw [if_pos c29] at H
       have c29b0 : decide (x40_2 < (l0_3.length : Int)) = true := decide_eq_true c29
       clear c29
       by_cases c30 : 0 ≤ x40_2
       ·rw [if_pos c30] at H
        have c30b0 : decide (0 ≤ x40_2) = true := decide_eq_true c30
        clear c30
        by_cases c31 : x40_2 < (l0_3.length : Int)
        ·rw [if_pos c31] at H
         have c31b0 : decide (x40_2 < (l0_3.length : Int)) = true := decide_eq_true c31
         clear c31
         replace H := Option.bind_eq_some_iff.mp H
         obtain ⟨t227, A320, H⟩ := H
         replace H : (if t227 = true then ((impl_Grammar_hasState.f a0_0 a0_1 l0_2 l0_3 ((rd_T68 l0_3 x40_2).f2)).bind fun t228 => (if t228 = true then ((impl_pitchOk.f ((rd_T68 l0_3 x40_2).f1)).bind fun t229 => (if t229 = true then (if x40_2 > 0 then (if 0 ≤ (wrap64 (x40_2 - 1)) then (if (wrap64 (x40_2 - 1)) < (l0_3.length : Int) then ((impl_compareArcs.f k2 ((rd_T68 l0_3 (wrap64 (x40_2 - 1))).f0) ((rd_T68 l0_3 (wrap64 (x40_2 - 1))).f1) ((rd_T68 l0_3 (wrap64 (x40_2 - 1))).f2) ((rd_T68 l0_3 x40_2).f0) ((rd_T68 l0_3 x40_2).f1) ((rd_T68 l0_3 x40_2).f2)).bind fun t231 => (if t231 ≥ 0 then (some false) else (impl_ValidGrammar.l0 k2 l0_3 (l0_3.length : Int) (wrap64 (x40_2 + 1)) a0_0 a0_1 l0_2 l0_3))) else (none)) else (none)) else (impl_ValidGrammar.l0 k2 l0_3 (l0_3.length : Int) (wrap64 (x40_2 + 1)) a0_0 a0_1 l0_2 l0_3)) else (some false))) else (some false))) else (some false)) = some r := H
         have A32 := Aside0.mk A320
         clear A320
         by_cases c33 : t227 = true
         ·subst c33
          have H1 : ((impl_Grammar_hasState.f a0_0 a0_1 l0_2 l0_3 ((rd_T68 l0_3 x40_2).f2)).bind fun t228 => (if t228 = true then ((impl_pitchOk.f ((rd_T68 l0_3 x40_2).f1)).bind fun t229 => (if t229 = true then (if x40_2 > 0 then (if 0 ≤ (wrap64 (x40_2 - 1)) then (if (wrap64 (x40_2 - 1)) < (l0_3.length : Int) then ((impl_compareArcs.f k2 ((rd_T68 l0_3 (wrap64 (x40_2 - 1))).f0) ((rd_T68 l0_3 (wrap64 (x40_2 - 1))).f1) ((rd_T68 l0_3 (wrap64 (x40_2 - 1))).f2) ((rd_T68 l0_3 x40_2).f0) ((rd_T68 l0_3 x40_2).f1) ((rd_T68 l0_3 x40_2).f2)).bind fun t231 => (if t231 ≥ 0 then (some false) else (impl_ValidGrammar.l0 k2 l0_3 (l0_3.length : Int) (wrap64 (x40_2 + 1)) a0_0 a0_1 l0_2 l0_3))) else (none)) else (none)) else (impl_ValidGrammar.l0 k2 l0_3 (l0_3.length : Int) (wrap64 (x40_2 + 1)) a0_0 a0_1 l0_2 l0_3)) else (some false))) else (some false))) = some r := by rw [if_pos rfl] at H; exact H
          clear H
          have H := H1
          clear H1
          replace H := Option.bind_eq_some_iff.mp H
          obtain ⟨t228, A340, H⟩ := H
          replace H : (if t228 = true then ((impl_pitchOk.f ((rd_T68 l0_3 x40_2).f1)).bind fun t229 => (if t229 = true then (if x40_2 > 0 then (if 0 ≤ (wrap64 (x40_2 - 1)) then (if (wrap64 (x40_2 - 1)) < (l0_3.length : Int) then ((impl_compareArcs.f k2 ((rd_T68 l0_3 (wrap64 (x40_2 - 1))).f0) ((rd_T68 l0_3 (wrap64 (x40_2 - 1))).f1) ((rd_T68 l0_3 (wrap64 (x40_2 - 1))).f2) ((rd_T68 l0_3 x40_2).f0) ((rd_T68 l0_3 x40_2).f1) ((rd_T68 l0_3 x40_2).f2)).bind fun t231 => (if t231 ≥ 0 then (some false) else (impl_ValidGrammar.l0 k2 l0_3 (l0_3.length : Int) (wrap64 (x40_2 + 1)) a0_0 a0_1 l0_2 l0_3))) else (none)) else (none)) else (impl_ValidGrammar.l0 k2 l0_3 (l0_3.length : Int) (wrap64 (x40_2 + 1)) a0_0 a0_1 l0_2 l0_3)) else (some false))) else (some false)) = some r := H
          have A34 := Aside0.mk A340
          clear A340
          by_cases c35 : t228 = true
          ·subst c35
           have H1 : ((impl_pitchOk.f ((rd_T68 l0_3 x40_2).f1)).bind fun t229 => (if t229 = true then (if x40_2 > 0 then (if 0 ≤ (wrap64 (x40_2 - 1)) then (if (wrap64 (x40_2 - 1)) < (l0_3.length : Int) then ((impl_compareArcs.f k2 ((rd_T68 l0_3 (wrap64 (x40_2 - 1))).f0) ((rd_T68 l0_3 (wrap64 (x40_2 - 1))).f1) ((rd_T68 l0_3 (wrap64 (x40_2 - 1))).f2) ((rd_T68 l0_3 x40_2).f0) ((rd_T68 l0_3 x40_2).f1) ((rd_T68 l0_3 x40_2).f2)).bind fun t231 => (if t231 ≥ 0 then (some false) else (impl_ValidGrammar.l0 k2 l0_3 (l0_3.length : Int) (wrap64 (x40_2 + 1)) a0_0 a0_1 l0_2 l0_3))) else (none)) else (none)) else (impl_ValidGrammar.l0 k2 l0_3 (l0_3.length : Int) (wrap64 (x40_2 + 1)) a0_0 a0_1 l0_2 l0_3)) else (some false))) = some r := by rw [if_pos rfl] at H; exact H
           clear H
           have H := H1
           clear H1
           replace H := Option.bind_eq_some_iff.mp H
           obtain ⟨t229, A360, H⟩ := H
           replace H : (if t229 = true then (if x40_2 > 0 then (if 0 ≤ (wrap64 (x40_2 - 1)) then (if (wrap64 (x40_2 - 1)) < (l0_3.length : Int) then ((impl_compareArcs.f k2 ((rd_T68 l0_3 (wrap64 (x40_2 - 1))).f0) ((rd_T68 l0_3 (wrap64 (x40_2 - 1))).f1) ((rd_T68 l0_3 (wrap64 (x40_2 - 1))).f2) ((rd_T68 l0_3 x40_2).f0) ((rd_T68 l0_3 x40_2).f1) ((rd_T68 l0_3 x40_2).f2)).bind fun t231 => (if t231 ≥ 0 then (some false) else (impl_ValidGrammar.l0 k2 l0_3 (l0_3.length : Int) (wrap64 (x40_2 + 1)) a0_0 a0_1 l0_2 l0_3))) else (none)) else (none)) else (impl_ValidGrammar.l0 k2 l0_3 (l0_3.length : Int) (wrap64 (x40_2 + 1)) a0_0 a0_1 l0_2 l0_3)) else (some false)) = some r := H
           have A36 := Aside0.mk A360
           clear A360
           by_cases c37 : t229 = true
           ·subst c37
            have H1 : (if x40_2 > 0 then (if 0 ≤ (wrap64 (x40_2 - 1)) then (if (wrap64 (x40_2 - 1)) < (l0_3.length : Int) then ((impl_compareArcs.f k2 ((rd_T68 l0_3 (wrap64 (x40_2 - 1))).f0) ((rd_T68 l0_3 (wrap64 (x40_2 - 1))).f1) ((rd_T68 l0_3 (wrap64 (x40_2 - 1))).f2) ((rd_T68 l0_3 x40_2).f0) ((rd_T68 l0_3 x40_2).f1) ((rd_T68 l0_3 x40_2).f2)).bind fun t231 => (if t231 ≥ 0 then (some false) else (impl_ValidGrammar.l0 k2 l0_3 (l0_3.length : Int) (wrap64 (x40_2 + 1)) a0_0 a0_1 l0_2 l0_3))) else (none)) else (none)) else (impl_ValidGrammar.l0 k2 l0_3 (l0_3.length : Int) (wrap64 (x40_2 + 1)) a0_0 a0_1 l0_2 l0_3)) = some r := by rw [if_pos rfl] at H; exact H
            clear H
            have H := H1
            clear H1
            by_cases c38 : x40_2 > 0
            ·rw [if_pos c38] at H
             have c38b0 : decide (0 < x40_2) = true := decide_eq_true c38
             clear c38
             obtain ⟨ji39, hji39⟩ : ∃ j_ : Int, (wrap64 (x40_2 - 1)) = j_ := ⟨_, rfl⟩
             replace H : (if 0 ≤ (ji39) then (if (ji39) < (l0_3.length : Int) then ((impl_compareArcs.f k2 ((rd_T68 l0_3 (ji39)).f0) ((rd_T68 l0_3 (ji39)).f1) ((rd_T68 l0_3 (ji39)).f2) ((rd_T68 l0_3 x40_2).f0) ((rd_T68 l0_3 x40_2).f1) ((rd_T68 l0_3 x40_2).f2)).bind fun t231 => (if t231 ≥ 0 then (some false) else (impl_ValidGrammar.l0 k2 l0_3 (l0_3.length : Int) (wrap64 (x40_2 + 1)) a0_0 a0_1 l0_2 l0_3))) else (none)) else (none)) = some r := by first | (rw [hji39] at H; exact H) | (simp only [hji39] at H ⊢; exact H)
             (try rw [hji39] at A32)
             (try rw [hji39] at A34)
             (try rw [hji39] at A36)
             have hji39w : (IntKind.i64.wrap (x40_2 - 1)) = ji39 := (iW _).trans hji39
             by_cases c40 : 0 ≤ (ji39)
             ·rw [if_pos c40] at H
              have c40b0 : decide (0 ≤ (ji39)) = true := decide_eq_true c40
              clear c40
              by_cases c41 : (ji39) < (l0_3.length : Int)
              ·rw [if_pos c41] at H
               have c41b0 : decide ((ji39) < (l0_3.length : Int)) = true := decide_eq_true c41
               clear c41
               replace H := Option.bind_eq_some_iff.mp H
               obtain ⟨t231, A420, H⟩ := H
               replace H : (if t231 ≥ 0 then (some false) else (impl_ValidGrammar.l0 k2 l0_3 (l0_3.length : Int) (wrap64 (x40_2 + 1)) a0_0 a0_1 l0_2 l0_3)) = some r := H
               have A42 := Aside0.mk A420
               clear A420
               by_cases c43 : t231 ≥ 0
               ·rw [if_pos c43] at H
                have c43b0 : decide (0 ≤ t231) = true := decide_eq_true c43
                clear c43
                obtain rfl := Option.some.inj H
                have p225 : 0 ≤ (x40_2 : Int) := oT
                have q225 : x40_2 < (l0_3.length : Int) := oT
                obtain ⟨ad225, e225, hx225_0, hx225_1, hx225_2⟩ := at_T68 HR0_3.out x40_2 p225 q225
                cases e225
                replace hx225_0 := (HB.out.cell (World.block_lt_of_cell? w _ hx225_0)).trans hx225_0
                replace hx225_1 := (HB.out.cell (World.block_lt_of_cell? w _ hx225_1)).trans hx225_1
                replace hx225_2 := (HB.out.cell (World.block_lt_of_cell? w _ hx225_2)).trans hx225_2
                replace p225 := eq_true p225
                replace q225 := eq_true q225
                try go_wp2_with (first | ((with_reducible refine gate_dst (N := 4) rfl ?_); (try (refine gate_guard (by rfl) ?_; dsimp only)); refine bE ?hg (N := 4) ?hd (cs := #[.int .i64 0, .int .i64 0, .int .i64 0]) (t := 68) ?hr ?_; (case hd => rfl); (case hg => rfl); (case hr => first | (go_simp; done) | (go_simp; rfl)); intro gb226 hg w44 hbox hb; have z_ := bX hb (by repeat (first | (with_reducible first | exact HB.out | apply bA | apply bN | apply bD | refine bS ?_ GE220.out) | exact HB.out)); have n0_ := Aside0.mk (kB (kQ BK220) hb); have n1_ := Aside0.mk (bP z_ hb); have n2_ := Aside0.mk (hbox); have n3_ := Aside0.mk ((by rw [hg]; exact (bZ z_) : w.heap.size ≤ gb226)); have n4_ := Aside0.mk ((by rw [hg]; exact (bZ z_) : w.heap.size ≤ gb226)); have n5_ := Aside0.mk ((by rw [hg]; exact Nat.ne_of_lt (kL (kQ BK220)) : gb220 ≠ gb226)); have n6_ := Aside0.mk ((by rw [hg]; exact Nat.ne_of_gt (kL (kQ BK220)) : gb226 ≠ gb220)); clear BK220; clear HB; have BK220 := n0_; have HB := n1_; have BK226 := n2_; have GW226 := n3_; have GE226 := n4_; have NB220_226 := n5_; have NB226_220 := n6_; clear z_ n0_ n1_ n2_ n3_ n4_ n5_ n6_; clear hb hbox hg; have hnb45 := NB226_220.out; have hnc45 := NB220_226.out; obtain ⟨hcz46_0, hcz46_1, hcz46_2⟩ := cZ3 BK226.out; obtain ⟨hfz46_0, hfz46_1, hfz46_2⟩ := fZ3 BK226.out))
                have n0_ : Aside0 ((((w44.setCell ⟨gb226, 0, none⟩ (.int .i64 ((rd_T68 l0_3 x40_2).f0))).setCell ⟨gb226, 1, none⟩ (.int .i64 ((rd_T68 l0_3 x40_2).f1))).setCell ⟨gb226, 2, none⟩ (.int .i64 ((rd_T68 l0_3 x40_2).f2))).heap[gb220]? = some (.cells #[.int .i64 a0_0, .int .i64 a0_1, .slice A0_2 l0_2.length c0_2, .slice (some ad225) l0_3.length c0_3] 39 (0, 0))) := ⟨by (with_reducible repeat (first | refine kN ?_ _ | refine kD ?_ | refine kA ?_ _)); refine kF ?_ NB220_226.out _; (with_reducible repeat (first | refine kN ?_ _ | refine kD ?_ | refine kA ?_ _)); refine kF ?_ NB220_226.out _; (with_reducible repeat (first | refine kN ?_ _ | refine kD ?_ | refine kA ?_ _)); refine kF ?_ NB220_226.out _; (with_reducible repeat (first | refine kN ?_ _ | refine kD ?_ | refine kA ?_ _)); exact BK220.out⟩
                have n1_ : Aside0 ((((w44.setCell ⟨gb226, 0, none⟩ (.int .i64 ((rd_T68 l0_3 x40_2).f0))).setCell ⟨gb226, 1, none⟩ (.int .i64 ((rd_T68 l0_3 x40_2).f1))).setCell ⟨gb226, 2, none⟩ (.int .i64 ((rd_T68 l0_3 x40_2).f2))).heap[gb226]? = some (.cells #[.int .i64 ((rd_T68 l0_3 x40_2).f0), .int .i64 ((rd_T68 l0_3 x40_2).f1), .int .i64 ((rd_T68 l0_3 x40_2).f2)] 68 (0, 0))) := ⟨by (with_reducible repeat (first | refine kN ?_ _ | refine kD ?_ | refine kA ?_ _)); refine blk_put (cs := #[.int .i64 ((rd_T68 l0_3 x40_2).f0), .int .i64 ((rd_T68 l0_3 x40_2).f1), .int .i64 0]) ?_ 2 _ rfl; (with_reducible repeat (first | refine kN ?_ _ | refine kD ?_ | refine kA ?_ _)); refine blk_put (cs := #[.int .i64 ((rd_T68 l0_3 x40_2).f0), .int .i64 0, .int .i64 0]) ?_ 1 _ rfl; (with_reducible repeat (first | refine kN ?_ _ | refine kD ?_ | refine kA ?_ _)); refine blk_put (cs := #[.int .i64 0, .int .i64 0, .int .i64 0]) ?_ 0 _ rfl; (with_reducible repeat (first | refine kN ?_ _ | refine kD ?_ | refine kA ?_ _)); exact BK226.out⟩
                have n2_ : Aside0 (Below w.heap.size w (((w44.setCell ⟨gb226, 0, none⟩ (.int .i64 ((rd_T68 l0_3 x40_2).f0))).setCell ⟨gb226, 1, none⟩ (.int .i64 ((rd_T68 l0_3 x40_2).f1))).setCell ⟨gb226, 2, none⟩ (.int .i64 ((rd_T68 l0_3 x40_2).f2)))) := ⟨by repeat (first | (with_reducible first | exact HB.out | apply bA | apply bN | apply bD | refine bS ?_ GE220.out | refine bS ?_ GE226.out) | exact HB.out)⟩
                (try clear BK220)
                (try clear BK226)
                (try clear HB)
                generalize (((w44.setCell ⟨gb226, 0, none⟩ (.int .i64 ((rd_T68 l0_3 x40_2).f0))).setCell ⟨gb226, 1, none⟩ (.int .i64 ((rd_T68 l0_3 x40_2).f1))).setCell ⟨gb226, 2, none⟩ (.int .i64 ((rd_T68 l0_3 x40_2).f2))) = w47 at n0_ n1_ n2_ ⊢
                have BK220 := n0_
                have BK226 := n1_
                have HB := n2_
                clear n0_ n1_ n2_
                have n0_ := Aside0.mk (kD BK220.out)
                have n1_ := Aside0.mk (kD BK226.out)
                have n2_ := Aside0.mk (bD HB.out)
                clear BK220
                clear BK226
                clear HB
                have BK220 := n0_
                have BK226 := n1_
                have HB := n2_
                clear n0_ n1_ n2_
                have p230 : 0 ≤ ((ji39) : Int) := oT
                have q230 : (ji39) < (l0_3.length : Int) := oT
                obtain ⟨ad230, e230, hx230_0, hx230_1, hx230_2⟩ := at_T68 HR0_3.out (ji39) p230 q230
                have hw230_2 := hx230_2
                have hw230_1 := hx230_1
                have hw230_0 := hx230_0
                obtain rfl : ad225 = ad230 := (by injection e230)
                replace hx230_0 := (HB.out.cell (World.block_lt_of_cell? w _ hx230_0)).trans hx230_0
                replace hx230_1 := (HB.out.cell (World.block_lt_of_cell? w _ hx230_1)).trans hx230_1
                replace hx230_2 := (HB.out.cell (World.block_lt_of_cell? w _ hx230_2)).trans hx230_2
                replace p230 := eq_true p230
                replace q230 := eq_true q230
                refine start_ (n := 33) (S := fun w' => w'.cell? ⟨gb220, 0, none⟩ = some (.int .i64 a0_0) ∧ w'.cell? ⟨gb220, 1, none⟩ = some (.int .i64 a0_1) ∧ w'.cell? ⟨gb220, 2, none⟩ = some (.slice A0_2 l0_2.length c0_2) ∧ w'.cell? ⟨gb220, 3, none⟩ = some (.slice (some ad225) l0_3.length c0_3) ∧ w'.cell? ⟨gb226, 0, none⟩ = some (.int .i64 ((rd_T68 l0_3 x40_2).f0)) ∧ w'.cell? ⟨gb226, 1, none⟩ = some (.int .i64 ((rd_T68 l0_3 x40_2).f1)) ∧ w'.cell? ⟨gb226, 2, none⟩ = some (.int .i64 ((rd_T68 l0_3 x40_2).f2)) ∧ w'.cell? (ad225.add (((ji39)).toNat * 3)) = some (.int .i64 ((rd_T68 l0_3 (ji39)).f0)) ∧ w'.cell? ⟨(ad225.add (((ji39)).toNat * 3)).block, (ad225.add (((ji39)).toNat * 3)).off + 1, none⟩ = some (.int .i64 ((rd_T68 l0_3 (ji39)).f1)) ∧ w'.cell? ⟨(ad225.add (((ji39)).toNat * 3)).block, (ad225.add (((ji39)).toNat * 3)).off + 2, none⟩ = some (.int .i64 ((rd_T68 l0_3 (ji39)).f2))) (ds := []) #[F,F,F,F,F,F,F,F,F,F,F,F,F,F,F,F,F,F,F,F,F,F,F,F,F,F,F,F,F,F,F,F,F] (by kernel_rfl) rfl rfl ⟨(kC BK220.out 0).trans rfl, (kC BK220.out 1).trans rfl, (kC BK220.out 2).trans rfl, (kC BK220.out 3).trans rfl, (kC BK226.out 0).trans rfl, (kC BK226.out 1).trans rfl, (kC BK226.out 2).trans rfl, ((HB.out.cell (World.block_lt_of_cell? w _ hw230_0)).trans hw230_0), ((HB.out.cell (World.block_lt_of_cell? w _ hw230_1)).trans hw230_1), ((HB.out.cell (World.block_lt_of_cell? w _ hw230_2)).trans hw230_2)⟩ (fun hHeld => ?_); refine with_tabW impl_ValidGrammar.tab6 impl_ValidGrammar.bits6 (fun HT_ HW_ => ?_)
                generalize w47.drew = w48 at BK220 BK226 HB hx230_0 hx230_1 hx230_2 hHeld ⊢
                refine pure_ (i := 1) (N := some 46) (v := ?_) (a' := ?_) #[F,T,F,F,F,F,F,F,F,F,F,F,F,F,F,F,F,F,F,F,F,F,F,F,F,F,F,F,F,F,F,F,F] rfl rfl (aO HT_.out (by kernel_rfl)) (fun _ _ _ h => h) (Or.inl ⟨by rfl, ?_⟩) ?_ ?_; rotate_left; (·intro w'; go_simp; with_reducible rfl); rotate_left; (·simp only [Act.put, sI, sZ, sS, iW, jW]; rfl)
                refine take_ (i := 0) (N := some 45) (v := ?_) (a' := ?_) #[T,T,F,F,F,F,F,F,F,F,F,F,F,F,F,F,F,F,F,F,F,F,F,F,F,F,F,F,F,F,F,F,F] rfl rfl (tW HT_.out HW_.out (by kernel_rfl)) (fun _ _ _ h => h) (Or.inl ⟨by rfl, ?_⟩) hHeld ?_ ?_; rotate_left; (·rintro w' ⟨s0, s1, s2, s3, s4, s5, s6, s7, s8, s9⟩; go_simp; with_reducible rfl); rotate_left; (·simp only [Act.put, sI, sZ, sS, iW, jW]; rfl)
                refine take_ (i := 2) (N := some 47) (v := ?_) (a' := ?_) #[T,T,T,F,F,F,F,F,F,F,F,F,F,F,F,F,F,F,F,F,F,F,F,F,F,F,F,F,F,F,F,F,F] rfl rfl (tW HT_.out HW_.out (by kernel_rfl)) (fun _ _ _ h => h) (Or.inl ⟨by rfl, ?_⟩) hHeld ?_ ?_; rotate_left; (·rintro w' ⟨s0, s1, s2, s3, s4, s5, s6, s7, s8, s9⟩; go_simp; with_reducible rfl); rotate_left; (·simp only [Act.put, sI, sZ, sS, iW, jW]; rfl)
                refine one_ (i := 3) (N := some 48) #[T,T,T,T,F,F,F,F,F,F,F,F,F,F,F,F,F,F,F,F,F,F,F,F,F,F,F,F,F,F,F,F,F] rfl rfl (oO HT_.out (by kernel_rfl)) (by decide) (fun K hK => ?_)
                refine goes_ Try.func59 (by kernel_rfl) rfl #[.agg #[.int .i64 a0_0, .int .i64 a0_1, .slice A0_2 l0_2.length c0_2, .slice (some ad225) l0_3.length c0_3], .int .i64 ((rd_T68 l0_3 x40_2).f0)] (by rfl) rfl rfl lQ ?_
                with_reducible refine (impl_Grammar_hasState.calls a0_0 a0_1 _ _ l0_2 _ _ l0_3 ((rd_T68 l0_3 x40_2).f0) true _ ?side1 ?side2 ?side3 ?side4 A32.out).mono ?_
                (case side1 => exact cP (cB HR0_2.out HB.out))
                (case side2 => exact HC0_2.out)
                (case side3 => exact cP (cB HR0_3.out HB.out))
                (case side4 => exact HC0_3.out)
                rintro e w49 ⟨rfl, hb⟩
                refine ⟨_, rfl, ?_⟩
                have n0_ := Aside0.mk (kB (kQ BK220) hb)
                have n1_ := Aside0.mk (kB (kQ BK226) hb)
                have n2_ := Aside0.mk (bP (by repeat (first | (with_reducible first | exact HB.out | apply bA | apply bN | apply bD | refine bS ?_ GE220.out | refine bS ?_ GE226.out) | exact HB.out)) hb)
                clear BK220
                clear BK226
                clear HB
                have BK220 := n0_
                have BK226 := n1_
                have HB := n2_
                clear n0_ n1_ n2_
                (try clear hb)
                (try clear hb2)
                (try clear hk)
                (try clear hi)
                refine hK.out _ _ ⟨(kC BK220.out 0).trans rfl, (kC BK220.out 1).trans rfl, (kC BK220.out 2).trans rfl, (kC BK220.out 3).trans rfl, (kC BK226.out 0).trans rfl, (kC BK226.out 1).trans rfl, (kC BK226.out 2).trans rfl, ((HB.out.cell (World.block_lt_of_cell? w _ hw230_0)).trans hw230_0), ((HB.out.cell (World.block_lt_of_cell? w _ hw230_1)).trans hw230_1), ((HB.out.cell (World.block_lt_of_cell? w _ hw230_2)).trans hw230_2)⟩ (fun hHeld => ?_)
                clear hK K
                refine norm_ (a' := ?_) ?_ ?_
                rotate_left
                ·show Act.put _ (some 48) _ = _
                 simp only [Act.put, sI, sZ, sS, iW, jW]
                 rfl
                refine pure_ (i := 4) (N := some 49) (v := ?_) (a' := ?_) #[T,T,T,T,T,F,F,F,F,F,F,F,F,F,F,F,F,F,F,F,F,F,F,F,F,F,F,F,F,F,F,F,F] rfl rfl (aO HT_.out (by kernel_rfl)) (fun _ _ _ h => h) (Or.inl ⟨by rfl, ?_⟩) ?_ ?_; rotate_left; (·intro w'; go_simp; with_reducible rfl); rotate_left; (·simp only [Act.put, sI, sZ, sS, iW, jW]; rfl)
                refine pure_ (i := 5) (N := some 50) (v := ?_) (a' := ?_) #[T,T,T,T,T,T,F,F,F,F,F,F,F,F,F,F,F,F,F,F,F,F,F,F,F,F,F,F,F,F,F,F,F] rfl rfl (aO HT_.out (by kernel_rfl)) (fun _ _ _ h => h) (Or.inl ⟨by rfl, ?_⟩) ?_ ?_; rotate_left; (·intro w'; go_simp; with_reducible rfl); rotate_left; (·simp only [Act.put, sI, sZ, sS, iW, jW]; rfl)
                refine pure_ (i := 7) (N := some 52) (v := ?_) (a' := ?_) #[T,T,T,T,T,T,F,T,F,F,F,F,F,F,F,F,F,F,F,F,F,F,F,F,F,F,F,F,F,F,F,F,F] rfl rfl (aO HT_.out (by kernel_rfl)) (fun _ _ _ h => h) (Or.inl ⟨by rfl, ?_⟩) ?_ ?_; rotate_left; (·intro w'; go_simp; with_reducible rfl); rotate_left; (·simp only [Act.put, sI, sZ, sS, iW, jW]; rfl)
                refine take_ (i := 6) (N := some 51) (v := ?_) (a' := ?_) #[T,T,T,T,T,T,T,T,F,F,F,F,F,F,F,F,F,F,F,F,F,F,F,F,F,F,F,F,F,F,F,F,F] rfl rfl (tW HT_.out HW_.out (by kernel_rfl)) (fun _ _ _ h => h) (Or.inl ⟨by rfl, ?_⟩) hHeld ?_ ?_; rotate_left; (·rintro w' ⟨s0, s1, s2, s3, s4, s5, s6, s7, s8, s9⟩; go_simp; with_reducible rfl); rotate_left; (·simp only [Act.put, sI, sZ, sS, iW, jW]; rfl)
                refine take_ (i := 8) (N := some 53) (v := ?_) (a' := ?_) #[T,T,T,T,T,T,T,T,T,F,F,F,F,F,F,F,F,F,F,F,F,F,F,F,F,F,F,F,F,F,F,F,F] rfl rfl (tW HT_.out HW_.out (by kernel_rfl)) (fun _ _ _ h => h) (Or.inl ⟨by rfl, ?_⟩) hHeld ?_ ?_; rotate_left; (·rintro w' ⟨s0, s1, s2, s3, s4, s5, s6, s7, s8, s9⟩; go_simp; with_reducible rfl); rotate_left; (·simp only [Act.put, sI, sZ, sS, iW, jW]; rfl)
                refine one_ (i := 9) (N := some 54) #[T,T,T,T,T,T,T,T,T,T,F,F,F,F,F,F,F,F,F,F,F,F,F,F,F,F,F,F,F,F,F,F,F] rfl rfl (oO HT_.out (by kernel_rfl)) (by decide) (fun K hK => ?_)
                refine goes_ Try.func59 (by kernel_rfl) rfl #[.agg #[.int .i64 a0_0, .int .i64 a0_1, .slice A0_2 l0_2.length c0_2, .slice (some ad225) l0_3.length c0_3], .int .i64 ((rd_T68 l0_3 x40_2).f2)] (by rfl) rfl rfl lQ ?_
                with_reducible refine (impl_Grammar_hasState.calls a0_0 a0_1 _ _ l0_2 _ _ l0_3 ((rd_T68 l0_3 x40_2).f2) true _ ?side1 ?side2 ?side3 ?side4 A34.out).mono ?_
                (case side1 => exact cP (cB HR0_2.out HB.out))
                (case side2 => exact HC0_2.out)
                (case side3 => exact cP (cB HR0_3.out HB.out))
                (case side4 => exact HC0_3.out)
                rintro e w50 ⟨rfl, hb⟩
                refine ⟨_, rfl, ?_⟩
                have n0_ := Aside0.mk (kB (kQ BK220) hb)
                have n1_ := Aside0.mk (kB (kQ BK226) hb)
                have n2_ := Aside0.mk (bP (by repeat (first | (with_reducible first | exact HB.out | apply bA | apply bN | apply bD | refine bS ?_ GE220.out | refine bS ?_ GE226.out) | exact HB.out)) hb)
                clear BK220
                clear BK226
                clear HB
                have BK220 := n0_
                have BK226 := n1_
                have HB := n2_
                clear n0_ n1_ n2_
                (try clear hb)
                (try clear hb2)
                (try clear hk)
                (try clear hi)
                refine hK.out _ _ ⟨(kC BK220.out 0).trans rfl, (kC BK220.out 1).trans rfl, (kC BK220.out 2).trans rfl, (kC BK220.out 3).trans rfl, (kC BK226.out 0).trans rfl, (kC BK226.out 1).trans rfl, (kC BK226.out 2).trans rfl, ((HB.out.cell (World.block_lt_of_cell? w _ hw230_0)).trans hw230_0), ((HB.out.cell (World.block_lt_of_cell? w _ hw230_1)).trans hw230_1), ((HB.out.cell (World.block_lt_of_cell? w _ hw230_2)).trans hw230_2)⟩ (fun hHeld => ?_)
                clear hK K
                refine norm_ (a' := ?_) ?_ ?_
                rotate_left
                ·show Act.put _ (some 54) _ = _
                 simp only [Act.put, sI, sZ, sS, iW, jW]
                 rfl
                refine pure_ (i := 10) (N := some 55) (v := ?_) (a' := ?_) #[T,T,T,T,T,T,T,T,T,T,T,F,F,F,F,F,F,F,F,F,F,F,F,F,F,F,F,F,F,F,F,F,F] rfl rfl (aO HT_.out (by kernel_rfl)) (fun _ _ _ h => h) (Or.inl ⟨by rfl, ?_⟩) ?_ ?_; rotate_left; (·intro w'; go_simp; with_reducible rfl); rotate_left; (·simp only [Act.put, sI, sZ, sS, iW, jW]; rfl)
                refine pure_ (i := 11) (N := some 56) (v := ?_) (a' := ?_) #[T,T,T,T,T,T,T,T,T,T,T,T,F,F,F,F,F,F,F,F,F,F,F,F,F,F,F,F,F,F,F,F,F] rfl rfl (aO HT_.out (by kernel_rfl)) (fun _ _ _ h => h) (Or.inl ⟨by rfl, ?_⟩) ?_ ?_; rotate_left; (·intro w'; go_simp; with_reducible rfl); rotate_left; (·simp only [Act.put, sI, sZ, sS, iW, jW]; rfl)
                refine pure_ (i := 12) (N := some 57) (v := ?_) (a' := ?_) #[T,T,T,T,T,T,T,T,T,T,T,T,T,F,F,F,F,F,F,F,F,F,F,F,F,F,F,F,F,F,F,F,F] rfl rfl (aO HT_.out (by kernel_rfl)) (fun _ _ _ h => h) (Or.inl ⟨by rfl, ?_⟩) ?_ ?_; rotate_left; (·intro w'; go_simp; with_reducible rfl); rotate_left; (·simp only [Act.put, sI, sZ, sS, iW, jW]; rfl)
                refine pure_ (i := 13) (N := some 58) (v := ?_) (a' := ?_) #[T,T,T,T,T,T,T,T,T,T,T,T,T,T,F,F,F,F,F,F,F,F,F,F,F,F,F,F,F,F,F,F,F] rfl rfl (aO HT_.out (by kernel_rfl)) (fun _ _ _ h => h) (Or.inl ⟨by rfl, ?_⟩) ?_ ?_; rotate_left; (·intro w'; go_simp; with_reducible rfl); rotate_left; (·simp only [Act.put, sI, sZ, sS, iW, jW]; rfl)
                refine take_ (i := 14) (N := some 59) (v := ?_) (a' := ?_) #[T,T,T,T,T,T,T,T,T,T,T,T,T,T,T,F,F,F,F,F,F,F,F,F,F,F,F,F,F,F,F,F,F] rfl rfl (tW HT_.out HW_.out (by kernel_rfl)) (fun _ _ _ h => h) (Or.inl ⟨by rfl, ?_⟩) hHeld ?_ ?_; rotate_left; (·rintro w' ⟨s0, s1, s2, s3, s4, s5, s6, s7, s8, s9⟩; go_simp; with_reducible rfl); rotate_left; (·simp only [Act.put, sI, sZ, sS, iW, jW]; rfl)
                refine one_ (i := 15) (N := some 60) #[T,T,T,T,T,T,T,T,T,T,T,T,T,T,T,T,F,F,F,F,F,F,F,F,F,F,F,F,F,F,F,F,F] rfl rfl (oO HT_.out (by kernel_rfl)) (by decide) (fun K hK => ?_)
                refine goes_ Try.func61 (by kernel_rfl) rfl #[.int .i64 ((rd_T68 l0_3 x40_2).f1)] (by rfl) rfl rfl lQ ?_
                with_reducible refine (impl_pitchOk.calls ((rd_T68 l0_3 x40_2).f1) true _ A36.out).mono ?_
                rintro e w' ⟨rfl, ⟨nd, rfl⟩⟩
                refine ⟨_, rfl, ?_⟩
                refine hK.out _ _ ⟨(kC BK220.out 0).trans rfl, (kC BK220.out 1).trans rfl, (kC BK220.out 2).trans rfl, (kC BK220.out 3).trans rfl, (kC BK226.out 0).trans rfl, (kC BK226.out 1).trans rfl, (kC BK226.out 2).trans rfl, ((HB.out.cell (World.block_lt_of_cell? w _ hw230_0)).trans hw230_0), ((HB.out.cell (World.block_lt_of_cell? w _ hw230_1)).trans hw230_1), ((HB.out.cell (World.block_lt_of_cell? w _ hw230_2)).trans hw230_2)⟩ (fun hHeld => ?_)
                clear hK K
                refine norm_ (a' := ?_) ?_ ?_
                rotate_left
                ·show Act.put _ (some 60) _ = _
                 simp only [Act.put, sI, sZ, sS, iW, jW]
                 rfl
                refine pure_ (i := 16) (N := some 61) (v := ?_) (a' := ?_) #[T,T,T,T,T,T,T,T,T,T,T,T,T,T,T,T,T,F,F,F,F,F,F,F,F,F,F,F,F,F,F,F,F] rfl rfl (aO HT_.out (by kernel_rfl)) (fun _ _ _ h => h) (Or.inl ⟨by rfl, ?_⟩) ?_ ?_; rotate_left; (·intro w'; go_simp; with_reducible rfl); rotate_left; (·simp only [Act.put, sI, sZ, sS, iW, jW]; rfl)
                refine pure_ (i := 17) (N := some 62) (v := ?_) (a' := ?_) #[T,T,T,T,T,T,T,T,T,T,T,T,T,T,T,T,T,T,F,F,F,F,F,F,F,F,F,F,F,F,F,F,F] rfl rfl (aO HT_.out (by kernel_rfl)) (fun _ _ _ h => h) (Or.inl ⟨by rfl, ?_⟩) ?_ ?_; rotate_left; (·intro w'; go_simp; with_reducible rfl); rotate_left; (·simp only [Act.put, sI, sZ, sS, iW, jW]; rfl)
                refine pure_ (i := 18) (N := some 63) (v := ?_) (a' := ?_) #[T,T,T,T,T,T,T,T,T,T,T,T,T,T,T,T,T,T,T,F,F,F,F,F,F,F,F,F,F,F,F,F,F] rfl rfl (aO HT_.out (by kernel_rfl)) (fun _ _ _ h => h) (Or.inl ⟨by rfl, ?_⟩) ?_ ?_; rotate_left; (·intro w'; go_simp; with_reducible rfl); rotate_left; (·simp only [Act.put, sI, sZ, sS, iW, jW]; rfl)
                refine pure_ (i := 19) (N := some 64) (v := ?_) (a' := ?_) #[T,T,T,T,T,T,T,T,T,T,T,T,T,T,T,T,T,T,T,T,F,F,F,F,F,F,F,F,F,F,F,F,F] rfl rfl (aO HT_.out (by kernel_rfl)) (fun _ _ _ h => h) (Or.inl ⟨by rfl, ?_⟩) ?_ ?_; rotate_left; (·intro w'; go_simp; with_reducible rfl); rotate_left; (·simp only [Act.put, sI, sZ, sS, iW, jW]; rfl)
                refine pure_ (i := 20) (N := some 65) (v := ?_) (a' := ?_) #[T,T,T,T,T,T,T,T,T,T,T,T,T,T,T,T,T,T,T,T,T,F,F,F,F,F,F,F,F,F,F,F,F] rfl rfl (aO HT_.out (by kernel_rfl)) (fun _ _ _ h => h) (Or.inl ⟨by rfl, ?_⟩) ?_ ?_; rotate_left; (·intro w'; go_simp; with_reducible rfl); rotate_left; (·simp only [Act.put, sI, sZ, sS, iW, jW]; rfl)
                refine pure_ (i := 21) (N := some 66) (v := ?_) (a' := ?_) #[T,T,T,T,T,T,T,T,T,T,T,T,T,T,T,T,T,T,T,T,T,T,F,F,F,F,F,F,F,F,F,F,F] rfl rfl (aO HT_.out (by kernel_rfl)) (fun _ _ _ h => h) (Or.inl ⟨by rfl, ?_⟩) ?_ ?_; rotate_left; (·intro w'; go_simp; with_reducible rfl); rotate_left; (·simp only [Act.put, sI, sZ, sS, iW, jW]; rfl)
                refine pure_ (i := 22) (N := some 67) (v := ?_) (a' := ?_) #[T,T,T,T,T,T,T,T,T,T,T,T,T,T,T,T,T,T,T,T,T,T,T,F,F,F,F,F,F,F,F,F,F] rfl rfl (aO HT_.out (by kernel_rfl)) (fun _ _ _ h => h) (Or.inl ⟨by rfl, ?_⟩) ?_ ?_; rotate_left; (·intro w'; go_simp; with_reducible rfl); rotate_left; (·simp only [Act.put, sI, sZ, sS, iW, jW]; rfl)
                refine pure_ (i := 24) (N := some 69) (v := ?_) (a' := ?_) #[T,T,T,T,T,T,T,T,T,T,T,T,T,T,T,T,T,T,T,T,T,T,T,F,T,F,F,F,F,F,F,F,F] rfl rfl (aO HT_.out (by kernel_rfl)) (fun _ _ _ h => h) (Or.inl ⟨by rfl, ?_⟩) ?_ ?_; rotate_left; (·intro w'; go_simp; with_reducible rfl); rotate_left; (·simp only [Act.put, sI, sZ, sS, iW, jW]; rfl)
                refine pure_ (i := 25) (N := some 70) (v := ?_) (a' := ?_) #[T,T,T,T,T,T,T,T,T,T,T,T,T,T,T,T,T,T,T,T,T,T,T,F,T,T,F,F,F,F,F,F,F] rfl rfl (aO HT_.out (by kernel_rfl)) (fun _ _ _ h => h) (Or.inl ⟨by rfl, ?_⟩) ?_ ?_; rotate_left; (·intro w'; go_simp; with_reducible rfl); rotate_left; (·simp only [Act.put, sI, sZ, sS, iW, jW]; rfl)
                refine take_ (i := 23) (N := some 68) (v := ?_) (a' := ?_) #[T,T,T,T,T,T,T,T,T,T,T,T,T,T,T,T,T,T,T,T,T,T,T,T,T,T,F,F,F,F,F,F,F] rfl rfl (tW HT_.out HW_.out (by kernel_rfl)) (fun _ _ _ h => h) (Or.inl ⟨by rfl, ?_⟩) hHeld ?_ ?_; rotate_left; (·rintro w' ⟨s0, s1, s2, s3, s4, s5, s6, s7, s8, s9⟩; go_simp; with_reducible rfl); rotate_left; (·simp only [Act.put, sI, sZ, sS, iW, jW]; rfl)
                refine pure_ (i := 26) (N := some 71) (v := ?_) (a' := ?_) #[T,T,T,T,T,T,T,T,T,T,T,T,T,T,T,T,T,T,T,T,T,T,T,T,T,T,T,F,F,F,F,F,F] rfl rfl (aO HT_.out (by kernel_rfl)) (fun _ _ _ h => h) (Or.inl ⟨by rfl, ?_⟩) ?_ ?_; rotate_left; (·intro w'; go_simp; with_reducible rfl); rotate_left; (·simp only [Act.put, sI, sZ, sS, iW, jW]; rfl)
                refine take_ (i := 27) (N := some 72) (v := ?_) (a' := ?_) #[T,T,T,T,T,T,T,T,T,T,T,T,T,T,T,T,T,T,T,T,T,T,T,T,T,T,T,T,F,F,F,F,F] rfl rfl (tW HT_.out HW_.out (by kernel_rfl)) (fun _ _ _ h => h) (Or.inl ⟨by rfl, ?_⟩) hHeld ?_ ?_; rotate_left; (·rintro w' ⟨s0, s1, s2, s3, s4, s5, s6, s7, s8, s9⟩; go_simp; with_reducible rfl); rotate_left; (·simp only [Act.put, sI, sZ, sS, iW, jW]; rfl)
                refine take_ (i := 28) (N := some 73) (v := ?_) (a' := ?_) #[T,T,T,T,T,T,T,T,T,T,T,T,T,T,T,T,T,T,T,T,T,T,T,T,T,T,T,T,T,F,F,F,F] rfl rfl (tW HT_.out HW_.out (by kernel_rfl)) (fun _ _ _ h => h) (Or.inl ⟨by rfl, ?_⟩) hHeld ?_ ?_; rotate_left; (·rintro w' ⟨s0, s1, s2, s3, s4, s5, s6, s7, s8, s9⟩; go_simp; with_reducible rfl); rotate_left; (·simp only [Act.put, sI, sZ, sS, iW, jW]; rfl)
                refine one_ (i := 29) (N := some 74) #[T,T,T,T,T,T,T,T,T,T,T,T,T,T,T,T,T,T,T,T,T,T,T,T,T,T,T,T,T,T,F,F,F] rfl rfl (oO HT_.out (by kernel_rfl)) (by decide) (fun K hK => ?_)
                refine goes_ Try.func62 (by kernel_rfl) rfl #[.agg #[.int .i64 ((rd_T68 l0_3 (ji39)).f0), .int .i64 ((rd_T68 l0_3 (ji39)).f1), .int .i64 ((rd_T68 l0_3 (ji39)).f2)], .agg #[.int .i64 ((rd_T68 l0_3 x40_2).f0), .int .i64 ((rd_T68 l0_3 x40_2).f1), .int .i64 ((rd_T68 l0_3 x40_2).f2)]] (by rfl) rfl rfl (by (try simp only [List.map_toArray, List.map_cons, List.map_nil]); first | done | (simp only [hji39]; rfl) | ((try simp only [hji39]); first | done | rfl) | rfl | (simp only [List.length_drop, List.length_take]; rfl)) ?_
                with_reducible refine (impl_compareArcs.calls k2 ((rd_T68 l0_3 (ji39)).f0) ((rd_T68 l0_3 (ji39)).f1) ((rd_T68 l0_3 (ji39)).f2) ((rd_T68 l0_3 x40_2).f0) ((rd_T68 l0_3 x40_2).f1) ((rd_T68 l0_3 x40_2).f2) t231 _ A42.out).mono ?_
                rintro e w51 ⟨rfl, hb⟩
                refine ⟨_, rfl, ?_⟩
                have n0_ := Aside0.mk (kB (kQ BK220) hb)
                have n1_ := Aside0.mk (kB (kQ BK226) hb)
                have n2_ := Aside0.mk (bP (by repeat (first | (with_reducible first | exact HB.out | apply bA | apply bN | apply bD | refine bS ?_ GE220.out | refine bS ?_ GE226.out) | exact HB.out)) hb)
                clear BK220
                clear BK226
                clear HB
                have BK220 := n0_
                have BK226 := n1_
                have HB := n2_
                clear n0_ n1_ n2_
                (try clear hb)
                (try clear hb2)
                (try clear hk)
                (try clear hi)
                refine hK.out _ _ ⟨(kC BK220.out 0).trans rfl, (kC BK220.out 1).trans rfl, (kC BK220.out 2).trans rfl, (kC BK220.out 3).trans rfl, (kC BK226.out 0).trans rfl, (kC BK226.out 1).trans rfl, (kC BK226.out 2).trans rfl, ((HB.out.cell (World.block_lt_of_cell? w _ hw230_0)).trans hw230_0), ((HB.out.cell (World.block_lt_of_cell? w _ hw230_1)).trans hw230_1), ((HB.out.cell (World.block_lt_of_cell? w _ hw230_2)).trans hw230_2)⟩ (fun hHeld => ?_)
                clear hK K
                refine norm_ (a' := ?_) ?_ ?_
                rotate_left
                ·show Act.put _ (some 74) _ = _
                 simp only [Act.put, sI, sZ, sS, iW, jW]
                 rfl
                refine pure_ (i := 30) (N := some 75) (v := ?_) (a' := ?_) #[T,T,T,T,T,T,T,T,T,T,T,T,T,T,T,T,T,T,T,T,T,T,T,T,T,T,T,T,T,T,T,F,F] rfl rfl (aO HT_.out (by kernel_rfl)) (fun _ _ _ h => h) (Or.inl ⟨by rfl, ?_⟩) ?_ ?_; rotate_left; (·intro w'; go_simp; with_reducible rfl); rotate_left; (·simp only [Act.put, sI, sZ, sS, iW, jW]; rfl)
                refine pure_ (i := 31) (N := some 76) (v := ?_) (a' := ?_) #[T,T,T,T,T,T,T,T,T,T,T,T,T,T,T,T,T,T,T,T,T,T,T,T,T,T,T,T,T,T,T,T,F] rfl rfl (aO HT_.out (by kernel_rfl)) (fun _ _ _ h => h) (Or.inl ⟨by rfl, ?_⟩) ?_ ?_; rotate_left; (·intro w'; go_simp; with_reducible rfl); rotate_left; (·simp only [Act.put, sI, sZ, sS, iW, jW]; rfl)
                refine pure_ (i := 32) (N := some 77) (v := ?_) (a' := ?_) #[T,T,T,T,T,T,T,T,T,T,T,T,T,T,T,T,T,T,T,T,T,T,T,T,T,T,T,T,T,T,T,T,T] rfl rfl (aO HT_.out (by kernel_rfl)) (fun _ _ _ h => h) (Or.inl ⟨by rfl, ?_⟩) ?_ ?_; rotate_left; (·intro w'; go_simp; with_reducible rfl); rotate_left; (·simp only [Act.put, sI, sZ, sS, iW, jW]; rfl)
                refine done_ (done_of HT_.out (by kernel_rfl)) ?_
                try go_wp2
                go_ret
                exact ⟨by first | rfl | (simp [errW_none, errW_some] <;> rfl) | (simp only [← hji39]; first | rfl | (simp [errW_none, errW_some] <;> rfl)) | (simp [*, errW_none, errW_some] <;> rfl), by repeat (first | (with_reducible first | exact HB.out | apply bA | apply bN | apply bD | refine bS ?_ GE220.out | refine bS ?_ GE226.out) | exact HB.out)⟩
               ·rw [if_neg c43] at H
                have c43b0 : decide (0 ≤ t231) = false := decide_eq_false c43
                clear c43
                have H' := Aside0.mk H
                clear H
                have p225 : 0 ≤ (x40_2 : Int) := oT
                have q225 : x40_2 < (l0_3.length : Int) := oT
                obtain ⟨ad225, e225, hx225_0, hx225_1, hx225_2⟩ := at_T68 HR0_3.out x40_2 p225 q225
                cases e225
                replace hx225_0 := (HB.out.cell (World.block_lt_of_cell? w _ hx225_0)).trans hx225_0
                replace hx225_1 := (HB.out.cell (World.block_lt_of_cell? w _ hx225_1)).trans hx225_1
                replace hx225_2 := (HB.out.cell (World.block_lt_of_cell? w _ hx225_2)).trans hx225_2
                replace p225 := eq_true p225
                replace q225 := eq_true q225
                try go_wp2_with (first | ((with_reducible refine gate_dst (N := 4) rfl ?_); (try (refine gate_guard (by rfl) ?_; dsimp only)); refine bE ?hg (N := 4) ?hd (cs := #[.int .i64 0, .int .i64 0, .int .i64 0]) (t := 68) ?hr ?_; (case hd => rfl); (case hg => rfl); (case hr => first | (go_simp; done) | (go_simp; rfl)); intro gb226 hg w52 hbox hb; have z_ := bX hb (by repeat (first | (with_reducible first | exact HB.out | apply bA | apply bN | apply bD | refine bS ?_ GE220.out) | exact HB.out)); have n0_ := Aside0.mk (kB (kQ BK220) hb); have n1_ := Aside0.mk (bP z_ hb); have n2_ := Aside0.mk (hbox); have n3_ := Aside0.mk ((by rw [hg]; exact (bZ z_) : w.heap.size ≤ gb226)); have n4_ := Aside0.mk ((by rw [hg]; exact (bZ z_) : w.heap.size ≤ gb226)); have n5_ := Aside0.mk ((by rw [hg]; exact Nat.ne_of_lt (kL (kQ BK220)) : gb220 ≠ gb226)); have n6_ := Aside0.mk ((by rw [hg]; exact Nat.ne_of_gt (kL (kQ BK220)) : gb226 ≠ gb220)); clear BK220; clear HB; have BK220 := n0_; have HB := n1_; have BK226 := n2_; have GW226 := n3_; have GE226 := n4_; have NB220_226 := n5_; have NB226_220 := n6_; clear z_ n0_ n1_ n2_ n3_ n4_ n5_ n6_; clear hb hbox hg; have hnb53 := NB226_220.out; have hnc53 := NB220_226.out; obtain ⟨hcz54_0, hcz54_1, hcz54_2⟩ := cZ3 BK226.out; obtain ⟨hfz54_0, hfz54_1, hfz54_2⟩ := fZ3 BK226.out))
                have n0_ : Aside0 ((((w52.setCell ⟨gb226, 0, none⟩ (.int .i64 ((rd_T68 l0_3 x40_2).f0))).setCell ⟨gb226, 1, none⟩ (.int .i64 ((rd_T68 l0_3 x40_2).f1))).setCell ⟨gb226, 2, none⟩ (.int .i64 ((rd_T68 l0_3 x40_2).f2))).heap[gb220]? = some (.cells #[.int .i64 a0_0, .int .i64 a0_1, .slice A0_2 l0_2.length c0_2, .slice (some ad225) l0_3.length c0_3] 39 (0, 0))) := ⟨by (with_reducible repeat (first | refine kN ?_ _ | refine kD ?_ | refine kA ?_ _)); refine kF ?_ NB220_226.out _; (with_reducible repeat (first | refine kN ?_ _ | refine kD ?_ | refine kA ?_ _)); refine kF ?_ NB220_226.out _; (with_reducible repeat (first | refine kN ?_ _ | refine kD ?_ | refine kA ?_ _)); refine kF ?_ NB220_226.out _; (with_reducible repeat (first | refine kN ?_ _ | refine kD ?_ | refine kA ?_ _)); exact BK220.out⟩
                have n1_ : Aside0 ((((w52.setCell ⟨gb226, 0, none⟩ (.int .i64 ((rd_T68 l0_3 x40_2).f0))).setCell ⟨gb226, 1, none⟩ (.int .i64 ((rd_T68 l0_3 x40_2).f1))).setCell ⟨gb226, 2, none⟩ (.int .i64 ((rd_T68 l0_3 x40_2).f2))).heap[gb226]? = some (.cells #[.int .i64 ((rd_T68 l0_3 x40_2).f0), .int .i64 ((rd_T68 l0_3 x40_2).f1), .int .i64 ((rd_T68 l0_3 x40_2).f2)] 68 (0, 0))) := ⟨by (with_reducible repeat (first | refine kN ?_ _ | refine kD ?_ | refine kA ?_ _)); refine blk_put (cs := #[.int .i64 ((rd_T68 l0_3 x40_2).f0), .int .i64 ((rd_T68 l0_3 x40_2).f1), .int .i64 0]) ?_ 2 _ rfl; (with_reducible repeat (first | refine kN ?_ _ | refine kD ?_ | refine kA ?_ _)); refine blk_put (cs := #[.int .i64 ((rd_T68 l0_3 x40_2).f0), .int .i64 0, .int .i64 0]) ?_ 1 _ rfl; (with_reducible repeat (first | refine kN ?_ _ | refine kD ?_ | refine kA ?_ _)); refine blk_put (cs := #[.int .i64 0, .int .i64 0, .int .i64 0]) ?_ 0 _ rfl; (with_reducible repeat (first | refine kN ?_ _ | refine kD ?_ | refine kA ?_ _)); exact BK226.out⟩
                have n2_ : Aside0 (Below w.heap.size w (((w52.setCell ⟨gb226, 0, none⟩ (.int .i64 ((rd_T68 l0_3 x40_2).f0))).setCell ⟨gb226, 1, none⟩ (.int .i64 ((rd_T68 l0_3 x40_2).f1))).setCell ⟨gb226, 2, none⟩ (.int .i64 ((rd_T68 l0_3 x40_2).f2)))) := ⟨by repeat (first | (with_reducible first | exact HB.out | apply bA | apply bN | apply bD | refine bS ?_ GE220.out | refine bS ?_ GE226.out) | exact HB.out)⟩
                (try clear BK220)
                (try clear BK226)
                (try clear HB)
                generalize (((w52.setCell ⟨gb226, 0, none⟩ (.int .i64 ((rd_T68 l0_3 x40_2).f0))).setCell ⟨gb226, 1, none⟩ (.int .i64 ((rd_T68 l0_3 x40_2).f1))).setCell ⟨gb226, 2, none⟩ (.int .i64 ((rd_T68 l0_3 x40_2).f2))) = w55 at n0_ n1_ n2_ ⊢
                have BK220 := n0_
                have BK226 := n1_
                have HB := n2_
                clear n0_ n1_ n2_
                have n0_ := Aside0.mk (kD BK220.out)
                have n1_ := Aside0.mk (kD BK226.out)
                have n2_ := Aside0.mk (bD HB.out)
                clear BK220
                clear BK226
                clear HB
                have BK220 := n0_
                have BK226 := n1_
                have HB := n2_
                clear n0_ n1_ n2_
                have p230 : 0 ≤ ((ji39) : Int) := oT
                have q230 : (ji39) < (l0_3.length : Int) := oT
                obtain ⟨ad230, e230, hx230_0, hx230_1, hx230_2⟩ := at_T68 HR0_3.out (ji39) p230 q230
                have hw230_2 := hx230_2
                have hw230_1 := hx230_1
                have hw230_0 := hx230_0
                obtain rfl : ad225 = ad230 := (by injection e230)
                replace hx230_0 := (HB.out.cell (World.block_lt_of_cell? w _ hx230_0)).trans hx230_0
                replace hx230_1 := (HB.out.cell (World.block_lt_of_cell? w _ hx230_1)).trans hx230_1
                replace hx230_2 := (HB.out.cell (World.block_lt_of_cell? w _ hx230_2)).trans hx230_2
                replace p230 := eq_true p230
                replace q230 := eq_true q230
                refine start_ (n := 33) (S := fun w' => w'.cell? ⟨gb220, 0, none⟩ = some (.int .i64 a0_0) ∧ w'.cell? ⟨gb220, 1, none⟩ = some (.int .i64 a0_1) ∧ w'.cell? ⟨gb220, 2, none⟩ = some (.slice A0_2 l0_2.length c0_2) ∧ w'.cell? ⟨gb220, 3, none⟩ = some (.slice (some ad225) l0_3.length c0_3) ∧ w'.cell? ⟨gb226, 0, none⟩ = some (.int .i64 ((rd_T68 l0_3 x40_2).f0)) ∧ w'.cell? ⟨gb226, 1, none⟩ = some (.int .i64 ((rd_T68 l0_3 x40_2).f1)) ∧ w'.cell? ⟨gb226, 2, none⟩ = some (.int .i64 ((rd_T68 l0_3 x40_2).f2)) ∧ w'.cell? (ad225.add (((ji39)).toNat * 3)) = some (.int .i64 ((rd_T68 l0_3 (ji39)).f0)) ∧ w'.cell? ⟨(ad225.add (((ji39)).toNat * 3)).block, (ad225.add (((ji39)).toNat * 3)).off + 1, none⟩ = some (.int .i64 ((rd_T68 l0_3 (ji39)).f1)) ∧ w'.cell? ⟨(ad225.add (((ji39)).toNat * 3)).block, (ad225.add (((ji39)).toNat * 3)).off + 2, none⟩ = some (.int .i64 ((rd_T68 l0_3 (ji39)).f2))) (ds := []) #[F,F,F,F,F,F,F,F,F,F,F,F,F,F,F,F,F,F,F,F,F,F,F,F,F,F,F,F,F,F,F,F,F] (by kernel_rfl) rfl rfl ⟨(kC BK220.out 0).trans rfl, (kC BK220.out 1).trans rfl, (kC BK220.out 2).trans rfl, (kC BK220.out 3).trans rfl, (kC BK226.out 0).trans rfl, (kC BK226.out 1).trans rfl, (kC BK226.out 2).trans rfl, ((HB.out.cell (World.block_lt_of_cell? w _ hw230_0)).trans hw230_0), ((HB.out.cell (World.block_lt_of_cell? w _ hw230_1)).trans hw230_1), ((HB.out.cell (World.block_lt_of_cell? w _ hw230_2)).trans hw230_2)⟩ (fun hHeld => ?_); refine with_tabW impl_ValidGrammar.tab6 impl_ValidGrammar.bits6 (fun HT_ HW_ => ?_)
                generalize w55.drew = w56 at BK220 BK226 HB hx230_0 hx230_1 hx230_2 hHeld ⊢
                refine pure_ (i := 1) (N := some 46) (v := ?_) (a' := ?_) #[F,T,F,F,F,F,F,F,F,F,F,F,F,F,F,F,F,F,F,F,F,F,F,F,F,F,F,F,F,F,F,F,F] rfl rfl (aO HT_.out (by kernel_rfl)) (fun _ _ _ h => h) (Or.inl ⟨by rfl, ?_⟩) ?_ ?_; rotate_left; (·intro w'; go_simp; with_reducible rfl); rotate_left; (·simp only [Act.put, sI, sZ, sS, iW, jW]; rfl)
                refine take_ (i := 0) (N := some 45) (v := ?_) (a' := ?_) #[T,T,F,F,F,F,F,F,F,F,F,F,F,F,F,F,F,F,F,F,F,F,F,F,F,F,F,F,F,F,F,F,F] rfl rfl (tW HT_.out HW_.out (by kernel_rfl)) (fun _ _ _ h => h) (Or.inl ⟨by rfl, ?_⟩) hHeld ?_ ?_; rotate_left; (·rintro w' ⟨s0, s1, s2, s3, s4, s5, s6, s7, s8, s9⟩; go_simp; with_reducible rfl); rotate_left; (·simp only [Act.put, sI, sZ, sS, iW, jW]; rfl)
                refine take_ (i := 2) (N := some 47) (v := ?_) (a' := ?_) #[T,T,T,F,F,F,F,F,F,F,F,F,F,F,F,F,F,F,F,F,F,F,F,F,F,F,F,F,F,F,F,F,F] rfl rfl (tW HT_.out HW_.out (by kernel_rfl)) (fun _ _ _ h => h) (Or.inl ⟨by rfl, ?_⟩) hHeld ?_ ?_; rotate_left; (·rintro w' ⟨s0, s1, s2, s3, s4, s5, s6, s7, s8, s9⟩; go_simp; with_reducible rfl); rotate_left; (·simp only [Act.put, sI, sZ, sS, iW, jW]; rfl)
                refine one_ (i := 3) (N := some 48) #[T,T,T,T,F,F,F,F,F,F,F,F,F,F,F,F,F,F,F,F,F,F,F,F,F,F,F,F,F,F,F,F,F] rfl rfl (oO HT_.out (by kernel_rfl)) (by decide) (fun K hK => ?_)
                refine goes_ Try.func59 (by kernel_rfl) rfl #[.agg #[.int .i64 a0_0, .int .i64 a0_1, .slice A0_2 l0_2.length c0_2, .slice (some ad225) l0_3.length c0_3], .int .i64 ((rd_T68 l0_3 x40_2).f0)] (by rfl) rfl rfl lQ ?_
                with_reducible refine (impl_Grammar_hasState.calls a0_0 a0_1 _ _ l0_2 _ _ l0_3 ((rd_T68 l0_3 x40_2).f0) true _ ?side1 ?side2 ?side3 ?side4 A32.out).mono ?_
                (case side1 => exact cP (cB HR0_2.out HB.out))
                (case side2 => exact HC0_2.out)
                (case side3 => exact cP (cB HR0_3.out HB.out))
                (case side4 => exact HC0_3.out)
                rintro e w57 ⟨rfl, hb⟩
                refine ⟨_, rfl, ?_⟩
                have n0_ := Aside0.mk (kB (kQ BK220) hb)
                have n1_ := Aside0.mk (kB (kQ BK226) hb)
                have n2_ := Aside0.mk (bP (by repeat (first | (with_reducible first | exact HB.out | apply bA | apply bN | apply bD | refine bS ?_ GE220.out | refine bS ?_ GE226.out) | exact HB.out)) hb)
                clear BK220
                clear BK226
                clear HB
                have BK220 := n0_
                have BK226 := n1_
                have HB := n2_
                clear n0_ n1_ n2_
                (try clear hb)
                (try clear hb2)
                (try clear hk)
                (try clear hi)
                refine hK.out _ _ ⟨(kC BK220.out 0).trans rfl, (kC BK220.out 1).trans rfl, (kC BK220.out 2).trans rfl, (kC BK220.out 3).trans rfl, (kC BK226.out 0).trans rfl, (kC BK226.out 1).trans rfl, (kC BK226.out 2).trans rfl, ((HB.out.cell (World.block_lt_of_cell? w _ hw230_0)).trans hw230_0), ((HB.out.cell (World.block_lt_of_cell? w _ hw230_1)).trans hw230_1), ((HB.out.cell (World.block_lt_of_cell? w _ hw230_2)).trans hw230_2)⟩ (fun hHeld => ?_)
                clear hK K
                refine norm_ (a' := ?_) ?_ ?_
                rotate_left
                ·show Act.put _ (some 48) _ = _
                 simp only [Act.put, sI, sZ, sS, iW, jW]
                 rfl
                refine pure_ (i := 4) (N := some 49) (v := ?_) (a' := ?_) #[T,T,T,T,T,F,F,F,F,F,F,F,F,F,F,F,F,F,F,F,F,F,F,F,F,F,F,F,F,F,F,F,F] rfl rfl (aO HT_.out (by kernel_rfl)) (fun _ _ _ h => h) (Or.inl ⟨by rfl, ?_⟩) ?_ ?_; rotate_left; (·intro w'; go_simp; with_reducible rfl); rotate_left; (·simp only [Act.put, sI, sZ, sS, iW, jW]; rfl)
                refine pure_ (i := 5) (N := some 50) (v := ?_) (a' := ?_) #[T,T,T,T,T,T,F,F,F,F,F,F,F,F,F,F,F,F,F,F,F,F,F,F,F,F,F,F,F,F,F,F,F] rfl rfl (aO HT_.out (by kernel_rfl)) (fun _ _ _ h => h) (Or.inl ⟨by rfl, ?_⟩) ?_ ?_; rotate_left; (·intro w'; go_simp; with_reducible rfl); rotate_left; (·simp only [Act.put, sI, sZ, sS, iW, jW]; rfl)
                refine pure_ (i := 7) (N := some 52) (v := ?_) (a' := ?_) #[T,T,T,T,T,T,F,T,F,F,F,F,F,F,F,F,F,F,F,F,F,F,F,F,F,F,F,F,F,F,F,F,F] rfl rfl (aO HT_.out (by kernel_rfl)) (fun _ _ _ h => h) (Or.inl ⟨by rfl, ?_⟩) ?_ ?_; rotate_left; (·intro w'; go_simp; with_reducible rfl); rotate_left; (·simp only [Act.put, sI, sZ, sS, iW, jW]; rfl)
                refine take_ (i := 6) (N := some 51) (v := ?_) (a' := ?_) #[T,T,T,T,T,T,T,T,F,F,F,F,F,F,F,F,F,F,F,F,F,F,F,F,F,F,F,F,F,F,F,F,F] rfl rfl (tW HT_.out HW_.out (by kernel_rfl)) (fun _ _ _ h => h) (Or.inl ⟨by rfl, ?_⟩) hHeld ?_ ?_; rotate_left; (·rintro w' ⟨s0, s1, s2, s3, s4, s5, s6, s7, s8, s9⟩; go_simp; with_reducible rfl); rotate_left; (·simp only [Act.put, sI, sZ, sS, iW, jW]; rfl)
                refine take_ (i := 8) (N := some 53) (v := ?_) (a' := ?_) #[T,T,T,T,T,T,T,T,T,F,F,F,F,F,F,F,F,F,F,F,F,F,F,F,F,F,F,F,F,F,F,F,F] rfl rfl (tW HT_.out HW_.out (by kernel_rfl)) (fun _ _ _ h => h) (Or.inl ⟨by rfl, ?_⟩) hHeld ?_ ?_; rotate_left; (·rintro w' ⟨s0, s1, s2, s3, s4, s5, s6, s7, s8, s9⟩; go_simp; with_reducible rfl); rotate_left; (·simp only [Act.put, sI, sZ, sS, iW, jW]; rfl)
                refine one_ (i := 9) (N := some 54) #[T,T,T,T,T,T,T,T,T,T,F,F,F,F,F,F,F,F,F,F,F,F,F,F,F,F,F,F,F,F,F,F,F] rfl rfl (oO HT_.out (by kernel_rfl)) (by decide) (fun K hK => ?_)
                refine goes_ Try.func59 (by kernel_rfl) rfl #[.agg #[.int .i64 a0_0, .int .i64 a0_1, .slice A0_2 l0_2.length c0_2, .slice (some ad225) l0_3.length c0_3], .int .i64 ((rd_T68 l0_3 x40_2).f2)] (by rfl) rfl rfl lQ ?_
                with_reducible refine (impl_Grammar_hasState.calls a0_0 a0_1 _ _ l0_2 _ _ l0_3 ((rd_T68 l0_3 x40_2).f2) true _ ?side1 ?side2 ?side3 ?side4 A34.out).mono ?_
                (case side1 => exact cP (cB HR0_2.out HB.out))
                (case side2 => exact HC0_2.out)
                (case side3 => exact cP (cB HR0_3.out HB.out))
                (case side4 => exact HC0_3.out)
                rintro e w58 ⟨rfl, hb⟩
                refine ⟨_, rfl, ?_⟩
                have n0_ := Aside0.mk (kB (kQ BK220) hb)
                have n1_ := Aside0.mk (kB (kQ BK226) hb)
                have n2_ := Aside0.mk (bP (by repeat (first | (with_reducible first | exact HB.out | apply bA | apply bN | apply bD | refine bS ?_ GE220.out | refine bS ?_ GE226.out) | exact HB.out)) hb)
                clear BK220
                clear BK226
                clear HB
                have BK220 := n0_
                have BK226 := n1_
                have HB := n2_
                clear n0_ n1_ n2_
                (try clear hb)
                (try clear hb2)
                (try clear hk)
                (try clear hi)
                refine hK.out _ _ ⟨(kC BK220.out 0).trans rfl, (kC BK220.out 1).trans rfl, (kC BK220.out 2).trans rfl, (kC BK220.out 3).trans rfl, (kC BK226.out 0).trans rfl, (kC BK226.out 1).trans rfl, (kC BK226.out 2).trans rfl, ((HB.out.cell (World.block_lt_of_cell? w _ hw230_0)).trans hw230_0), ((HB.out.cell (World.block_lt_of_cell? w _ hw230_1)).trans hw230_1), ((HB.out.cell (World.block_lt_of_cell? w _ hw230_2)).trans hw230_2)⟩ (fun hHeld => ?_)
                clear hK K
                refine norm_ (a' := ?_) ?_ ?_
                rotate_left
                ·show Act.put _ (some 54) _ = _
                 simp only [Act.put, sI, sZ, sS, iW, jW]
                 rfl
                refine pure_ (i := 10) (N := some 55) (v := ?_) (a' := ?_) #[T,T,T,T,T,T,T,T,T,T,T,F,F,F,F,F,F,F,F,F,F,F,F,F,F,F,F,F,F,F,F,F,F] rfl rfl (aO HT_.out (by kernel_rfl)) (fun _ _ _ h => h) (Or.inl ⟨by rfl, ?_⟩) ?_ ?_; rotate_left; (·intro w'; go_simp; with_reducible rfl); rotate_left; (·simp only [Act.put, sI, sZ, sS, iW, jW]; rfl)
                refine pure_ (i := 11) (N := some 56) (v := ?_) (a' := ?_) #[T,T,T,T,T,T,T,T,T,T,T,T,F,F,F,F,F,F,F,F,F,F,F,F,F,F,F,F,F,F,F,F,F] rfl rfl (aO HT_.out (by kernel_rfl)) (fun _ _ _ h => h) (Or.inl ⟨by rfl, ?_⟩) ?_ ?_; rotate_left; (·intro w'; go_simp; with_reducible rfl); rotate_left; (·simp only [Act.put, sI, sZ, sS, iW, jW]; rfl)
                refine pure_ (i := 12) (N := some 57) (v := ?_) (a' := ?_) #[T,T,T,T,T,T,T,T,T,T,T,T,T,F,F,F,F,F,F,F,F,F,F,F,F,F,F,F,F,F,F,F,F] rfl rfl (aO HT_.out (by kernel_rfl)) (fun _ _ _ h => h) (Or.inl ⟨by rfl, ?_⟩) ?_ ?_; rotate_left; (·intro w'; go_simp; with_reducible rfl); rotate_left; (·simp only [Act.put, sI, sZ, sS, iW, jW]; rfl)
                refine pure_ (i := 13) (N := some 58) (v := ?_) (a' := ?_) #[T,T,T,T,T,T,T,T,T,T,T,T,T,T,F,F,F,F,F,F,F,F,F,F,F,F,F,F,F,F,F,F,F] rfl rfl (aO HT_.out (by kernel_rfl)) (fun _ _ _ h => h) (Or.inl ⟨by rfl, ?_⟩) ?_ ?_; rotate_left; (·intro w'; go_simp; with_reducible rfl); rotate_left; (·simp only [Act.put, sI, sZ, sS, iW, jW]; rfl)
                refine take_ (i := 14) (N := some 59) (v := ?_) (a' := ?_) #[T,T,T,T,T,T,T,T,T,T,T,T,T,T,T,F,F,F,F,F,F,F,F,F,F,F,F,F,F,F,F,F,F] rfl rfl (tW HT_.out HW_.out (by kernel_rfl)) (fun _ _ _ h => h) (Or.inl ⟨by rfl, ?_⟩) hHeld ?_ ?_; rotate_left; (·rintro w' ⟨s0, s1, s2, s3, s4, s5, s6, s7, s8, s9⟩; go_simp; with_reducible rfl); rotate_left; (·simp only [Act.put, sI, sZ, sS, iW, jW]; rfl)
                refine one_ (i := 15) (N := some 60) #[T,T,T,T,T,T,T,T,T,T,T,T,T,T,T,T,F,F,F,F,F,F,F,F,F,F,F,F,F,F,F,F,F] rfl rfl (oO HT_.out (by kernel_rfl)) (by decide) (fun K hK => ?_)
                refine goes_ Try.func61 (by kernel_rfl) rfl #[.int .i64 ((rd_T68 l0_3 x40_2).f1)] (by rfl) rfl rfl lQ ?_
                with_reducible refine (impl_pitchOk.calls ((rd_T68 l0_3 x40_2).f1) true _ A36.out).mono ?_
                rintro e w' ⟨rfl, ⟨nd, rfl⟩⟩
                refine ⟨_, rfl, ?_⟩
                refine hK.out _ _ ⟨(kC BK220.out 0).trans rfl, (kC BK220.out 1).trans rfl, (kC BK220.out 2).trans rfl, (kC BK220.out 3).trans rfl, (kC BK226.out 0).trans rfl, (kC BK226.out 1).trans rfl, (kC BK226.out 2).trans rfl, ((HB.out.cell (World.block_lt_of_cell? w _ hw230_0)).trans hw230_0), ((HB.out.cell (World.block_lt_of_cell? w _ hw230_1)).trans hw230_1), ((HB.out.cell (World.block_lt_of_cell? w _ hw230_2)).trans hw230_2)⟩ (fun hHeld => ?_)
                clear hK K
                refine norm_ (a' := ?_) ?_ ?_
                rotate_left
                ·show Act.put _ (some 60) _ = _
                 simp only [Act.put, sI, sZ, sS, iW, jW]
                 rfl
                refine pure_ (i := 16) (N := some 61) (v := ?_) (a' := ?_) #[T,T,T,T,T,T,T,T,T,T,T,T,T,T,T,T,T,F,F,F,F,F,F,F,F,F,F,F,F,F,F,F,F] rfl rfl (aO HT_.out (by kernel_rfl)) (fun _ _ _ h => h) (Or.inl ⟨by rfl, ?_⟩) ?_ ?_; rotate_left; (·intro w'; go_simp; with_reducible rfl); rotate_left; (·simp only [Act.put, sI, sZ, sS, iW, jW]; rfl)
                refine pure_ (i := 17) (N := some 62) (v := ?_) (a' := ?_) #[T,T,T,T,T,T,T,T,T,T,T,T,T,T,T,T,T,T,F,F,F,F,F,F,F,F,F,F,F,F,F,F,F] rfl rfl (aO HT_.out (by kernel_rfl)) (fun _ _ _ h => h) (Or.inl ⟨by rfl, ?_⟩) ?_ ?_; rotate_left; (·intro w'; go_simp; with_reducible rfl); rotate_left; (·simp only [Act.put, sI, sZ, sS, iW, jW]; rfl)
                refine pure_ (i := 18) (N := some 63) (v := ?_) (a' := ?_) #[T,T,T,T,T,T,T,T,T,T,T,T,T,T,T,T,T,T,T,F,F,F,F,F,F,F,F,F,F,F,F,F,F] rfl rfl (aO HT_.out (by kernel_rfl)) (fun _ _ _ h => h) (Or.inl ⟨by rfl, ?_⟩) ?_ ?_; rotate_left; (·intro w'; go_simp; with_reducible rfl); rotate_left; (·simp only [Act.put, sI, sZ, sS, iW, jW]; rfl)
                refine pure_ (i := 19) (N := some 64) (v := ?_) (a' := ?_) #[T,T,T,T,T,T,T,T,T,T,T,T,T,T,T,T,T,T,T,T,F,F,F,F,F,F,F,F,F,F,F,F,F] rfl rfl (aO HT_.out (by kernel_rfl)) (fun _ _ _ h => h) (Or.inl ⟨by rfl, ?_⟩) ?_ ?_; rotate_left; (·intro w'; go_simp; with_reducible rfl); rotate_left; (·simp only [Act.put, sI, sZ, sS, iW, jW]; rfl)
                refine pure_ (i := 20) (N := some 65) (v := ?_) (a' := ?_) #[T,T,T,T,T,T,T,T,T,T,T,T,T,T,T,T,T,T,T,T,T,F,F,F,F,F,F,F,F,F,F,F,F] rfl rfl (aO HT_.out (by kernel_rfl)) (fun _ _ _ h => h) (Or.inl ⟨by rfl, ?_⟩) ?_ ?_; rotate_left; (·intro w'; go_simp; with_reducible rfl); rotate_left; (·simp only [Act.put, sI, sZ, sS, iW, jW]; rfl)
                refine pure_ (i := 21) (N := some 66) (v := ?_) (a' := ?_) #[T,T,T,T,T,T,T,T,T,T,T,T,T,T,T,T,T,T,T,T,T,T,F,F,F,F,F,F,F,F,F,F,F] rfl rfl (aO HT_.out (by kernel_rfl)) (fun _ _ _ h => h) (Or.inl ⟨by rfl, ?_⟩) ?_ ?_; rotate_left; (·intro w'; go_simp; with_reducible rfl); rotate_left; (·simp only [Act.put, sI, sZ, sS, iW, jW]; rfl)
                refine pure_ (i := 22) (N := some 67) (v := ?_) (a' := ?_) #[T,T,T,T,T,T,T,T,T,T,T,T,T,T,T,T,T,T,T,T,T,T,T,F,F,F,F,F,F,F,F,F,F] rfl rfl (aO HT_.out (by kernel_rfl)) (fun _ _ _ h => h) (Or.inl ⟨by rfl, ?_⟩) ?_ ?_; rotate_left; (·intro w'; go_simp; with_reducible rfl); rotate_left; (·simp only [Act.put, sI, sZ, sS, iW, jW]; rfl)
                refine pure_ (i := 24) (N := some 69) (v := ?_) (a' := ?_) #[T,T,T,T,T,T,T,T,T,T,T,T,T,T,T,T,T,T,T,T,T,T,T,F,T,F,F,F,F,F,F,F,F] rfl rfl (aO HT_.out (by kernel_rfl)) (fun _ _ _ h => h) (Or.inl ⟨by rfl, ?_⟩) ?_ ?_; rotate_left; (·intro w'; go_simp; with_reducible rfl); rotate_left; (·simp only [Act.put, sI, sZ, sS, iW, jW]; rfl)
                refine pure_ (i := 25) (N := some 70) (v := ?_) (a' := ?_) #[T,T,T,T,T,T,T,T,T,T,T,T,T,T,T,T,T,T,T,T,T,T,T,F,T,T,F,F,F,F,F,F,F] rfl rfl (aO HT_.out (by kernel_rfl)) (fun _ _ _ h => h) (Or.inl ⟨by rfl, ?_⟩) ?_ ?_; rotate_left; (·intro w'; go_simp; with_reducible rfl); rotate_left; (·simp only [Act.put, sI, sZ, sS, iW, jW]; rfl)
                refine take_ (i := 23) (N := some 68) (v := ?_) (a' := ?_) #[T,T,T,T,T,T,T,T,T,T,T,T,T,T,T,T,T,T,T,T,T,T,T,T,T,T,F,F,F,F,F,F,F] rfl rfl (tW HT_.out HW_.out (by kernel_rfl)) (fun _ _ _ h => h) (Or.inl ⟨by rfl, ?_⟩) hHeld ?_ ?_; rotate_left; (·rintro w' ⟨s0, s1, s2, s3, s4, s5, s6, s7, s8, s9⟩; go_simp; with_reducible rfl); rotate_left; (·simp only [Act.put, sI, sZ, sS, iW, jW]; rfl)
                refine pure_ (i := 26) (N := some 71) (v := ?_) (a' := ?_) #[T,T,T,T,T,T,T,T,T,T,T,T,T,T,T,T,T,T,T,T,T,T,T,T,T,T,T,F,F,F,F,F,F] rfl rfl (aO HT_.out (by kernel_rfl)) (fun _ _ _ h => h) (Or.inl ⟨by rfl, ?_⟩) ?_ ?_; rotate_left; (·intro w'; go_simp; with_reducible rfl); rotate_left; (·simp only [Act.put, sI, sZ, sS, iW, jW]; rfl)
                refine take_ (i := 27) (N := some 72) (v := ?_) (a' := ?_) #[T,T,T,T,T,T,T,T,T,T,T,T,T,T,T,T,T,T,T,T,T,T,T,T,T,T,T,T,F,F,F,F,F] rfl rfl (tW HT_.out HW_.out (by kernel_rfl)) (fun _ _ _ h => h) (Or.inl ⟨by rfl, ?_⟩) hHeld ?_ ?_; rotate_left; (·rintro w' ⟨s0, s1, s2, s3, s4, s5, s6, s7, s8, s9⟩; go_simp; with_reducible rfl); rotate_left; (·simp only [Act.put, sI, sZ, sS, iW, jW]; rfl)
                refine take_ (i := 28) (N := some 73) (v := ?_) (a' := ?_) #[T,T,T,T,T,T,T,T,T,T,T,T,T,T,T,T,T,T,T,T,T,T,T,T,T,T,T,T,T,F,F,F,F] rfl rfl (tW HT_.out HW_.out (by kernel_rfl)) (fun _ _ _ h => h) (Or.inl ⟨by rfl, ?_⟩) hHeld ?_ ?_; rotate_left; (·rintro w' ⟨s0, s1, s2, s3, s4, s5, s6, s7, s8, s9⟩; go_simp; with_reducible rfl); rotate_left; (·simp only [Act.put, sI, sZ, sS, iW, jW]; rfl)
                refine one_ (i := 29) (N := some 74) #[T,T,T,T,T,T,T,T,T,T,T,T,T,T,T,T,T,T,T,T,T,T,T,T,T,T,T,T,T,T,F,F,F] rfl rfl (oO HT_.out (by kernel_rfl)) (by decide) (fun K hK => ?_)
                refine goes_ Try.func62 (by kernel_rfl) rfl #[.agg #[.int .i64 ((rd_T68 l0_3 (ji39)).f0), .int .i64 ((rd_T68 l0_3 (ji39)).f1), .int .i64 ((rd_T68 l0_3 (ji39)).f2)], .agg #[.int .i64 ((rd_T68 l0_3 x40_2).f0), .int .i64 ((rd_T68 l0_3 x40_2).f1), .int .i64 ((rd_T68 l0_3 x40_2).f2)]] (by rfl) rfl rfl (by (try simp only [List.map_toArray, List.map_cons, List.map_nil]); first | done | (simp only [hji39]; rfl) | ((try simp only [hji39]); first | done | rfl) | rfl | (simp only [List.length_drop, List.length_take]; rfl)) ?_
                with_reducible refine (impl_compareArcs.calls k2 ((rd_T68 l0_3 (ji39)).f0) ((rd_T68 l0_3 (ji39)).f1) ((rd_T68 l0_3 (ji39)).f2) ((rd_T68 l0_3 x40_2).f0) ((rd_T68 l0_3 x40_2).f1) ((rd_T68 l0_3 x40_2).f2) t231 _ A42.out).mono ?_
                rintro e w59 ⟨rfl, hb⟩
                refine ⟨_, rfl, ?_⟩
                have n0_ := Aside0.mk (kB (kQ BK220) hb)
                have n1_ := Aside0.mk (kB (kQ BK226) hb)
                have n2_ := Aside0.mk (bP (by repeat (first | (with_reducible first | exact HB.out | apply bA | apply bN | apply bD | refine bS ?_ GE220.out | refine bS ?_ GE226.out) | exact HB.out)) hb)
                clear BK220
                clear BK226
                clear HB
                have BK220 := n0_
                have BK226 := n1_
                have HB := n2_
                clear n0_ n1_ n2_
                (try clear hb)
                (try clear hb2)
                (try clear hk)
                (try clear hi)
                refine hK.out _ _ ⟨(kC BK220.out 0).trans rfl, (kC BK220.out 1).trans rfl, (kC BK220.out 2).trans rfl, (kC BK220.out 3).trans rfl, (kC BK226.out 0).trans rfl, (kC BK226.out 1).trans rfl, (kC BK226.out 2).trans rfl, ((HB.out.cell (World.block_lt_of_cell? w _ hw230_0)).trans hw230_0), ((HB.out.cell (World.block_lt_of_cell? w _ hw230_1)).trans hw230_1), ((HB.out.cell (World.block_lt_of_cell? w _ hw230_2)).trans hw230_2)⟩ (fun hHeld => ?_)
                clear hK K
                refine norm_ (a' := ?_) ?_ ?_
                rotate_left
                ·show Act.put _ (some 74) _ = _
                 simp only [Act.put, sI, sZ, sS, iW, jW]
                 rfl
                refine pure_ (i := 30) (N := some 75) (v := ?_) (a' := ?_) #[T,T,T,T,T,T,T,T,T,T,T,T,T,T,T,T,T,T,T,T,T,T,T,T,T,T,T,T,T,T,T,F,F] rfl rfl (aO HT_.out (by kernel_rfl)) (fun _ _ _ h => h) (Or.inl ⟨by rfl, ?_⟩) ?_ ?_; rotate_left; (·intro w'; go_simp; with_reducible rfl); rotate_left; (·simp only [Act.put, sI, sZ, sS, iW, jW]; rfl)
                refine pure_ (i := 31) (N := some 76) (v := ?_) (a' := ?_) #[T,T,T,T,T,T,T,T,T,T,T,T,T,T,T,T,T,T,T,T,T,T,T,T,T,T,T,T,T,T,T,T,F] rfl rfl (aO HT_.out (by kernel_rfl)) (fun _ _ _ h => h) (Or.inl ⟨by rfl, ?_⟩) ?_ ?_; rotate_left; (·intro w'; go_simp; with_reducible rfl); rotate_left; (·simp only [Act.put, sI, sZ, sS, iW, jW]; rfl)
                refine pure_ (i := 32) (N := some 77) (v := ?_) (a' := ?_) #[T,T,T,T,T,T,T,T,T,T,T,T,T,T,T,T,T,T,T,T,T,T,T,T,T,T,T,T,T,T,T,T,T] rfl rfl (aO HT_.out (by kernel_rfl)) (fun _ _ _ h => h) (Or.inl ⟨by rfl, ?_⟩) ?_ ?_; rotate_left; (·intro w'; go_simp; with_reducible rfl); rotate_left; (·simp only [Act.put, sI, sZ, sS, iW, jW]; rfl)
                refine done_ (done_of HT_.out (by kernel_rfl)) ?_
                try go_wp2
                go_roundg k2
                case measure => have := HJ1.out; have := HK2.out; omega
                case rel => exact ⟨(wrap64 (x40_2 + 1)), eT, H', ⟨by have := HJ1.out; have := HK2.out; omega⟩, ⟨kQ BK220⟩, ⟨by repeat (first | (with_reducible first | exact HB.out | apply bA | apply bN | apply bD | refine bS ?_ GE220.out | refine bS ?_ GE226.out) | exact HB.out)⟩⟩
              ·rw [if_neg c41] at H
               exact absurd H (by simp)
             ·rw [if_neg c40] at H
              exact absurd H (by simp)
            ·rw [if_neg c38] at H
             have c38b0 : decide (0 < x40_2) = false := decide_eq_false c38
             clear c38
             have H' := Aside0.mk H
             clear H
             have p225 : 0 ≤ (x40_2 : Int) := oT
             have q225 : x40_2 < (l0_3.length : Int) := oT
             obtain ⟨ad225, e225, hx225_0, hx225_1, hx225_2⟩ := at_T68 HR0_3.out x40_2 p225 q225
             cases e225
             replace hx225_0 := (HB.out.cell (World.block_lt_of_cell? w _ hx225_0)).trans hx225_0
             replace hx225_1 := (HB.out.cell (World.block_lt_of_cell? w _ hx225_1)).trans hx225_1
             replace hx225_2 := (HB.out.cell (World.block_lt_of_cell? w _ hx225_2)).trans hx225_2
             replace p225 := eq_true p225
             replace q225 := eq_true q225
             try go_wp2_with (first | ((with_reducible refine gate_dst (N := 4) rfl ?_); (try (refine gate_guard (by rfl) ?_; dsimp only)); refine bE ?hg (N := 4) ?hd (cs := #[.int .i64 0, .int .i64 0, .int .i64 0]) (t := 68) ?hr ?_; (case hd => rfl); (case hg => rfl); (case hr => first | (go_simp; done) | (go_simp; rfl)); intro gb226 hg w60 hbox hb; have z_ := bX hb (by repeat (first | (with_reducible first | exact HB.out | apply bA | apply bN | apply bD | refine bS ?_ GE220.out) | exact HB.out)); have n0_ := Aside0.mk (kB (kQ BK220) hb); have n1_ := Aside0.mk (bP z_ hb); have n2_ := Aside0.mk (hbox); have n3_ := Aside0.mk ((by rw [hg]; exact (bZ z_) : w.heap.size ≤ gb226)); have n4_ := Aside0.mk ((by rw [hg]; exact (bZ z_) : w.heap.size ≤ gb226)); have n5_ := Aside0.mk ((by rw [hg]; exact Nat.ne_of_lt (kL (kQ BK220)) : gb220 ≠ gb226)); have n6_ := Aside0.mk ((by rw [hg]; exact Nat.ne_of_gt (kL (kQ BK220)) : gb226 ≠ gb220)); clear BK220; clear HB; have BK220 := n0_; have HB := n1_; have BK226 := n2_; have GW226 := n3_; have GE226 := n4_; have NB220_226 := n5_; have NB226_220 := n6_; clear z_ n0_ n1_ n2_ n3_ n4_ n5_ n6_; clear hb hbox hg; have hnb61 := NB226_220.out; have hnc61 := NB220_226.out; obtain ⟨hcz62_0, hcz62_1, hcz62_2⟩ := cZ3 BK226.out; obtain ⟨hfz62_0, hfz62_1, hfz62_2⟩ := fZ3 BK226.out))
             have n0_ : Aside0 ((((w60.setCell ⟨gb226, 0, none⟩ (.int .i64 ((rd_T68 l0_3 x40_2).f0))).setCell ⟨gb226, 1, none⟩ (.int .i64 ((rd_T68 l0_3 x40_2).f1))).setCell ⟨gb226, 2, none⟩ (.int .i64 ((rd_T68 l0_3 x40_2).f2))).heap[gb220]? = some (.cells #[.int .i64 a0_0, .int .i64 a0_1, .slice A0_2 l0_2.length c0_2, .slice (some ad225) l0_3.length c0_3] 39 (0, 0))) := ⟨by (with_reducible repeat (first | refine kN ?_ _ | refine kD ?_ | refine kA ?_ _)); refine kF ?_ NB220_226.out _; (with_reducible repeat (first | refine kN ?_ _ | refine kD ?_ | refine kA ?_ _)); refine kF ?_ NB220_226.out _; (with_reducible repeat (first | refine kN ?_ _ | refine kD ?_ | refine kA ?_ _)); refine kF ?_ NB220_226.out _; (with_reducible repeat (first | refine kN ?_ _ | refine kD ?_ | refine kA ?_ _)); exact BK220.out⟩
             have n1_ : Aside0 ((((w60.setCell ⟨gb226, 0, none⟩ (.int .i64 ((rd_T68 l0_3 x40_2).f0))).setCell ⟨gb226, 1, none⟩ (.int .i64 ((rd_T68 l0_3 x40_2).f1))).setCell ⟨gb226, 2, none⟩ (.int .i64 ((rd_T68 l0_3 x40_2).f2))).heap[gb226]? = some (.cells #[.int .i64 ((rd_T68 l0_3 x40_2).f0), .int .i64 ((rd_T68 l0_3 x40_2).f1), .int .i64 ((rd_T68 l0_3 x40_2).f2)] 68 (0, 0))) := ⟨by (with_reducible repeat (first | refine kN ?_ _ | refine kD ?_ | refine kA ?_ _)); refine blk_put (cs := #[.int .i64 ((rd_T68 l0_3 x40_2).f0), .int .i64 ((rd_T68 l0_3 x40_2).f1), .int .i64 0]) ?_ 2 _ rfl; (with_reducible repeat (first | refine kN ?_ _ | refine kD ?_ | refine kA ?_ _)); refine blk_put (cs := #[.int .i64 ((rd_T68 l0_3 x40_2).f0), .int .i64 0, .int .i64 0]) ?_ 1 _ rfl; (with_reducible repeat (first | refine kN ?_ _ | refine kD ?_ | refine kA ?_ _)); refine blk_put (cs := #[.int .i64 0, .int .i64 0, .int .i64 0]) ?_ 0 _ rfl; (with_reducible repeat (first | refine kN ?_ _ | refine kD ?_ | refine kA ?_ _)); exact BK226.out⟩
             have n2_ : Aside0 (Below w.heap.size w (((w60.setCell ⟨gb226, 0, none⟩ (.int .i64 ((rd_T68 l0_3 x40_2).f0))).setCell ⟨gb226, 1, none⟩ (.int .i64 ((rd_T68 l0_3 x40_2).f1))).setCell ⟨gb226, 2, none⟩ (.int .i64 ((rd_T68 l0_3 x40_2).f2)))) := ⟨by repeat (first | (with_reducible first | exact HB.out | apply bA | apply bN | apply bD | refine bS ?_ GE220.out | refine bS ?_ GE226.out) | exact HB.out)⟩
             (try clear BK220)
             (try clear BK226)
             (try clear HB)
             generalize (((w60.setCell ⟨gb226, 0, none⟩ (.int .i64 ((rd_T68 l0_3 x40_2).f0))).setCell ⟨gb226, 1, none⟩ (.int .i64 ((rd_T68 l0_3 x40_2).f1))).setCell ⟨gb226, 2, none⟩ (.int .i64 ((rd_T68 l0_3 x40_2).f2))) = w63 at n0_ n1_ n2_ ⊢
             have BK220 := n0_
             have BK226 := n1_
             have HB := n2_
             clear n0_ n1_ n2_
             have n0_ := Aside0.mk (kD BK220.out)
             have n1_ := Aside0.mk (kD BK226.out)
             have n2_ := Aside0.mk (bD HB.out)
             clear BK220
             clear BK226
             clear HB
             have BK220 := n0_
             have BK226 := n1_
             have HB := n2_
             clear n0_ n1_ n2_
             refine start_ (n := 33) (S := fun w' => w'.cell? ⟨gb220, 0, none⟩ = some (.int .i64 a0_0) ∧ w'.cell? ⟨gb220, 1, none⟩ = some (.int .i64 a0_1) ∧ w'.cell? ⟨gb220, 2, none⟩ = some (.slice A0_2 l0_2.length c0_2) ∧ w'.cell? ⟨gb220, 3, none⟩ = some (.slice (some ad225) l0_3.length c0_3) ∧ w'.cell? ⟨gb226, 0, none⟩ = some (.int .i64 ((rd_T68 l0_3 x40_2).f0)) ∧ w'.cell? ⟨gb226, 1, none⟩ = some (.int .i64 ((rd_T68 l0_3 x40_2).f1)) ∧ w'.cell? ⟨gb226, 2, none⟩ = some (.int .i64 ((rd_T68 l0_3 x40_2).f2))) (ds := []) #[F,F,F,F,F,F,F,F,F,F,F,F,F,F,F,F,F,F,F,F,F,F,F,F,F,F,F,F,F,F,F,F,F] (by kernel_rfl) rfl rfl ⟨(kC BK220.out 0).trans rfl, (kC BK220.out 1).trans rfl, (kC BK220.out 2).trans rfl, (kC BK220.out 3).trans rfl, (kC BK226.out 0).trans rfl, (kC BK226.out 1).trans rfl, (kC BK226.out 2).trans rfl⟩ (fun hHeld => ?_); refine with_tabW impl_ValidGrammar.tab6 impl_ValidGrammar.bits6 (fun HT_ HW_ => ?_)
             generalize w63.drew = w64 at BK220 BK226 HB hHeld ⊢
             refine pure_ (i := 1) (N := some 46) (v := ?_) (a' := ?_) #[F,T,F,F,F,F,F,F,F,F,F,F,F,F,F,F,F,F,F,F,F,F,F,F,F,F,F,F,F,F,F,F,F] rfl rfl (aO HT_.out (by kernel_rfl)) (fun _ _ _ h => h) (Or.inl ⟨by rfl, ?_⟩) ?_ ?_; rotate_left; (·intro w'; go_simp; with_reducible rfl); rotate_left; (·simp only [Act.put, sI, sZ, sS, iW, jW]; rfl)
             refine take_ (i := 0) (N := some 45) (v := ?_) (a' := ?_) #[T,T,F,F,F,F,F,F,F,F,F,F,F,F,F,F,F,F,F,F,F,F,F,F,F,F,F,F,F,F,F,F,F] rfl rfl (tW HT_.out HW_.out (by kernel_rfl)) (fun _ _ _ h => h) (Or.inl ⟨by rfl, ?_⟩) hHeld ?_ ?_; rotate_left; (·rintro w' ⟨s0, s1, s2, s3, s4, s5, s6⟩; go_simp; with_reducible rfl); rotate_left; (·simp only [Act.put, sI, sZ, sS, iW, jW]; rfl)
             refine take_ (i := 2) (N := some 47) (v := ?_) (a' := ?_) #[T,T,T,F,F,F,F,F,F,F,F,F,F,F,F,F,F,F,F,F,F,F,F,F,F,F,F,F,F,F,F,F,F] rfl rfl (tW HT_.out HW_.out (by kernel_rfl)) (fun _ _ _ h => h) (Or.inl ⟨by rfl, ?_⟩) hHeld ?_ ?_; rotate_left; (·rintro w' ⟨s0, s1, s2, s3, s4, s5, s6⟩; go_simp; with_reducible rfl); rotate_left; (·simp only [Act.put, sI, sZ, sS, iW, jW]; rfl)
             refine one_ (i := 3) (N := some 48) #[T,T,T,T,F,F,F,F,F,F,F,F,F,F,F,F,F,F,F,F,F,F,F,F,F,F,F,F,F,F,F,F,F] rfl rfl (oO HT_.out (by kernel_rfl)) (by decide) (fun K hK => ?_)
             refine goes_ Try.func59 (by kernel_rfl) rfl #[.agg #[.int .i64 a0_0, .int .i64 a0_1, .slice A0_2 l0_2.length c0_2, .slice (some ad225) l0_3.length c0_3], .int .i64 ((rd_T68 l0_3 x40_2).f0)] (by rfl) rfl rfl lQ ?_
             with_reducible refine (impl_Grammar_hasState.calls a0_0 a0_1 _ _ l0_2 _ _ l0_3 ((rd_T68 l0_3 x40_2).f0) true _ ?side1 ?side2 ?side3 ?side4 A32.out).mono ?_
             (case side1 => exact cP (cB HR0_2.out HB.out))
             (case side2 => exact HC0_2.out)
             (case side3 => exact cP (cB HR0_3.out HB.out))
             (case side4 => exact HC0_3.out)
             rintro e w65 ⟨rfl, hb⟩
             refine ⟨_, rfl, ?_⟩
             have n0_ := Aside0.mk (kB (kQ BK220) hb)
             have n1_ := Aside0.mk (kB (kQ BK226) hb)
             have n2_ := Aside0.mk (bP (by repeat (first | (with_reducible first | exact HB.out | apply bA | apply bN | apply bD | refine bS ?_ GE220.out | refine bS ?_ GE226.out) | exact HB.out)) hb)
             clear BK220
             clear BK226
             clear HB
             have BK220 := n0_
             have BK226 := n1_
             have HB := n2_
             clear n0_ n1_ n2_
             (try clear hb)
             (try clear hb2)
             (try clear hk)
             (try clear hi)
             refine hK.out _ _ ⟨(kC BK220.out 0).trans rfl, (kC BK220.out 1).trans rfl, (kC BK220.out 2).trans rfl, (kC BK220.out 3).trans rfl, (kC BK226.out 0).trans rfl, (kC BK226.out 1).trans rfl, (kC BK226.out 2).trans rfl⟩ (fun hHeld => ?_)
             clear hK K
             refine norm_ (a' := ?_) ?_ ?_
             rotate_left
             ·show Act.put _ (some 48) _ = _
              simp only [Act.put, sI, sZ, sS, iW, jW]
              rfl
             refine pure_ (i := 4) (N := some 49) (v := ?_) (a' := ?_) #[T,T,T,T,T,F,F,F,F,F,F,F,F,F,F,F,F,F,F,F,F,F,F,F,F,F,F,F,F,F,F,F,F] rfl rfl (aO HT_.out (by kernel_rfl)) (fun _ _ _ h => h) (Or.inl ⟨by rfl, ?_⟩) ?_ ?_; rotate_left; (·intro w'; go_simp; with_reducible rfl); rotate_left; (·simp only [Act.put, sI, sZ, sS, iW, jW]; rfl)
             refine pure_ (i := 5) (N := some 50) (v := ?_) (a' := ?_) #[T,T,T,T,T,T,F,F,F,F,F,F,F,F,F,F,F,F,F,F,F,F,F,F,F,F,F,F,F,F,F,F,F] rfl rfl (aO HT_.out (by kernel_rfl)) (fun _ _ _ h => h) (Or.inl ⟨by rfl, ?_⟩) ?_ ?_; rotate_left; (·intro w'; go_simp; with_reducible rfl); rotate_left; (·simp only [Act.put, sI, sZ, sS, iW, jW]; rfl)
             refine pure_ (i := 7) (N := some 52) (v := ?_) (a' := ?_) #[T,T,T,T,T,T,F,T,F,F,F,F,F,F,F,F,F,F,F,F,F,F,F,F,F,F,F,F,F,F,F,F,F] rfl rfl (aO HT_.out (by kernel_rfl)) (fun _ _ _ h => h) (Or.inl ⟨by rfl, ?_⟩) ?_ ?_; rotate_left; (·intro w'; go_simp; with_reducible rfl); rotate_left; (·simp only [Act.put, sI, sZ, sS, iW, jW]; rfl)
             refine take_ (i := 6) (N := some 51) (v := ?_) (a' := ?_) #[T,T,T,T,T,T,T,T,F,F,F,F,F,F,F,F,F,F,F,F,F,F,F,F,F,F,F,F,F,F,F,F,F] rfl rfl (tW HT_.out HW_.out (by kernel_rfl)) (fun _ _ _ h => h) (Or.inl ⟨by rfl, ?_⟩) hHeld ?_ ?_; rotate_left; (·rintro w' ⟨s0, s1, s2, s3, s4, s5, s6⟩; go_simp; with_reducible rfl); rotate_left; (·simp only [Act.put, sI, sZ, sS, iW, jW]; rfl)
             refine take_ (i := 8) (N := some 53) (v := ?_) (a' := ?_) #[T,T,T,T,T,T,T,T,T,F,F,F,F,F,F,F,F,F,F,F,F,F,F,F,F,F,F,F,F,F,F,F,F] rfl rfl (tW HT_.out HW_.out (by kernel_rfl)) (fun _ _ _ h => h) (Or.inl ⟨by rfl, ?_⟩) hHeld ?_ ?_; rotate_left; (·rintro w' ⟨s0, s1, s2, s3, s4, s5, s6⟩; go_simp; with_reducible rfl); rotate_left; (·simp only [Act.put, sI, sZ, sS, iW, jW]; rfl)
             refine one_ (i := 9) (N := some 54) #[T,T,T,T,T,T,T,T,T,T,F,F,F,F,F,F,F,F,F,F,F,F,F,F,F,F,F,F,F,F,F,F,F] rfl rfl (oO HT_.out (by kernel_rfl)) (by decide) (fun K hK => ?_)
             refine goes_ Try.func59 (by kernel_rfl) rfl #[.agg #[.int .i64 a0_0, .int .i64 a0_1, .slice A0_2 l0_2.length c0_2, .slice (some ad225) l0_3.length c0_3], .int .i64 ((rd_T68 l0_3 x40_2).f2)] (by rfl) rfl rfl lQ ?_
             with_reducible refine (impl_Grammar_hasState.calls a0_0 a0_1 _ _ l0_2 _ _ l0_3 ((rd_T68 l0_3 x40_2).f2) true _ ?side1 ?side2 ?side3 ?side4 A34.out).mono ?_
             (case side1 => exact cP (cB HR0_2.out HB.out))
             (case side2 => exact HC0_2.out)
             (case side3 => exact cP (cB HR0_3.out HB.out))
             (case side4 => exact HC0_3.out)
             rintro e w66 ⟨rfl, hb⟩
             refine ⟨_, rfl, ?_⟩
             have n0_ := Aside0.mk (kB (kQ BK220) hb)
             have n1_ := Aside0.mk (kB (kQ BK226) hb)
             have n2_ := Aside0.mk (bP (by repeat (first | (with_reducible first | exact HB.out | apply bA | apply bN | apply bD | refine bS ?_ GE220.out | refine bS ?_ GE226.out) | exact HB.out)) hb)
             clear BK220
             clear BK226
             clear HB
             have BK220 := n0_
             have BK226 := n1_
             have HB := n2_
             clear n0_ n1_ n2_
             (try clear hb)
             (try clear hb2)
             (try clear hk)
             (try clear hi)
             refine hK.out _ _ ⟨(kC BK220.out 0).trans rfl, (kC BK220.out 1).trans rfl, (kC BK220.out 2).trans rfl, (kC BK220.out 3).trans rfl, (kC BK226.out 0).trans rfl, (kC BK226.out 1).trans rfl, (kC BK226.out 2).trans rfl⟩ (fun hHeld => ?_)
             clear hK K
             refine norm_ (a' := ?_) ?_ ?_
             rotate_left
             ·show Act.put _ (some 54) _ = _
              simp only [Act.put, sI, sZ, sS, iW, jW]
              rfl
             refine pure_ (i := 10) (N := some 55) (v := ?_) (a' := ?_) #[T,T,T,T,T,T,T,T,T,T,T,F,F,F,F,F,F,F,F,F,F,F,F,F,F,F,F,F,F,F,F,F,F] rfl rfl (aO HT_.out (by kernel_rfl)) (fun _ _ _ h => h) (Or.inl ⟨by rfl, ?_⟩) ?_ ?_; rotate_left; (·intro w'; go_simp; with_reducible rfl); rotate_left; (·simp only [Act.put, sI, sZ, sS, iW, jW]; rfl)
             refine pure_ (i := 11) (N := some 56) (v := ?_) (a' := ?_) #[T,T,T,T,T,T,T,T,T,T,T,T,F,F,F,F,F,F,F,F,F,F,F,F,F,F,F,F,F,F,F,F,F] rfl rfl (aO HT_.out (by kernel_rfl)) (fun _ _ _ h => h) (Or.inl ⟨by rfl, ?_⟩) ?_ ?_; rotate_left; (·intro w'; go_simp; with_reducible rfl); rotate_left; (·simp only [Act.put, sI, sZ, sS, iW, jW]; rfl)
             refine pure_ (i := 12) (N := some 57) (v := ?_) (a' := ?_) #[T,T,T,T,T,T,T,T,T,T,T,T,T,F,F,F,F,F,F,F,F,F,F,F,F,F,F,F,F,F,F,F,F] rfl rfl (aO HT_.out (by kernel_rfl)) (fun _ _ _ h => h) (Or.inl ⟨by rfl, ?_⟩) ?_ ?_; rotate_left; (·intro w'; go_simp; with_reducible rfl); rotate_left; (·simp only [Act.put, sI, sZ, sS, iW, jW]; rfl)
             refine pure_ (i := 13) (N := some 58) (v := ?_) (a' := ?_) #[T,T,T,T,T,T,T,T,T,T,T,T,T,T,F,F,F,F,F,F,F,F,F,F,F,F,F,F,F,F,F,F,F] rfl rfl (aO HT_.out (by kernel_rfl)) (fun _ _ _ h => h) (Or.inl ⟨by rfl, ?_⟩) ?_ ?_; rotate_left; (·intro w'; go_simp; with_reducible rfl); rotate_left; (·simp only [Act.put, sI, sZ, sS, iW, jW]; rfl)
             refine take_ (i := 14) (N := some 59) (v := ?_) (a' := ?_) #[T,T,T,T,T,T,T,T,T,T,T,T,T,T,T,F,F,F,F,F,F,F,F,F,F,F,F,F,F,F,F,F,F] rfl rfl (tW HT_.out HW_.out (by kernel_rfl)) (fun _ _ _ h => h) (Or.inl ⟨by rfl, ?_⟩) hHeld ?_ ?_; rotate_left; (·rintro w' ⟨s0, s1, s2, s3, s4, s5, s6⟩; go_simp; with_reducible rfl); rotate_left; (·simp only [Act.put, sI, sZ, sS, iW, jW]; rfl)
             refine one_ (i := 15) (N := some 60) #[T,T,T,T,T,T,T,T,T,T,T,T,T,T,T,T,F,F,F,F,F,F,F,F,F,F,F,F,F,F,F,F,F] rfl rfl (oO HT_.out (by kernel_rfl)) (by decide) (fun K hK => ?_)
             refine goes_ Try.func61 (by kernel_rfl) rfl #[.int .i64 ((rd_T68 l0_3 x40_2).f1)] (by rfl) rfl rfl lQ ?_
             with_reducible refine (impl_pitchOk.calls ((rd_T68 l0_3 x40_2).f1) true _ A36.out).mono ?_
             rintro e w' ⟨rfl, ⟨nd, rfl⟩⟩
             refine ⟨_, rfl, ?_⟩
             refine hK.out _ _ ⟨(kC BK220.out 0).trans rfl, (kC BK220.out 1).trans rfl, (kC BK220.out 2).trans rfl, (kC BK220.out 3).trans rfl, (kC BK226.out 0).trans rfl, (kC BK226.out 1).trans rfl, (kC BK226.out 2).trans rfl⟩ (fun hHeld => ?_)
             clear hK K
             refine norm_ (a' := ?_) ?_ ?_
             rotate_left
             ·show Act.put _ (some 60) _ = _
              simp only [Act.put, sI, sZ, sS, iW, jW]
              rfl
             refine pure_ (i := 16) (N := some 61) (v := ?_) (a' := ?_) #[T,T,T,T,T,T,T,T,T,T,T,T,T,T,T,T,T,F,F,F,F,F,F,F,F,F,F,F,F,F,F,F,F] rfl rfl (aO HT_.out (by kernel_rfl)) (fun _ _ _ h => h) (Or.inl ⟨by rfl, ?_⟩) ?_ ?_; rotate_left; (·intro w'; go_simp; with_reducible rfl); rotate_left; (·simp only [Act.put, sI, sZ, sS, iW, jW]; rfl)
             refine pure_ (i := 17) (N := some 62) (v := ?_) (a' := ?_) #[T,T,T,T,T,T,T,T,T,T,T,T,T,T,T,T,T,T,F,F,F,F,F,F,F,F,F,F,F,F,F,F,F] rfl rfl (aO HT_.out (by kernel_rfl)) (fun _ _ _ h => h) (Or.inl ⟨by rfl, ?_⟩) ?_ ?_; rotate_left; (·intro w'; go_simp; with_reducible rfl); rotate_left; (·simp only [Act.put, sI, sZ, sS, iW, jW]; rfl)
             refine pure_ (i := 18) (N := some 63) (v := ?_) (a' := ?_) #[T,T,T,T,T,T,T,T,T,T,T,T,T,T,T,T,T,T,T,F,F,F,F,F,F,F,F,F,F,F,F,F,F] rfl rfl (aO HT_.out (by kernel_rfl)) (fun _ _ _ h => h) (Or.inl ⟨by rfl, ?_⟩) ?_ ?_; rotate_left; (·intro w'; go_simp; with_reducible rfl); rotate_left; (·simp only [Act.put, sI, sZ, sS, iW, jW]; rfl)
             refine pure_ (i := 19) (N := some 64) (v := ?_) (a' := ?_) #[T,T,T,T,T,T,T,T,T,T,T,T,T,T,T,T,T,T,T,T,F,F,F,F,F,F,F,F,F,F,F,F,F] rfl rfl (aO HT_.out (by kernel_rfl)) (fun _ _ _ h => h) (Or.inl ⟨by rfl, ?_⟩) ?_ ?_; rotate_left; (·intro w'; go_simp; with_reducible rfl); rotate_left; (·simp only [Act.put, sI, sZ, sS, iW, jW]; rfl)
             refine pure_ (i := 20) (N := some 65) (v := ?_) (a' := ?_) #[T,T,T,T,T,T,T,T,T,T,T,T,T,T,T,T,T,T,T,T,T,F,F,F,F,F,F,F,F,F,F,F,F] rfl rfl (aO HT_.out (by kernel_rfl)) (fun _ _ _ h => h) (Or.inl ⟨by rfl, ?_⟩) ?_ ?_; rotate_left; (·intro w'; go_simp; with_reducible rfl); rotate_left; (·simp only [Act.put, sI, sZ, sS, iW, jW]; rfl)
             refine pure_ (i := 21) (N := some 66) (v := ?_) (a' := ?_) #[T,T,T,T,T,T,T,T,T,T,T,T,T,T,T,T,T,T,T,T,T,T,F,F,F,F,F,F,F,F,F,F,F] rfl rfl (aO HT_.out (by kernel_rfl)) (fun _ _ _ h => h) (Or.inl ⟨by rfl, ?_⟩) ?_ ?_; rotate_left; (·intro w'; go_simp; with_reducible rfl); rotate_left; (·simp only [Act.put, sI, sZ, sS, iW, jW]; rfl)
             refine pure_ (i := 22) (N := some 67) (v := undef) (a' := ?_) #[T,T,T,T,T,T,T,T,T,T,T,T,T,T,T,T,T,T,T,T,T,T,T,F,F,F,F,F,F,F,F,F,F] rfl rfl (aO HT_.out (by kernel_rfl)) (fun _ _ _ h => h) (Or.inr ⟨by rfl, rfl⟩) ?_ ?_
             rotate_left
             ·simp only [Act.put, sI, sZ, sS, iW, jW]
              rfl
             refine pure_ (i := 23) (N := some 68) (v := undef) (a' := ?_) #[T,T,T,T,T,T,T,T,T,T,T,T,T,T,T,T,T,T,T,T,T,T,T,T,F,F,F,F,F,F,F,F,F] rfl rfl (aO HT_.out (by kernel_rfl)) (fun _ _ _ h => h) (Or.inr ⟨by rfl, rfl⟩) ?_ ?_
             rotate_left
             ·simp only [Act.put, sI, sZ, sS, iW, jW]
              rfl
             refine pure_ (i := 24) (N := some 69) (v := undef) (a' := ?_) #[T,T,T,T,T,T,T,T,T,T,T,T,T,T,T,T,T,T,T,T,T,T,T,T,T,F,F,F,F,F,F,F,F] rfl rfl (aO HT_.out (by kernel_rfl)) (fun _ _ _ h => h) (Or.inr ⟨by rfl, rfl⟩) ?_ ?_
             rotate_left
             ·simp only [Act.put, sI, sZ, sS, iW, jW]
              rfl
             refine pure_ (i := 25) (N := some 70) (v := undef) (a' := ?_) #[T,T,T,T,T,T,T,T,T,T,T,T,T,T,T,T,T,T,T,T,T,T,T,T,T,T,F,F,F,F,F,F,F] rfl rfl (aO HT_.out (by kernel_rfl)) (fun _ _ _ h => h) (Or.inr ⟨by rfl, rfl⟩) ?_ ?_
             rotate_left
             ·simp only [Act.put, sI, sZ, sS, iW, jW]
              rfl
             refine pure_ (i := 26) (N := some 71) (v := undef) (a' := ?_) #[T,T,T,T,T,T,T,T,T,T,T,T,T,T,T,T,T,T,T,T,T,T,T,T,T,T,T,F,F,F,F,F,F] rfl rfl (aO HT_.out (by kernel_rfl)) (fun _ _ _ h => h) (Or.inr ⟨by rfl, rfl⟩) ?_ ?_
             rotate_left
             ·simp only [Act.put, sI, sZ, sS, iW, jW]
              rfl
             refine pure_ (i := 27) (N := some 72) (v := undef) (a' := ?_) #[T,T,T,T,T,T,T,T,T,T,T,T,T,T,T,T,T,T,T,T,T,T,T,T,T,T,T,T,F,F,F,F,F] rfl rfl (aO HT_.out (by kernel_rfl)) (fun _ _ _ h => h) (Or.inr ⟨by rfl, rfl⟩) ?_ ?_
             rotate_left
             ·simp only [Act.put, sI, sZ, sS, iW, jW]
              rfl
             refine pure_ (i := 28) (N := some 73) (v := undef) (a' := ?_) #[T,T,T,T,T,T,T,T,T,T,T,T,T,T,T,T,T,T,T,T,T,T,T,T,T,T,T,T,T,F,F,F,F] rfl rfl (aO HT_.out (by kernel_rfl)) (fun _ _ _ h => h) (Or.inr ⟨by rfl, rfl⟩) ?_ ?_
             rotate_left
             ·simp only [Act.put, sI, sZ, sS, iW, jW]
              rfl
             refine pure_ (i := 29) (N := some 74) (v := undef) (a' := ?_) #[T,T,T,T,T,T,T,T,T,T,T,T,T,T,T,T,T,T,T,T,T,T,T,T,T,T,T,T,T,T,F,F,F] rfl rfl (aO HT_.out (by kernel_rfl)) (fun _ _ _ h => h) (Or.inr ⟨by rfl, rfl⟩) ?_ ?_
             rotate_left
             ·simp only [Act.put, sI, sZ, sS, iW, jW]
              rfl
             refine pure_ (i := 30) (N := some 75) (v := undef) (a' := ?_) #[T,T,T,T,T,T,T,T,T,T,T,T,T,T,T,T,T,T,T,T,T,T,T,T,T,T,T,T,T,T,T,F,F] rfl rfl (aO HT_.out (by kernel_rfl)) (fun _ _ _ h => h) (Or.inr ⟨by rfl, rfl⟩) ?_ ?_
             rotate_left
             ·simp only [Act.put, sI, sZ, sS, iW, jW]
              rfl
             refine pure_ (i := 31) (N := some 76) (v := ?_) (a' := ?_) #[T,T,T,T,T,T,T,T,T,T,T,T,T,T,T,T,T,T,T,T,T,T,T,T,T,T,T,T,T,T,T,T,F] rfl rfl (aO HT_.out (by kernel_rfl)) (fun _ _ _ h => h) (Or.inl ⟨by rfl, ?_⟩) ?_ ?_; rotate_left; (·intro w'; go_simp; with_reducible rfl); rotate_left; (·simp only [Act.put, sI, sZ, sS, iW, jW]; rfl)
             refine pure_ (i := 32) (N := some 77) (v := ?_) (a' := ?_) #[T,T,T,T,T,T,T,T,T,T,T,T,T,T,T,T,T,T,T,T,T,T,T,T,T,T,T,T,T,T,T,T,T] rfl rfl (aO HT_.out (by kernel_rfl)) (fun _ _ _ h => h) (Or.inl ⟨by rfl, ?_⟩) ?_ ?_; rotate_left; (·intro w'; go_simp; with_reducible rfl); rotate_left; (·simp only [Act.put, sI, sZ, sS, iW, jW]; rfl)
             refine done_ (done_of HT_.out (by kernel_rfl)) ?_
             try go_wp2
             go_roundg k2
             case measure => have := HJ1.out; have := HK2.out; omega
             case rel => exact ⟨(wrap64 (x40_2 + 1)), eT, H', ⟨by have := HJ1.out; have := HK2.out; omega⟩, ⟨kQ BK220⟩, ⟨by repeat (first | (with_reducible first | exact HB.out | apply bA | apply bN | apply bD | refine bS ?_ GE220.out | refine bS ?_ GE226.out) | exact HB.out)⟩⟩
           ·replace c37 := Bool.eq_false_iff.mpr c37
            subst c37
            have H1 : (some false) = some r := by rw [if_neg (show ¬ (false = true) by decide)] at H; exact H
            clear H
            have H := H1
            clear H1
            obtain rfl := Option.some.inj H
            have p225 : 0 ≤ (x40_2 : Int) := oT
            have q225 : x40_2 < (l0_3.length : Int) := oT
            obtain ⟨ad225, e225, hx225_0, hx225_1, hx225_2⟩ := at_T68 HR0_3.out x40_2 p225 q225
            cases e225
            replace hx225_0 := (HB.out.cell (World.block_lt_of_cell? w _ hx225_0)).trans hx225_0
            replace hx225_1 := (HB.out.cell (World.block_lt_of_cell? w _ hx225_1)).trans hx225_1
            replace hx225_2 := (HB.out.cell (World.block_lt_of_cell? w _ hx225_2)).trans hx225_2
            replace p225 := eq_true p225
            replace q225 := eq_true q225
            try go_wp2_with (first | ((with_reducible refine gate_dst (N := 4) rfl ?_); (try (refine gate_guard (by rfl) ?_; dsimp only)); refine bE ?hg (N := 4) ?hd (cs := #[.int .i64 0, .int .i64 0, .int .i64 0]) (t := 68) ?hr ?_; (case hd => rfl); (case hg => rfl); (case hr => first | (go_simp; done) | (go_simp; rfl)); intro gb226 hg w67 hbox hb; have z_ := bX hb (by repeat (first | (with_reducible first | exact HB.out | apply bA | apply bN | apply bD | refine bS ?_ GE220.out) | exact HB.out)); have n0_ := Aside0.mk (kB (kQ BK220) hb); have n1_ := Aside0.mk (bP z_ hb); have n2_ := Aside0.mk (hbox); have n3_ := Aside0.mk ((by rw [hg]; exact (bZ z_) : w.heap.size ≤ gb226)); have n4_ := Aside0.mk ((by rw [hg]; exact (bZ z_) : w.heap.size ≤ gb226)); have n5_ := Aside0.mk ((by rw [hg]; exact Nat.ne_of_lt (kL (kQ BK220)) : gb220 ≠ gb226)); have n6_ := Aside0.mk ((by rw [hg]; exact Nat.ne_of_gt (kL (kQ BK220)) : gb226 ≠ gb220)); clear BK220; clear HB; have BK220 := n0_; have HB := n1_; have BK226 := n2_; have GW226 := n3_; have GE226 := n4_; have NB220_226 := n5_; have NB226_220 := n6_; clear z_ n0_ n1_ n2_ n3_ n4_ n5_ n6_; clear hb hbox hg; have hnb68 := NB226_220.out; have hnc68 := NB220_226.out; obtain ⟨hcz69_0, hcz69_1, hcz69_2⟩ := cZ3 BK226.out; obtain ⟨hfz69_0, hfz69_1, hfz69_2⟩ := fZ3 BK226.out))
            have n0_ : Aside0 ((((w67.setCell ⟨gb226, 0, none⟩ (.int .i64 ((rd_T68 l0_3 x40_2).f0))).setCell ⟨gb226, 1, none⟩ (.int .i64 ((rd_T68 l0_3 x40_2).f1))).setCell ⟨gb226, 2, none⟩ (.int .i64 ((rd_T68 l0_3 x40_2).f2))).heap[gb220]? = some (.cells #[.int .i64 a0_0, .int .i64 a0_1, .slice A0_2 l0_2.length c0_2, .slice (some ad225) l0_3.length c0_3] 39 (0, 0))) := ⟨by (with_reducible repeat (first | refine kN ?_ _ | refine kD ?_ | refine kA ?_ _)); refine kF ?_ NB220_226.out _; (with_reducible repeat (first | refine kN ?_ _ | refine kD ?_ | refine kA ?_ _)); refine kF ?_ NB220_226.out _; (with_reducible repeat (first | refine kN ?_ _ | refine kD ?_ | refine kA ?_ _)); refine kF ?_ NB220_226.out _; (with_reducible repeat (first | refine kN ?_ _ | refine kD ?_ | refine kA ?_ _)); exact BK220.out⟩
            have n1_ : Aside0 ((((w67.setCell ⟨gb226, 0, none⟩ (.int .i64 ((rd_T68 l0_3 x40_2).f0))).setCell ⟨gb226, 1, none⟩ (.int .i64 ((rd_T68 l0_3 x40_2).f1))).setCell ⟨gb226, 2, none⟩ (.int .i64 ((rd_T68 l0_3 x40_2).f2))).heap[gb226]? = some (.cells #[.int .i64 ((rd_T68 l0_3 x40_2).f0), .int .i64 ((rd_T68 l0_3 x40_2).f1), .int .i64 ((rd_T68 l0_3 x40_2).f2)] 68 (0, 0))) := ⟨by (with_reducible repeat (first | refine kN ?_ _ | refine kD ?_ | refine kA ?_ _)); refine blk_put (cs := #[.int .i64 ((rd_T68 l0_3 x40_2).f0), .int .i64 ((rd_T68 l0_3 x40_2).f1), .int .i64 0]) ?_ 2 _ rfl; (with_reducible repeat (first | refine kN ?_ _ | refine kD ?_ | refine kA ?_ _)); refine blk_put (cs := #[.int .i64 ((rd_T68 l0_3 x40_2).f0), .int .i64 0, .int .i64 0]) ?_ 1 _ rfl; (with_reducible repeat (first | refine kN ?_ _ | refine kD ?_ | refine kA ?_ _)); refine blk_put (cs := #[.int .i64 0, .int .i64 0, .int .i64 0]) ?_ 0 _ rfl; (with_reducible repeat (first | refine kN ?_ _ | refine kD ?_ | refine kA ?_ _)); exact BK226.out⟩
            have n2_ : Aside0 (Below w.heap.size w (((w67.setCell ⟨gb226, 0, none⟩ (.int .i64 ((rd_T68 l0_3 x40_2).f0))).setCell ⟨gb226, 1, none⟩ (.int .i64 ((rd_T68 l0_3 x40_2).f1))).setCell ⟨gb226, 2, none⟩ (.int .i64 ((rd_T68 l0_3 x40_2).f2)))) := ⟨by repeat (first | (with_reducible first | exact HB.out | apply bA | apply bN | apply bD | refine bS ?_ GE220.out | refine bS ?_ GE226.out) | exact HB.out)⟩
            (try clear BK220)
            (try clear BK226)
            (try clear HB)
            generalize (((w67.setCell ⟨gb226, 0, none⟩ (.int .i64 ((rd_T68 l0_3 x40_2).f0))).setCell ⟨gb226, 1, none⟩ (.int .i64 ((rd_T68 l0_3 x40_2).f1))).setCell ⟨gb226, 2, none⟩ (.int .i64 ((rd_T68 l0_3 x40_2).f2))) = w70 at n0_ n1_ n2_ ⊢
            have BK220 := n0_
            have BK226 := n1_
            have HB := n2_
            clear n0_ n1_ n2_
            have n0_ := Aside0.mk (kD BK220.out)
            have n1_ := Aside0.mk (kD BK226.out)
            have n2_ := Aside0.mk (bD HB.out)
            clear BK220
            clear BK226
            clear HB
            have BK220 := n0_
            have BK226 := n1_
            have HB := n2_
            clear n0_ n1_ n2_
            refine start_ (n := 33) (S := fun w' => w'.cell? ⟨gb220, 0, none⟩ = some (.int .i64 a0_0) ∧ w'.cell? ⟨gb220, 1, none⟩ = some (.int .i64 a0_1) ∧ w'.cell? ⟨gb220, 2, none⟩ = some (.slice A0_2 l0_2.length c0_2) ∧ w'.cell? ⟨gb220, 3, none⟩ = some (.slice (some ad225) l0_3.length c0_3) ∧ w'.cell? ⟨gb226, 0, none⟩ = some (.int .i64 ((rd_T68 l0_3 x40_2).f0)) ∧ w'.cell? ⟨gb226, 1, none⟩ = some (.int .i64 ((rd_T68 l0_3 x40_2).f1)) ∧ w'.cell? ⟨gb226, 2, none⟩ = some (.int .i64 ((rd_T68 l0_3 x40_2).f2))) (ds := []) #[F,F,F,F,F,F,F,F,F,F,F,F,F,F,F,F,F,F,F,F,F,F,F,F,F,F,F,F,F,F,F,F,F] (by kernel_rfl) rfl rfl ⟨(kC BK220.out 0).trans rfl, (kC BK220.out 1).trans rfl, (kC BK220.out 2).trans rfl, (kC BK220.out 3).trans rfl, (kC BK226.out 0).trans rfl, (kC BK226.out 1).trans rfl, (kC BK226.out 2).trans rfl⟩ (fun hHeld => ?_); refine with_tabW impl_ValidGrammar.tab6 impl_ValidGrammar.bits6 (fun HT_ HW_ => ?_)
            generalize w70.drew = w71 at BK220 BK226 HB hHeld ⊢
            refine pure_ (i := 1) (N := some 46) (v := ?_) (a' := ?_) #[F,T,F,F,F,F,F,F,F,F,F,F,F,F,F,F,F,F,F,F,F,F,F,F,F,F,F,F,F,F,F,F,F] rfl rfl (aO HT_.out (by kernel_rfl)) (fun _ _ _ h => h) (Or.inl ⟨by rfl, ?_⟩) ?_ ?_; rotate_left; (·intro w'; go_simp; with_reducible rfl); rotate_left; (·simp only [Act.put, sI, sZ, sS, iW, jW]; rfl)
            refine take_ (i := 0) (N := some 45) (v := ?_) (a' := ?_) #[T,T,F,F,F,F,F,F,F,F,F,F,F,F,F,F,F,F,F,F,F,F,F,F,F,F,F,F,F,F,F,F,F] rfl rfl (tW HT_.out HW_.out (by kernel_rfl)) (fun _ _ _ h => h) (Or.inl ⟨by rfl, ?_⟩) hHeld ?_ ?_; rotate_left; (·rintro w' ⟨s0, s1, s2, s3, s4, s5, s6⟩; go_simp; with_reducible rfl); rotate_left; (·simp only [Act.put, sI, sZ, sS, iW, jW]; rfl)
            refine take_ (i := 2) (N := some 47) (v := ?_) (a' := ?_) #[T,T,T,F,F,F,F,F,F,F,F,F,F,F,F,F,F,F,F,F,F,F,F,F,F,F,F,F,F,F,F,F,F] rfl rfl (tW HT_.out HW_.out (by kernel_rfl)) (fun _ _ _ h => h) (Or.inl ⟨by rfl, ?_⟩) hHeld ?_ ?_; rotate_left; (·rintro w' ⟨s0, s1, s2, s3, s4, s5, s6⟩; go_simp; with_reducible rfl); rotate_left; (·simp only [Act.put, sI, sZ, sS, iW, jW]; rfl)
            refine one_ (i := 3) (N := some 48) #[T,T,T,T,F,F,F,F,F,F,F,F,F,F,F,F,F,F,F,F,F,F,F,F,F,F,F,F,F,F,F,F,F] rfl rfl (oO HT_.out (by kernel_rfl)) (by decide) (fun K hK => ?_)
            refine goes_ Try.func59 (by kernel_rfl) rfl #[.agg #[.int .i64 a0_0, .int .i64 a0_1, .slice A0_2 l0_2.length c0_2, .slice (some ad225) l0_3.length c0_3], .int .i64 ((rd_T68 l0_3 x40_2).f0)] (by rfl) rfl rfl lQ ?_
            with_reducible refine (impl_Grammar_hasState.calls a0_0 a0_1 _ _ l0_2 _ _ l0_3 ((rd_T68 l0_3 x40_2).f0) true _ ?side1 ?side2 ?side3 ?side4 A32.out).mono ?_
            (case side1 => exact cP (cB HR0_2.out HB.out))
            (case side2 => exact HC0_2.out)
            (case side3 => exact cP (cB HR0_3.out HB.out))
            (case side4 => exact HC0_3.out)
            rintro e w72 ⟨rfl, hb⟩
            refine ⟨_, rfl, ?_⟩
            have n0_ := Aside0.mk (kB (kQ BK220) hb)
            have n1_ := Aside0.mk (kB (kQ BK226) hb)
            have n2_ := Aside0.mk (bP (by repeat (first | (with_reducible first | exact HB.out | apply bA | apply bN | apply bD | refine bS ?_ GE220.out | refine bS ?_ GE226.out) | exact HB.out)) hb)
            clear BK220
            clear BK226
            clear HB
            have BK220 := n0_
            have BK226 := n1_
            have HB := n2_
            clear n0_ n1_ n2_
            (try clear hb)
            (try clear hb2)
            (try clear hk)
            (try clear hi)
            refine hK.out _ _ ⟨(kC BK220.out 0).trans rfl, (kC BK220.out 1).trans rfl, (kC BK220.out 2).trans rfl, (kC BK220.out 3).trans rfl, (kC BK226.out 0).trans rfl, (kC BK226.out 1).trans rfl, (kC BK226.out 2).trans rfl⟩ (fun hHeld => ?_)
            clear hK K
            refine norm_ (a' := ?_) ?_ ?_
            rotate_left
            ·show Act.put _ (some 48) _ = _
             simp only [Act.put, sI, sZ, sS, iW, jW]
             rfl
            refine pure_ (i := 4) (N := some 49) (v := ?_) (a' := ?_) #[T,T,T,T,T,F,F,F,F,F,F,F,F,F,F,F,F,F,F,F,F,F,F,F,F,F,F,F,F,F,F,F,F] rfl rfl (aO HT_.out (by kernel_rfl)) (fun _ _ _ h => h) (Or.inl ⟨by rfl, ?_⟩) ?_ ?_; rotate_left; (·intro w'; go_simp; with_reducible rfl); rotate_left; (·simp only [Act.put, sI, sZ, sS, iW, jW]; rfl)
            refine pure_ (i := 5) (N := some 50) (v := ?_) (a' := ?_) #[T,T,T,T,T,T,F,F,F,F,F,F,F,F,F,F,F,F,F,F,F,F,F,F,F,F,F,F,F,F,F,F,F] rfl rfl (aO HT_.out (by kernel_rfl)) (fun _ _ _ h => h) (Or.inl ⟨by rfl, ?_⟩) ?_ ?_; rotate_left; (·intro w'; go_simp; with_reducible rfl); rotate_left; (·simp only [Act.put, sI, sZ, sS, iW, jW]; rfl)
            refine pure_ (i := 7) (N := some 52) (v := ?_) (a' := ?_) #[T,T,T,T,T,T,F,T,F,F,F,F,F,F,F,F,F,F,F,F,F,F,F,F,F,F,F,F,F,F,F,F,F] rfl rfl (aO HT_.out (by kernel_rfl)) (fun _ _ _ h => h) (Or.inl ⟨by rfl, ?_⟩) ?_ ?_; rotate_left; (·intro w'; go_simp; with_reducible rfl); rotate_left; (·simp only [Act.put, sI, sZ, sS, iW, jW]; rfl)
            refine take_ (i := 6) (N := some 51) (v := ?_) (a' := ?_) #[T,T,T,T,T,T,T,T,F,F,F,F,F,F,F,F,F,F,F,F,F,F,F,F,F,F,F,F,F,F,F,F,F] rfl rfl (tW HT_.out HW_.out (by kernel_rfl)) (fun _ _ _ h => h) (Or.inl ⟨by rfl, ?_⟩) hHeld ?_ ?_; rotate_left; (·rintro w' ⟨s0, s1, s2, s3, s4, s5, s6⟩; go_simp; with_reducible rfl); rotate_left; (·simp only [Act.put, sI, sZ, sS, iW, jW]; rfl)
            refine take_ (i := 8) (N := some 53) (v := ?_) (a' := ?_) #[T,T,T,T,T,T,T,T,T,F,F,F,F,F,F,F,F,F,F,F,F,F,F,F,F,F,F,F,F,F,F,F,F] rfl rfl (tW HT_.out HW_.out (by kernel_rfl)) (fun _ _ _ h => h) (Or.inl ⟨by rfl, ?_⟩) hHeld ?_ ?_; rotate_left; (·rintro w' ⟨s0, s1, s2, s3, s4, s5, s6⟩; go_simp; with_reducible rfl); rotate_left; (·simp only [Act.put, sI, sZ, sS, iW, jW]; rfl)
            refine one_ (i := 9) (N := some 54) #[T,T,T,T,T,T,T,T,T,T,F,F,F,F,F,F,F,F,F,F,F,F,F,F,F,F,F,F,F,F,F,F,F] rfl rfl (oO HT_.out (by kernel_rfl)) (by decide) (fun K hK => ?_)
            refine goes_ Try.func59 (by kernel_rfl) rfl #[.agg #[.int .i64 a0_0, .int .i64 a0_1, .slice A0_2 l0_2.length c0_2, .slice (some ad225) l0_3.length c0_3], .int .i64 ((rd_T68 l0_3 x40_2).f2)] (by rfl) rfl rfl lQ ?_
            with_reducible refine (impl_Grammar_hasState.calls a0_0 a0_1 _ _ l0_2 _ _ l0_3 ((rd_T68 l0_3 x40_2).f2) true _ ?side1 ?side2 ?side3 ?side4 A34.out).mono ?_
            (case side1 => exact cP (cB HR0_2.out HB.out))
            (case side2 => exact HC0_2.out)
            (case side3 => exact cP (cB HR0_3.out HB.out))
            (case side4 => exact HC0_3.out)
            rintro e w73 ⟨rfl, hb⟩
            refine ⟨_, rfl, ?_⟩
            have n0_ := Aside0.mk (kB (kQ BK220) hb)
            have n1_ := Aside0.mk (kB (kQ BK226) hb)
            have n2_ := Aside0.mk (bP (by repeat (first | (with_reducible first | exact HB.out | apply bA | apply bN | apply bD | refine bS ?_ GE220.out | refine bS ?_ GE226.out) | exact HB.out)) hb)
            clear BK220
            clear BK226
            clear HB
            have BK220 := n0_
            have BK226 := n1_
            have HB := n2_
            clear n0_ n1_ n2_
            (try clear hb)
            (try clear hb2)
            (try clear hk)
            (try clear hi)
            refine hK.out _ _ ⟨(kC BK220.out 0).trans rfl, (kC BK220.out 1).trans rfl, (kC BK220.out 2).trans rfl, (kC BK220.out 3).trans rfl, (kC BK226.out 0).trans rfl, (kC BK226.out 1).trans rfl, (kC BK226.out 2).trans rfl⟩ (fun hHeld => ?_)
            clear hK K
            refine norm_ (a' := ?_) ?_ ?_
            rotate_left
            ·show Act.put _ (some 54) _ = _
             simp only [Act.put, sI, sZ, sS, iW, jW]
             rfl
            refine pure_ (i := 10) (N := some 55) (v := ?_) (a' := ?_) #[T,T,T,T,T,T,T,T,T,T,T,F,F,F,F,F,F,F,F,F,F,F,F,F,F,F,F,F,F,F,F,F,F] rfl rfl (aO HT_.out (by kernel_rfl)) (fun _ _ _ h => h) (Or.inl ⟨by rfl, ?_⟩) ?_ ?_; rotate_left; (·intro w'; go_simp; with_reducible rfl); rotate_left; (·simp only [Act.put, sI, sZ, sS, iW, jW]; rfl)
            refine pure_ (i := 11) (N := some 56) (v := ?_) (a' := ?_) #[T,T,T,T,T,T,T,T,T,T,T,T,F,F,F,F,F,F,F,F,F,F,F,F,F,F,F,F,F,F,F,F,F] rfl rfl (aO HT_.out (by kernel_rfl)) (fun _ _ _ h => h) (Or.inl ⟨by rfl, ?_⟩) ?_ ?_; rotate_left; (·intro w'; go_simp; with_reducible rfl); rotate_left; (·simp only [Act.put, sI, sZ, sS, iW, jW]; rfl)
            refine pure_ (i := 12) (N := some 57) (v := ?_) (a' := ?_) #[T,T,T,T,T,T,T,T,T,T,T,T,T,F,F,F,F,F,F,F,F,F,F,F,F,F,F,F,F,F,F,F,F] rfl rfl (aO HT_.out (by kernel_rfl)) (fun _ _ _ h => h) (Or.inl ⟨by rfl, ?_⟩) ?_ ?_; rotate_left; (·intro w'; go_simp; with_reducible rfl); rotate_left; (·simp only [Act.put, sI, sZ, sS, iW, jW]; rfl)
            refine pure_ (i := 13) (N := some 58) (v := ?_) (a' := ?_) #[T,T,T,T,T,T,T,T,T,T,T,T,T,T,F,F,F,F,F,F,F,F,F,F,F,F,F,F,F,F,F,F,F] rfl rfl (aO HT_.out (by kernel_rfl)) (fun _ _ _ h => h) (Or.inl ⟨by rfl, ?_⟩) ?_ ?_; rotate_left; (·intro w'; go_simp; with_reducible rfl); rotate_left; (·simp only [Act.put, sI, sZ, sS, iW, jW]; rfl)
            refine take_ (i := 14) (N := some 59) (v := ?_) (a' := ?_) #[T,T,T,T,T,T,T,T,T,T,T,T,T,T,T,F,F,F,F,F,F,F,F,F,F,F,F,F,F,F,F,F,F] rfl rfl (tW HT_.out HW_.out (by kernel_rfl)) (fun _ _ _ h => h) (Or.inl ⟨by rfl, ?_⟩) hHeld ?_ ?_; rotate_left; (·rintro w' ⟨s0, s1, s2, s3, s4, s5, s6⟩; go_simp; with_reducible rfl); rotate_left; (·simp only [Act.put, sI, sZ, sS, iW, jW]; rfl)
            refine one_ (i := 15) (N := some 60) #[T,T,T,T,T,T,T,T,T,T,T,T,T,T,T,T,F,F,F,F,F,F,F,F,F,F,F,F,F,F,F,F,F] rfl rfl (oO HT_.out (by kernel_rfl)) (by decide) (fun K hK => ?_)
            refine goes_ Try.func61 (by kernel_rfl) rfl #[.int .i64 ((rd_T68 l0_3 x40_2).f1)] (by rfl) rfl rfl lQ ?_
            with_reducible refine (impl_pitchOk.calls ((rd_T68 l0_3 x40_2).f1) false _ A36.out).mono ?_
            rintro e w' ⟨rfl, ⟨nd, rfl⟩⟩
            refine ⟨_, rfl, ?_⟩
            refine hK.out _ _ ⟨(kC BK220.out 0).trans rfl, (kC BK220.out 1).trans rfl, (kC BK220.out 2).trans rfl, (kC BK220.out 3).trans rfl, (kC BK226.out 0).trans rfl, (kC BK226.out 1).trans rfl, (kC BK226.out 2).trans rfl⟩ (fun hHeld => ?_)
            clear hK K
            refine norm_ (a' := ?_) ?_ ?_
            rotate_left
            ·show Act.put _ (some 60) _ = _
             simp only [Act.put, sI, sZ, sS, iW, jW]
             rfl
            refine pure_ (i := 16) (N := some 61) (v := ?_) (a' := ?_) #[T,T,T,T,T,T,T,T,T,T,T,T,T,T,T,T,T,F,F,F,F,F,F,F,F,F,F,F,F,F,F,F,F] rfl rfl (aO HT_.out (by kernel_rfl)) (fun _ _ _ h => h) (Or.inl ⟨by rfl, ?_⟩) ?_ ?_; rotate_left; (·intro w'; go_simp; with_reducible rfl); rotate_left; (·simp only [Act.put, sI, sZ, sS, iW, jW]; rfl)
            refine pure_ (i := 17) (N := some 62) (v := ?_) (a' := ?_) #[T,T,T,T,T,T,T,T,T,T,T,T,T,T,T,T,T,T,F,F,F,F,F,F,F,F,F,F,F,F,F,F,F] rfl rfl (aO HT_.out (by kernel_rfl)) (fun _ _ _ h => h) (Or.inl ⟨by rfl, ?_⟩) ?_ ?_; rotate_left; (·intro w'; go_simp; with_reducible rfl); rotate_left; (·simp only [Act.put, sI, sZ, sS, iW, jW]; rfl)
            refine pure_ (i := 18) (N := some 63) (v := ?_) (a' := ?_) #[T,T,T,T,T,T,T,T,T,T,T,T,T,T,T,T,T,T,T,F,F,F,F,F,F,F,F,F,F,F,F,F,F] rfl rfl (aO HT_.out (by kernel_rfl)) (fun _ _ _ h => h) (Or.inl ⟨by rfl, ?_⟩) ?_ ?_; rotate_left; (·intro w'; go_simp; with_reducible rfl); rotate_left; (·simp only [Act.put, sI, sZ, sS, iW, jW]; rfl)
            refine pure_ (i := 19) (N := some 64) (v := undef) (a' := ?_) #[T,T,T,T,T,T,T,T,T,T,T,T,T,T,T,T,T,T,T,T,F,F,F,F,F,F,F,F,F,F,F,F,F] rfl rfl (aO HT_.out (by kernel_rfl)) (fun _ _ _ h => h) (Or.inr ⟨by rfl, rfl⟩) ?_ ?_
            rotate_left
            ·simp only [Act.put, sI, sZ, sS, iW, jW]
             rfl
            refine pure_ (i := 20) (N := some 65) (v := undef) (a' := ?_) #[T,T,T,T,T,T,T,T,T,T,T,T,T,T,T,T,T,T,T,T,T,F,F,F,F,F,F,F,F,F,F,F,F] rfl rfl (aO HT_.out (by kernel_rfl)) (fun _ _ _ h => h) (Or.inr ⟨by rfl, rfl⟩) ?_ ?_
            rotate_left
            ·simp only [Act.put, sI, sZ, sS, iW, jW]
             rfl
            refine pure_ (i := 21) (N := some 66) (v := undef) (a' := ?_) #[T,T,T,T,T,T,T,T,T,T,T,T,T,T,T,T,T,T,T,T,T,T,F,F,F,F,F,F,F,F,F,F,F] rfl rfl (aO HT_.out (by kernel_rfl)) (fun _ _ _ h => h) (Or.inr ⟨by rfl, rfl⟩) ?_ ?_
            rotate_left
            ·simp only [Act.put, sI, sZ, sS, iW, jW]
             rfl
            refine pure_ (i := 22) (N := some 67) (v := undef) (a' := ?_) #[T,T,T,T,T,T,T,T,T,T,T,T,T,T,T,T,T,T,T,T,T,T,T,F,F,F,F,F,F,F,F,F,F] rfl rfl (aO HT_.out (by kernel_rfl)) (fun _ _ _ h => h) (Or.inr ⟨by rfl, rfl⟩) ?_ ?_
            rotate_left
            ·simp only [Act.put, sI, sZ, sS, iW, jW]
             rfl
            refine pure_ (i := 23) (N := some 68) (v := undef) (a' := ?_) #[T,T,T,T,T,T,T,T,T,T,T,T,T,T,T,T,T,T,T,T,T,T,T,T,F,F,F,F,F,F,F,F,F] rfl rfl (aO HT_.out (by kernel_rfl)) (fun _ _ _ h => h) (Or.inr ⟨by rfl, rfl⟩) ?_ ?_
            rotate_left
            ·simp only [Act.put, sI, sZ, sS, iW, jW]
             rfl
            refine pure_ (i := 24) (N := some 69) (v := undef) (a' := ?_) #[T,T,T,T,T,T,T,T,T,T,T,T,T,T,T,T,T,T,T,T,T,T,T,T,T,F,F,F,F,F,F,F,F] rfl rfl (aO HT_.out (by kernel_rfl)) (fun _ _ _ h => h) (Or.inr ⟨by rfl, rfl⟩) ?_ ?_
            rotate_left
            ·simp only [Act.put, sI, sZ, sS, iW, jW]
             rfl
            refine pure_ (i := 25) (N := some 70) (v := undef) (a' := ?_) #[T,T,T,T,T,T,T,T,T,T,T,T,T,T,T,T,T,T,T,T,T,T,T,T,T,T,F,F,F,F,F,F,F] rfl rfl (aO HT_.out (by kernel_rfl)) (fun _ _ _ h => h) (Or.inr ⟨by rfl, rfl⟩) ?_ ?_
            rotate_left
            ·simp only [Act.put, sI, sZ, sS, iW, jW]
             rfl
            refine pure_ (i := 26) (N := some 71) (v := undef) (a' := ?_) #[T,T,T,T,T,T,T,T,T,T,T,T,T,T,T,T,T,T,T,T,T,T,T,T,T,T,T,F,F,F,F,F,F] rfl rfl (aO HT_.out (by kernel_rfl)) (fun _ _ _ h => h) (Or.inr ⟨by rfl, rfl⟩) ?_ ?_
            rotate_left
            ·simp only [Act.put, sI, sZ, sS, iW, jW]
             rfl
            refine pure_ (i := 27) (N := some 72) (v := undef) (a' := ?_) #[T,T,T,T,T,T,T,T,T,T,T,T,T,T,T,T,T,T,T,T,T,T,T,T,T,T,T,T,F,F,F,F,F] rfl rfl (aO HT_.out (by kernel_rfl)) (fun _ _ _ h => h) (Or.inr ⟨by rfl, rfl⟩) ?_ ?_
            rotate_left
            ·simp only [Act.put, sI, sZ, sS, iW, jW]
             rfl
            refine pure_ (i := 28) (N := some 73) (v := undef) (a' := ?_) #[T,T,T,T,T,T,T,T,T,T,T,T,T,T,T,T,T,T,T,T,T,T,T,T,T,T,T,T,T,F,F,F,F] rfl rfl (aO HT_.out (by kernel_rfl)) (fun _ _ _ h => h) (Or.inr ⟨by rfl, rfl⟩) ?_ ?_
            rotate_left
            ·simp only [Act.put, sI, sZ, sS, iW, jW]
             rfl
            refine pure_ (i := 29) (N := some 74) (v := undef) (a' := ?_) #[T,T,T,T,T,T,T,T,T,T,T,T,T,T,T,T,T,T,T,T,T,T,T,T,T,T,T,T,T,T,F,F,F] rfl rfl (aO HT_.out (by kernel_rfl)) (fun _ _ _ h => h) (Or.inr ⟨by rfl, rfl⟩) ?_ ?_
            rotate_left
            ·simp only [Act.put, sI, sZ, sS, iW, jW]
             rfl
            refine pure_ (i := 30) (N := some 75) (v := undef) (a' := ?_) #[T,T,T,T,T,T,T,T,T,T,T,T,T,T,T,T,T,T,T,T,T,T,T,T,T,T,T,T,T,T,T,F,F] rfl rfl (aO HT_.out (by kernel_rfl)) (fun _ _ _ h => h) (Or.inr ⟨by rfl, rfl⟩) ?_ ?_
            rotate_left
            ·simp only [Act.put, sI, sZ, sS, iW, jW]
             rfl
            refine pure_ (i := 31) (N := some 76) (v := undef) (a' := ?_) #[T,T,T,T,T,T,T,T,T,T,T,T,T,T,T,T,T,T,T,T,T,T,T,T,T,T,T,T,T,T,T,T,F] rfl rfl (aO HT_.out (by kernel_rfl)) (fun _ _ _ h => h) (Or.inr ⟨by rfl, rfl⟩) ?_ ?_
            rotate_left
            ·simp only [Act.put, sI, sZ, sS, iW, jW]
             rfl
            refine pure_ (i := 32) (N := some 77) (v := ?_) (a' := ?_) #[T,T,T,T,T,T,T,T,T,T,T,T,T,T,T,T,T,T,T,T,T,T,T,T,T,T,T,T,T,T,T,T,T] rfl rfl (aO HT_.out (by kernel_rfl)) (fun _ _ _ h => h) (Or.inl ⟨by rfl, ?_⟩) ?_ ?_; rotate_left; (·intro w'; go_simp; with_reducible rfl); rotate_left; (·simp only [Act.put, sI, sZ, sS, iW, jW]; rfl)
            refine done_ (done_of HT_.out (by kernel_rfl)) ?_
            try go_wp2
            go_ret
            exact ⟨by first | rfl | (simp [errW_none, errW_some] <;> rfl) | (simp [*, errW_none, errW_some] <;> rfl), by repeat (first | (with_reducible first | exact HB.out | apply bA | apply bN | apply bD | refine bS ?_ GE220.out | refine bS ?_ GE226.out) | exact HB.out)⟩
          ·replace c35 := Bool.eq_false_iff.mpr c35
           subst c35
           have H1 : (some false) = some r := by rw [if_neg (show ¬ (false = true) by decide)] at H; exact H
           clear H
           have H := H1
           clear H1
           obtain rfl := Option.some.inj H
           have p225 : 0 ≤ (x40_2 : Int) := oT
           have q225 : x40_2 < (l0_3.length : Int) := oT
           obtain ⟨ad225, e225, hx225_0, hx225_1, hx225_2⟩ := at_T68 HR0_3.out x40_2 p225 q225
           cases e225
           replace hx225_0 := (HB.out.cell (World.block_lt_of_cell? w _ hx225_0)).trans hx225_0
           replace hx225_1 := (HB.out.cell (World.block_lt_of_cell? w _ hx225_1)).trans hx225_1
           replace hx225_2 := (HB.out.cell (World.block_lt_of_cell? w _ hx225_2)).trans hx225_2
           replace p225 := eq_true p225
           replace q225 := eq_true q225
           try go_wp2_with (first | ((with_reducible refine gate_dst (N := 4) rfl ?_); (try (refine gate_guard (by rfl) ?_; dsimp only)); refine bE ?hg (N := 4) ?hd (cs := #[.int .i64 0, .int .i64 0, .int .i64 0]) (t := 68) ?hr ?_; (case hd => rfl); (case hg => rfl); (case hr => first | (go_simp; done) | (go_simp; rfl)); intro gb226 hg w74 hbox hb; have z_ := bX hb (by repeat (first | (with_reducible first | exact HB.out | apply bA | apply bN | apply bD | refine bS ?_ GE220.out) | exact HB.out)); have n0_ := Aside0.mk (kB (kQ BK220) hb); have n1_ := Aside0.mk (bP z_ hb); have n2_ := Aside0.mk (hbox); have n3_ := Aside0.mk ((by rw [hg]; exact (bZ z_) : w.heap.size ≤ gb226)); have n4_ := Aside0.mk ((by rw [hg]; exact (bZ z_) : w.heap.size ≤ gb226)); have n5_ := Aside0.mk ((by rw [hg]; exact Nat.ne_of_lt (kL (kQ BK220)) : gb220 ≠ gb226)); have n6_ := Aside0.mk ((by rw [hg]; exact Nat.ne_of_gt (kL (kQ BK220)) : gb226 ≠ gb220)); clear BK220; clear HB; have BK220 := n0_; have HB := n1_; have BK226 := n2_; have GW226 := n3_; have GE226 := n4_; have NB220_226 := n5_; have NB226_220 := n6_; clear z_ n0_ n1_ n2_ n3_ n4_ n5_ n6_; clear hb hbox hg; have hnb75 := NB226_220.out; have hnc75 := NB220_226.out; obtain ⟨hcz76_0, hcz76_1, hcz76_2⟩ := cZ3 BK226.out; obtain ⟨hfz76_0, hfz76_1, hfz76_2⟩ := fZ3 BK226.out))
           have n0_ : Aside0 ((((w74.setCell ⟨gb226, 0, none⟩ (.int .i64 ((rd_T68 l0_3 x40_2).f0))).setCell ⟨gb226, 1, none⟩ (.int .i64 ((rd_T68 l0_3 x40_2).f1))).setCell ⟨gb226, 2, none⟩ (.int .i64 ((rd_T68 l0_3 x40_2).f2))).heap[gb220]? = some (.cells #[.int .i64 a0_0, .int .i64 a0_1, .slice A0_2 l0_2.length c0_2, .slice (some ad225) l0_3.length c0_3] 39 (0, 0))) := ⟨by (with_reducible repeat (first | refine kN ?_ _ | refine kD ?_ | refine kA ?_ _)); refine kF ?_ NB220_226.out _; (with_reducible repeat (first | refine kN ?_ _ | refine kD ?_ | refine kA ?_ _)); refine kF ?_ NB220_226.out _; (with_reducible repeat (first | refine kN ?_ _ | refine kD ?_ | refine kA ?_ _)); refine kF ?_ NB220_226.out _; (with_reducible repeat (first | refine kN ?_ _ | refine kD ?_ | refine kA ?_ _)); exact BK220.out⟩
           have n1_ : Aside0 ((((w74.setCell ⟨gb226, 0, none⟩ (.int .i64 ((rd_T68 l0_3 x40_2).f0))).setCell ⟨gb226, 1, none⟩ (.int .i64 ((rd_T68 l0_3 x40_2).f1))).setCell ⟨gb226, 2, none⟩ (.int .i64 ((rd_T68 l0_3 x40_2).f2))).heap[gb226]? = some (.cells #[.int .i64 ((rd_T68 l0_3 x40_2).f0), .int .i64 ((rd_T68 l0_3 x40_2).f1), .int .i64 ((rd_T68 l0_3 x40_2).f2)] 68 (0, 0))) := ⟨by (with_reducible repeat (first | refine kN ?_ _ | refine kD ?_ | refine kA ?_ _)); refine blk_put (cs := #[.int .i64 ((rd_T68 l0_3 x40_2).f0), .int .i64 ((rd_T68 l0_3 x40_2).f1), .int .i64 0]) ?_ 2 _ rfl; (with_reducible repeat (first | refine kN ?_ _ | refine kD ?_ | refine kA ?_ _)); refine blk_put (cs := #[.int .i64 ((rd_T68 l0_3 x40_2).f0), .int .i64 0, .int .i64 0]) ?_ 1 _ rfl; (with_reducible repeat (first | refine kN ?_ _ | refine kD ?_ | refine kA ?_ _)); refine blk_put (cs := #[.int .i64 0, .int .i64 0, .int .i64 0]) ?_ 0 _ rfl; (with_reducible repeat (first | refine kN ?_ _ | refine kD ?_ | refine kA ?_ _)); exact BK226.out⟩
           have n2_ : Aside0 (Below w.heap.size w (((w74.setCell ⟨gb226, 0, none⟩ (.int .i64 ((rd_T68 l0_3 x40_2).f0))).setCell ⟨gb226, 1, none⟩ (.int .i64 ((rd_T68 l0_3 x40_2).f1))).setCell ⟨gb226, 2, none⟩ (.int .i64 ((rd_T68 l0_3 x40_2).f2)))) := ⟨by repeat (first | (with_reducible first | exact HB.out | apply bA | apply bN | apply bD | refine bS ?_ GE220.out | refine bS ?_ GE226.out) | exact HB.out)⟩
           (try clear BK220)
           (try clear BK226)
           (try clear HB)
           generalize (((w74.setCell ⟨gb226, 0, none⟩ (.int .i64 ((rd_T68 l0_3 x40_2).f0))).setCell ⟨gb226, 1, none⟩ (.int .i64 ((rd_T68 l0_3 x40_2).f1))).setCell ⟨gb226, 2, none⟩ (.int .i64 ((rd_T68 l0_3 x40_2).f2))) = w77 at n0_ n1_ n2_ ⊢
           have BK220 := n0_
           have BK226 := n1_
           have HB := n2_
           clear n0_ n1_ n2_
           have n0_ := Aside0.mk (kD BK220.out)
           have n1_ := Aside0.mk (kD BK226.out)
           have n2_ := Aside0.mk (bD HB.out)
           clear BK220
           clear BK226
           clear HB
           have BK220 := n0_
           have BK226 := n1_
           have HB := n2_
           clear n0_ n1_ n2_
           refine start_ (n := 33) (S := fun w' => w'.cell? ⟨gb220, 0, none⟩ = some (.int .i64 a0_0) ∧ w'.cell? ⟨gb220, 1, none⟩ = some (.int .i64 a0_1) ∧ w'.cell? ⟨gb220, 2, none⟩ = some (.slice A0_2 l0_2.length c0_2) ∧ w'.cell? ⟨gb220, 3, none⟩ = some (.slice (some ad225) l0_3.length c0_3) ∧ w'.cell? ⟨gb226, 0, none⟩ = some (.int .i64 ((rd_T68 l0_3 x40_2).f0)) ∧ w'.cell? ⟨gb226, 1, none⟩ = some (.int .i64 ((rd_T68 l0_3 x40_2).f1)) ∧ w'.cell? ⟨gb226, 2, none⟩ = some (.int .i64 ((rd_T68 l0_3 x40_2).f2))) (ds := []) #[F,F,F,F,F,F,F,F,F,F,F,F,F,F,F,F,F,F,F,F,F,F,F,F,F,F,F,F,F,F,F,F,F] (by kernel_rfl) rfl rfl ⟨(kC BK220.out 0).trans rfl, (kC BK220.out 1).trans rfl, (kC BK220.out 2).trans rfl, (kC BK220.out 3).trans rfl, (kC BK226.out 0).trans rfl, (kC BK226.out 1).trans rfl, (kC BK226.out 2).trans rfl⟩ (fun hHeld => ?_); refine with_tabW impl_ValidGrammar.tab6 impl_ValidGrammar.bits6 (fun HT_ HW_ => ?_)
           generalize w77.drew = w78 at BK220 BK226 HB hHeld ⊢
           refine pure_ (i := 1) (N := some 46) (v := ?_) (a' := ?_) #[F,T,F,F,F,F,F,F,F,F,F,F,F,F,F,F,F,F,F,F,F,F,F,F,F,F,F,F,F,F,F,F,F] rfl rfl (aO HT_.out (by kernel_rfl)) (fun _ _ _ h => h) (Or.inl ⟨by rfl, ?_⟩) ?_ ?_; rotate_left; (·intro w'; go_simp; with_reducible rfl); rotate_left; (·simp only [Act.put, sI, sZ, sS, iW, jW]; rfl)
           refine take_ (i := 0) (N := some 45) (v := ?_) (a' := ?_) #[T,T,F,F,F,F,F,F,F,F,F,F,F,F,F,F,F,F,F,F,F,F,F,F,F,F,F,F,F,F,F,F,F] rfl rfl (tW HT_.out HW_.out (by kernel_rfl)) (fun _ _ _ h => h) (Or.inl ⟨by rfl, ?_⟩) hHeld ?_ ?_; rotate_left; (·rintro w' ⟨s0, s1, s2, s3, s4, s5, s6⟩; go_simp; with_reducible rfl); rotate_left; (·simp only [Act.put, sI, sZ, sS, iW, jW]; rfl)
           refine take_ (i := 2) (N := some 47) (v := ?_) (a' := ?_) #[T,T,T,F,F,F,F,F,F,F,F,F,F,F,F,F,F,F,F,F,F,F,F,F,F,F,F,F,F,F,F,F,F] rfl rfl (tW HT_.out HW_.out (by kernel_rfl)) (fun _ _ _ h => h) (Or.inl ⟨by rfl, ?_⟩) hHeld ?_ ?_; rotate_left; (·rintro w' ⟨s0, s1, s2, s3, s4, s5, s6⟩; go_simp; with_reducible rfl); rotate_left; (·simp only [Act.put, sI, sZ, sS, iW, jW]; rfl)
           refine one_ (i := 3) (N := some 48) #[T,T,T,T,F,F,F,F,F,F,F,F,F,F,F,F,F,F,F,F,F,F,F,F,F,F,F,F,F,F,F,F,F] rfl rfl (oO HT_.out (by kernel_rfl)) (by decide) (fun K hK => ?_)
           refine goes_ Try.func59 (by kernel_rfl) rfl #[.agg #[.int .i64 a0_0, .int .i64 a0_1, .slice A0_2 l0_2.length c0_2, .slice (some ad225) l0_3.length c0_3], .int .i64 ((rd_T68 l0_3 x40_2).f0)] (by rfl) rfl rfl lQ ?_
           with_reducible refine (impl_Grammar_hasState.calls a0_0 a0_1 _ _ l0_2 _ _ l0_3 ((rd_T68 l0_3 x40_2).f0) true _ ?side1 ?side2 ?side3 ?side4 A32.out).mono ?_
           (case side1 => exact cP (cB HR0_2.out HB.out))
           (case side2 => exact HC0_2.out)
           (case side3 => exact cP (cB HR0_3.out HB.out))
           (case side4 => exact HC0_3.out)
           rintro e w79 ⟨rfl, hb⟩
           refine ⟨_, rfl, ?_⟩
           have n0_ := Aside0.mk (kB (kQ BK220) hb)
           have n1_ := Aside0.mk (kB (kQ BK226) hb)
           have n2_ := Aside0.mk (bP (by repeat (first | (with_reducible first | exact HB.out | apply bA | apply bN | apply bD | refine bS ?_ GE220.out | refine bS ?_ GE226.out) | exact HB.out)) hb)
           clear BK220
           clear BK226
           clear HB
           have BK220 := n0_
           have BK226 := n1_
           have HB := n2_
           clear n0_ n1_ n2_
           (try clear hb)
           (try clear hb2)
           (try clear hk)
           (try clear hi)
           refine hK.out _ _ ⟨(kC BK220.out 0).trans rfl, (kC BK220.out 1).trans rfl, (kC BK220.out 2).trans rfl, (kC BK220.out 3).trans rfl, (kC BK226.out 0).trans rfl, (kC BK226.out 1).trans rfl, (kC BK226.out 2).trans rfl⟩ (fun hHeld => ?_)
           clear hK K
           refine norm_ (a' := ?_) ?_ ?_
           rotate_left
           ·show Act.put _ (some 48) _ = _
            simp only [Act.put, sI, sZ, sS, iW, jW]
            rfl
           refine pure_ (i := 4) (N := some 49) (v := ?_) (a' := ?_) #[T,T,T,T,T,F,F,F,F,F,F,F,F,F,F,F,F,F,F,F,F,F,F,F,F,F,F,F,F,F,F,F,F] rfl rfl (aO HT_.out (by kernel_rfl)) (fun _ _ _ h => h) (Or.inl ⟨by rfl, ?_⟩) ?_ ?_; rotate_left; (·intro w'; go_simp; with_reducible rfl); rotate_left; (·simp only [Act.put, sI, sZ, sS, iW, jW]; rfl)
           refine pure_ (i := 5) (N := some 50) (v := ?_) (a' := ?_) #[T,T,T,T,T,T,F,F,F,F,F,F,F,F,F,F,F,F,F,F,F,F,F,F,F,F,F,F,F,F,F,F,F] rfl rfl (aO HT_.out (by kernel_rfl)) (fun _ _ _ h => h) (Or.inl ⟨by rfl, ?_⟩) ?_ ?_; rotate_left; (·intro w'; go_simp; with_reducible rfl); rotate_left; (·simp only [Act.put, sI, sZ, sS, iW, jW]; rfl)
           refine pure_ (i := 7) (N := some 52) (v := ?_) (a' := ?_) #[T,T,T,T,T,T,F,T,F,F,F,F,F,F,F,F,F,F,F,F,F,F,F,F,F,F,F,F,F,F,F,F,F] rfl rfl (aO HT_.out (by kernel_rfl)) (fun _ _ _ h => h) (Or.inl ⟨by rfl, ?_⟩) ?_ ?_; rotate_left; (·intro w'; go_simp; with_reducible rfl); rotate_left; (·simp only [Act.put, sI, sZ, sS, iW, jW]; rfl)
           refine take_ (i := 6) (N := some 51) (v := ?_) (a' := ?_) #[T,T,T,T,T,T,T,T,F,F,F,F,F,F,F,F,F,F,F,F,F,F,F,F,F,F,F,F,F,F,F,F,F] rfl rfl (tW HT_.out HW_.out (by kernel_rfl)) (fun _ _ _ h => h) (Or.inl ⟨by rfl, ?_⟩) hHeld ?_ ?_; rotate_left; (·rintro w' ⟨s0, s1, s2, s3, s4, s5, s6⟩; go_simp; with_reducible rfl); rotate_left; (·simp only [Act.put, sI, sZ, sS, iW, jW]; rfl)
           refine take_ (i := 8) (N := some 53) (v := ?_) (a' := ?_) #[T,T,T,T,T,T,T,T,T,F,F,F,F,F,F,F,F,F,F,F,F,F,F,F,F,F,F,F,F,F,F,F,F] rfl rfl (tW HT_.out HW_.out (by kernel_rfl)) (fun _ _ _ h => h) (Or.inl ⟨by rfl, ?_⟩) hHeld ?_ ?_; rotate_left; (·rintro w' ⟨s0, s1, s2, s3, s4, s5, s6⟩; go_simp; with_reducible rfl); rotate_left; (·simp only [Act.put, sI, sZ, sS, iW, jW]; rfl)
           refine one_ (i := 9) (N := some 54) #[T,T,T,T,T,T,T,T,T,T,F,F,F,F,F,F,F,F,F,F,F,F,F,F,F,F,F,F,F,F,F,F,F] rfl rfl (oO HT_.out (by kernel_rfl)) (by decide) (fun K hK => ?_)
           refine goes_ Try.func59 (by kernel_rfl) rfl #[.agg #[.int .i64 a0_0, .int .i64 a0_1, .slice A0_2 l0_2.length c0_2, .slice (some ad225) l0_3.length c0_3], .int .i64 ((rd_T68 l0_3 x40_2).f2)] (by rfl) rfl rfl lQ ?_
           with_reducible refine (impl_Grammar_hasState.calls a0_0 a0_1 _ _ l0_2 _ _ l0_3 ((rd_T68 l0_3 x40_2).f2) false _ ?side1 ?side2 ?side3 ?side4 A34.out).mono ?_
           (case side1 => exact cP (cB HR0_2.out HB.out))
           (case side2 => exact HC0_2.out)
           (case side3 => exact cP (cB HR0_3.out HB.out))
           (case side4 => exact HC0_3.out)
           rintro e w80 ⟨rfl, hb⟩
           refine ⟨_, rfl, ?_⟩
           have n0_ := Aside0.mk (kB (kQ BK220) hb)
           have n1_ := Aside0.mk (kB (kQ BK226) hb)
           have n2_ := Aside0.mk (bP (by repeat (first | (with_reducible first | exact HB.out | apply bA | apply bN | apply bD | refine bS ?_ GE220.out | refine bS ?_ GE226.out) | exact HB.out)) hb)
           clear BK220
           clear BK226
           clear HB
           have BK220 := n0_
           have BK226 := n1_
           have HB := n2_
           clear n0_ n1_ n2_
           (try clear hb)
           (try clear hb2)
           (try clear hk)
           (try clear hi)
           refine hK.out _ _ ⟨(kC BK220.out 0).trans rfl, (kC BK220.out 1).trans rfl, (kC BK220.out 2).trans rfl, (kC BK220.out 3).trans rfl, (kC BK226.out 0).trans rfl, (kC BK226.out 1).trans rfl, (kC BK226.out 2).trans rfl⟩ (fun hHeld => ?_)
           clear hK K
           refine norm_ (a' := ?_) ?_ ?_
           rotate_left
           ·show Act.put _ (some 54) _ = _
            simp only [Act.put, sI, sZ, sS, iW, jW]
            rfl
           refine pure_ (i := 10) (N := some 55) (v := ?_) (a' := ?_) #[T,T,T,T,T,T,T,T,T,T,T,F,F,F,F,F,F,F,F,F,F,F,F,F,F,F,F,F,F,F,F,F,F] rfl rfl (aO HT_.out (by kernel_rfl)) (fun _ _ _ h => h) (Or.inl ⟨by rfl, ?_⟩) ?_ ?_; rotate_left; (·intro w'; go_simp; with_reducible rfl); rotate_left; (·simp only [Act.put, sI, sZ, sS, iW, jW]; rfl)
           refine pure_ (i := 11) (N := some 56) (v := ?_) (a' := ?_) #[T,T,T,T,T,T,T,T,T,T,T,T,F,F,F,F,F,F,F,F,F,F,F,F,F,F,F,F,F,F,F,F,F] rfl rfl (aO HT_.out (by kernel_rfl)) (fun _ _ _ h => h) (Or.inl ⟨by rfl, ?_⟩) ?_ ?_; rotate_left; (·intro w'; go_simp; with_reducible rfl); rotate_left; (·simp only [Act.put, sI, sZ, sS, iW, jW]; rfl)
           refine pure_ (i := 12) (N := some 57) (v := ?_) (a' := ?_) #[T,T,T,T,T,T,T,T,T,T,T,T,T,F,F,F,F,F,F,F,F,F,F,F,F,F,F,F,F,F,F,F,F] rfl rfl (aO HT_.out (by kernel_rfl)) (fun _ _ _ h => h) (Or.inl ⟨by rfl, ?_⟩) ?_ ?_; rotate_left; (·intro w'; go_simp; with_reducible rfl); rotate_left; (·simp only [Act.put, sI, sZ, sS, iW, jW]; rfl)
           refine pure_ (i := 13) (N := some 58) (v := undef) (a' := ?_) #[T,T,T,T,T,T,T,T,T,T,T,T,T,T,F,F,F,F,F,F,F,F,F,F,F,F,F,F,F,F,F,F,F] rfl rfl (aO HT_.out (by kernel_rfl)) (fun _ _ _ h => h) (Or.inr ⟨by rfl, rfl⟩) ?_ ?_
           rotate_left
           ·simp only [Act.put, sI, sZ, sS, iW, jW]
            rfl
           refine pure_ (i := 14) (N := some 59) (v := undef) (a' := ?_) #[T,T,T,T,T,T,T,T,T,T,T,T,T,T,T,F,F,F,F,F,F,F,F,F,F,F,F,F,F,F,F,F,F] rfl rfl (aO HT_.out (by kernel_rfl)) (fun _ _ _ h => h) (Or.inr ⟨by rfl, rfl⟩) ?_ ?_
           rotate_left
           ·simp only [Act.put, sI, sZ, sS, iW, jW]
            rfl
           refine pure_ (i := 15) (N := some 60) (v := undef) (a' := ?_) #[T,T,T,T,T,T,T,T,T,T,T,T,T,T,T,T,F,F,F,F,F,F,F,F,F,F,F,F,F,F,F,F,F] rfl rfl (aO HT_.out (by kernel_rfl)) (fun _ _ _ h => h) (Or.inr ⟨by rfl, rfl⟩) ?_ ?_
           rotate_left
           ·simp only [Act.put, sI, sZ, sS, iW, jW]
            rfl
           refine pure_ (i := 16) (N := some 61) (v := undef) (a' := ?_) #[T,T,T,T,T,T,T,T,T,T,T,T,T,T,T,T,T,F,F,F,F,F,F,F,F,F,F,F,F,F,F,F,F] rfl rfl (aO HT_.out (by kernel_rfl)) (fun _ _ _ h => h) (Or.inr ⟨by rfl, rfl⟩) ?_ ?_
           rotate_left
           ·simp only [Act.put, sI, sZ, sS, iW, jW]
            rfl
           refine pure_ (i := 17) (N := some 62) (v := ?_) (a' := ?_) #[T,T,T,T,T,T,T,T,T,T,T,T,T,T,T,T,T,T,F,F,F,F,F,F,F,F,F,F,F,F,F,F,F] rfl rfl (aO HT_.out (by kernel_rfl)) (fun _ _ _ h => h) (Or.inl ⟨by rfl, ?_⟩) ?_ ?_; rotate_left; (·intro w'; go_simp; with_reducible rfl); rotate_left; (·simp only [Act.put, sI, sZ, sS, iW, jW]; rfl)
           refine pure_ (i := 18) (N := some 63) (v := ?_) (a' := ?_) #[T,T,T,T,T,T,T,T,T,T,T,T,T,T,T,T,T,T,T,F,F,F,F,F,F,F,F,F,F,F,F,F,F] rfl rfl (aO HT_.out (by kernel_rfl)) (fun _ _ _ h => h) (Or.inl ⟨by rfl, ?_⟩) ?_ ?_; rotate_left; (·intro w'; go_simp; with_reducible rfl); rotate_left; (·simp only [Act.put, sI, sZ, sS, iW, jW]; rfl)
           refine pure_ (i := 19) (N := some 64) (v := undef) (a' := ?_) #[T,T,T,T,T,T,T,T,T,T,T,T,T,T,T,T,T,T,T,T,F,F,F,F,F,F,F,F,F,F,F,F,F] rfl rfl (aO HT_.out (by kernel_rfl)) (fun _ _ _ h => h) (Or.inr ⟨by rfl, rfl⟩) ?_ ?_
           rotate_left
           ·simp only [Act.put, sI, sZ, sS, iW, jW]
            rfl
           refine pure_ (i := 20) (N := some 65) (v := undef) (a' := ?_) #[T,T,T,T,T,T,T,T,T,T,T,T,T,T,T,T,T,T,T,T,T,F,F,F,F,F,F,F,F,F,F,F,F] rfl rfl (aO HT_.out (by kernel_rfl)) (fun _ _ _ h => h) (Or.inr ⟨by rfl, rfl⟩) ?_ ?_
           rotate_left
           ·simp only [Act.put, sI, sZ, sS, iW, jW]
            rfl
           refine pure_ (i := 21) (N := some 66) (v := undef) (a' := ?_) #[T,T,T,T,T,T,T,T,T,T,T,T,T,T,T,T,T,T,T,T,T,T,F,F,F,F,F,F,F,F,F,F,F] rfl rfl (aO HT_.out (by kernel_rfl)) (fun _ _ _ h => h) (Or.inr ⟨by rfl, rfl⟩) ?_ ?_
           rotate_left
           ·simp only [Act.put, sI, sZ, sS, iW, jW]
            rfl
           refine pure_ (i := 22) (N := some 67) (v := undef) (a' := ?_) #[T,T,T,T,T,T,T,T,T,T,T,T,T,T,T,T,T,T,T,T,T,T,T,F,F,F,F,F,F,F,F,F,F] rfl rfl (aO HT_.out (by kernel_rfl)) (fun _ _ _ h => h) (Or.inr ⟨by rfl, rfl⟩) ?_ ?_
           rotate_left
           ·simp only [Act.put, sI, sZ, sS, iW, jW]
            rfl
           refine pure_ (i := 23) (N := some 68) (v := undef) (a' := ?_) #[T,T,T,T,T,T,T,T,T,T,T,T,T,T,T,T,T,T,T,T,T,T,T,T,F,F,F,F,F,F,F,F,F] rfl rfl (aO HT_.out (by kernel_rfl)) (fun _ _ _ h => h) (Or.inr ⟨by rfl, rfl⟩) ?_ ?_
           rotate_left
           ·simp only [Act.put, sI, sZ, sS, iW, jW]
            rfl
           refine pure_ (i := 24) (N := some 69) (v := undef) (a' := ?_) #[T,T,T,T,T,T,T,T,T,T,T,T,T,T,T,T,T,T,T,T,T,T,T,T,T,F,F,F,F,F,F,F,F] rfl rfl (aO HT_.out (by kernel_rfl)) (fun _ _ _ h => h) (Or.inr ⟨by rfl, rfl⟩) ?_ ?_
           rotate_left
           ·simp only [Act.put, sI, sZ, sS, iW, jW]
            rfl
           refine pure_ (i := 25) (N := some 70) (v := undef) (a' := ?_) #[T,T,T,T,T,T,T,T,T,T,T,T,T,T,T,T,T,T,T,T,T,T,T,T,T,T,F,F,F,F,F,F,F] rfl rfl (aO HT_.out (by kernel_rfl)) (fun _ _ _ h => h) (Or.inr ⟨by rfl, rfl⟩) ?_ ?_
           rotate_left
           ·simp only [Act.put, sI, sZ, sS, iW, jW]
            rfl
           refine pure_ (i := 26) (N := some 71) (v := undef) (a' := ?_) #[T,T,T,T,T,T,T,T,T,T,T,T,T,T,T,T,T,T,T,T,T,T,T,T,T,T,T,F,F,F,F,F,F] rfl rfl (aO HT_.out (by kernel_rfl)) (fun _ _ _ h => h) (Or.inr ⟨by rfl, rfl⟩) ?_ ?_
           rotate_left
           ·simp only [Act.put, sI, sZ, sS, iW, jW]
            rfl
           refine pure_ (i := 27) (N := some 72) (v := undef) (a' := ?_) #[T,T,T,T,T,T,T,T,T,T,T,T,T,T,T,T,T,T,T,T,T,T,T,T,T,T,T,T,F,F,F,F,F] rfl rfl (aO HT_.out (by kernel_rfl)) (fun _ _ _ h => h) (Or.inr ⟨by rfl, rfl⟩) ?_ ?_
           rotate_left
           ·simp only [Act.put, sI, sZ, sS, iW, jW]
            rfl
           refine pure_ (i := 28) (N := some 73) (v := undef) (a' := ?_) #[T,T,T,T,T,T,T,T,T,T,T,T,T,T,T,T,T,T,T,T,T,T,T,T,T,T,T,T,T,F,F,F,F] rfl rfl (aO HT_.out (by kernel_rfl)) (fun _ _ _ h => h) (Or.inr ⟨by rfl, rfl⟩) ?_ ?_
           rotate_left
           ·simp only [Act.put, sI, sZ, sS, iW, jW]
            rfl
           refine pure_ (i := 29) (N := some 74) (v := undef) (a' := ?_) #[T,T,T,T,T,T,T,T,T,T,T,T,T,T,T,T,T,T,T,T,T,T,T,T,T,T,T,T,T,T,F,F,F] rfl rfl (aO HT_.out (by kernel_rfl)) (fun _ _ _ h => h) (Or.inr ⟨by rfl, rfl⟩) ?_ ?_
           rotate_left
           ·simp only [Act.put, sI, sZ, sS, iW, jW]
            rfl
           refine pure_ (i := 30) (N := some 75) (v := undef) (a' := ?_) #[T,T,T,T,T,T,T,T,T,T,T,T,T,T,T,T,T,T,T,T,T,T,T,T,T,T,T,T,T,T,T,F,F] rfl rfl (aO HT_.out (by kernel_rfl)) (fun _ _ _ h => h) (Or.inr ⟨by rfl, rfl⟩) ?_ ?_
           rotate_left
           ·simp only [Act.put, sI, sZ, sS, iW, jW]
            rfl
           refine pure_ (i := 31) (N := some 76) (v := undef) (a' := ?_) #[T,T,T,T,T,T,T,T,T,T,T,T,T,T,T,T,T,T,T,T,T,T,T,T,T,T,T,T,T,T,T,T,F] rfl rfl (aO HT_.out (by kernel_rfl)) (fun _ _ _ h => h) (Or.inr ⟨by rfl, rfl⟩) ?_ ?_
           rotate_left
           ·simp only [Act.put, sI, sZ, sS, iW, jW]
            rfl
           refine pure_ (i := 32) (N := some 77) (v := ?_) (a' := ?_) #[T,T,T,T,T,T,T,T,T,T,T,T,T,T,T,T,T,T,T,T,T,T,T,T,T,T,T,T,T,T,T,T,T] rfl rfl (aO HT_.out (by kernel_rfl)) (fun _ _ _ h => h) (Or.inl ⟨by rfl, ?_⟩) ?_ ?_; rotate_left; (·intro w'; go_simp; with_reducible rfl); rotate_left; (·simp only [Act.put, sI, sZ, sS, iW, jW]; rfl)
           refine done_ (done_of HT_.out (by kernel_rfl)) ?_
           try go_wp2
           go_ret
           exact ⟨by first | rfl | (simp [errW_none, errW_some] <;> rfl) | (simp [*, errW_none, errW_some] <;> rfl), by repeat (first | (with_reducible first | exact HB.out | apply bA | apply bN | apply bD | refine bS ?_ GE220.out | refine bS ?_ GE226.out) | exact HB.out)⟩
         ·replace c33 := Bool.eq_false_iff.mpr c33
          subst c33
          have H1 : (some false) = some r := by rw [if_neg (show ¬ (false = true) by decide)] at H; exact H
          clear H
          have H := H1
          clear H1
          obtain rfl := Option.some.inj H
          have p225 : 0 ≤ (x40_2 : Int) := oT
          have q225 : x40_2 < (l0_3.length : Int) := oT
          obtain ⟨ad225, e225, hx225_0, hx225_1, hx225_2⟩ := at_T68 HR0_3.out x40_2 p225 q225
          cases e225
          replace hx225_0 := (HB.out.cell (World.block_lt_of_cell? w _ hx225_0)).trans hx225_0
          replace hx225_1 := (HB.out.cell (World.block_lt_of_cell? w _ hx225_1)).trans hx225_1
          replace hx225_2 := (HB.out.cell (World.block_lt_of_cell? w _ hx225_2)).trans hx225_2
          replace p225 := eq_true p225
          replace q225 := eq_true q225
          try go_wp2_with (first | ((with_reducible refine gate_dst (N := 4) rfl ?_); (try (refine gate_guard (by rfl) ?_; dsimp only)); refine bE ?hg (N := 4) ?hd (cs := #[.int .i64 0, .int .i64 0, .int .i64 0]) (t := 68) ?hr ?_; (case hd => rfl); (case hg => rfl); (case hr => first | (go_simp; done) | (go_simp; rfl)); intro gb226 hg w81 hbox hb; have z_ := bX hb (by repeat (first | (with_reducible first | exact HB.out | apply bA | apply bN | apply bD | refine bS ?_ GE220.out) | exact HB.out)); have n0_ := Aside0.mk (kB (kQ BK220) hb); have n1_ := Aside0.mk (bP z_ hb); have n2_ := Aside0.mk (hbox); have n3_ := Aside0.mk ((by rw [hg]; exact (bZ z_) : w.heap.size ≤ gb226)); have n4_ := Aside0.mk ((by rw [hg]; exact (bZ z_) : w.heap.size ≤ gb226)); have n5_ := Aside0.mk ((by rw [hg]; exact Nat.ne_of_lt (kL (kQ BK220)) : gb220 ≠ gb226)); have n6_ := Aside0.mk ((by rw [hg]; exact Nat.ne_of_gt (kL (kQ BK220)) : gb226 ≠ gb220)); clear BK220; clear HB; have BK220 := n0_; have HB := n1_; have BK226 := n2_; have GW226 := n3_; have GE226 := n4_; have NB220_226 := n5_; have NB226_220 := n6_; clear z_ n0_ n1_ n2_ n3_ n4_ n5_ n6_; clear hb hbox hg; have hnb82 := NB226_220.out; have hnc82 := NB220_226.out; obtain ⟨hcz83_0, hcz83_1, hcz83_2⟩ := cZ3 BK226.out; obtain ⟨hfz83_0, hfz83_1, hfz83_2⟩ := fZ3 BK226.out))
          have n0_ : Aside0 ((((w81.setCell ⟨gb226, 0, none⟩ (.int .i64 ((rd_T68 l0_3 x40_2).f0))).setCell ⟨gb226, 1, none⟩ (.int .i64 ((rd_T68 l0_3 x40_2).f1))).setCell ⟨gb226, 2, none⟩ (.int .i64 ((rd_T68 l0_3 x40_2).f2))).heap[gb220]? = some (.cells #[.int .i64 a0_0, .int .i64 a0_1, .slice A0_2 l0_2.length c0_2, .slice (some ad225) l0_3.length c0_3] 39 (0, 0))) := ⟨by (with_reducible repeat (first | refine kN ?_ _ | refine kD ?_ | refine kA ?_ _)); refine kF ?_ NB220_226.out _; (with_reducible repeat (first | refine kN ?_ _ | refine kD ?_ | refine kA ?_ _)); refine kF ?_ NB220_226.out _; (with_reducible repeat (first | refine kN ?_ _ | refine kD ?_ | refine kA ?_ _)); refine kF ?_ NB220_226.out _; (with_reducible repeat (first | refine kN ?_ _ | refine kD ?_ | refine kA ?_ _)); exact BK220.out⟩
          have n1_ : Aside0 ((((w81.setCell ⟨gb226, 0, none⟩ (.int .i64 ((rd_T68 l0_3 x40_2).f0))).setCell ⟨gb226, 1, none⟩ (.int .i64 ((rd_T68 l0_3 x40_2).f1))).setCell ⟨gb226, 2, none⟩ (.int .i64 ((rd_T68 l0_3 x40_2).f2))).heap[gb226]? = some (.cells #[.int .i64 ((rd_T68 l0_3 x40_2).f0), .int .i64 ((rd_T68 l0_3 x40_2).f1), .int .i64 ((rd_T68 l0_3 x40_2).f2)] 68 (0, 0))) := ⟨by (with_reducible repeat (first | refine kN ?_ _ | refine kD ?_ | refine kA ?_ _)); refine blk_put (cs := #[.int .i64 ((rd_T68 l0_3 x40_2).f0), .int .i64 ((rd_T68 l0_3 x40_2).f1), .int .i64 0]) ?_ 2 _ rfl; (with_reducible repeat (first | refine kN ?_ _ | refine kD ?_ | refine kA ?_ _)); refine blk_put (cs := #[.int .i64 ((rd_T68 l0_3 x40_2).f0), .int .i64 0, .int .i64 0]) ?_ 1 _ rfl; (with_reducible repeat (first | refine kN ?_ _ | refine kD ?_ | refine kA ?_ _)); refine blk_put (cs := #[.int .i64 0, .int .i64 0, .int .i64 0]) ?_ 0 _ rfl; (with_reducible repeat (first | refine kN ?_ _ | refine kD ?_ | refine kA ?_ _)); exact BK226.out⟩
          have n2_ : Aside0 (Below w.heap.size w (((w81.setCell ⟨gb226, 0, none⟩ (.int .i64 ((rd_T68 l0_3 x40_2).f0))).setCell ⟨gb226, 1, none⟩ (.int .i64 ((rd_T68 l0_3 x40_2).f1))).setCell ⟨gb226, 2, none⟩ (.int .i64 ((rd_T68 l0_3 x40_2).f2)))) := ⟨by repeat (first | (with_reducible first | exact HB.out | apply bA | apply bN | apply bD | refine bS ?_ GE220.out | refine bS ?_ GE226.out) | exact HB.out)⟩
          (try clear BK220)
          (try clear BK226)
          (try clear HB)
          generalize (((w81.setCell ⟨gb226, 0, none⟩ (.int .i64 ((rd_T68 l0_3 x40_2).f0))).setCell ⟨gb226, 1, none⟩ (.int .i64 ((rd_T68 l0_3 x40_2).f1))).setCell ⟨gb226, 2, none⟩ (.int .i64 ((rd_T68 l0_3 x40_2).f2))) = w84 at n0_ n1_ n2_ ⊢
          have BK220 := n0_
          have BK226 := n1_
          have HB := n2_
          clear n0_ n1_ n2_
          have n0_ := Aside0.mk (kD BK220.out)
          have n1_ := Aside0.mk (kD BK226.out)
          have n2_ := Aside0.mk (bD HB.out)
          clear BK220
          clear BK226
          clear HB
          have BK220 := n0_
          have BK226 := n1_
          have HB := n2_
          clear n0_ n1_ n2_
          refine start_ (n := 33) (S := fun w' => w'.cell? ⟨gb220, 0, none⟩ = some (.int .i64 a0_0) ∧ w'.cell? ⟨gb220, 1, none⟩ = some (.int .i64 a0_1) ∧ w'.cell? ⟨gb220, 2, none⟩ = some (.slice A0_2 l0_2.length c0_2) ∧ w'.cell? ⟨gb220, 3, none⟩ = some (.slice (some ad225) l0_3.length c0_3) ∧ w'.cell? ⟨gb226, 0, none⟩ = some (.int .i64 ((rd_T68 l0_3 x40_2).f0)) ∧ w'.cell? ⟨gb226, 1, none⟩ = some (.int .i64 ((rd_T68 l0_3 x40_2).f1)) ∧ w'.cell? ⟨gb226, 2, none⟩ = some (.int .i64 ((rd_T68 l0_3 x40_2).f2))) (ds := []) #[F,F,F,F,F,F,F,F,F,F,F,F,F,F,F,F,F,F,F,F,F,F,F,F,F,F,F,F,F,F,F,F,F] (by kernel_rfl) rfl rfl ⟨(kC BK220.out 0).trans rfl, (kC BK220.out 1).trans rfl, (kC BK220.out 2).trans rfl, (kC BK220.out 3).trans rfl, (kC BK226.out 0).trans rfl, (kC BK226.out 1).trans rfl, (kC BK226.out 2).trans rfl⟩ (fun hHeld => ?_); refine with_tabW impl_ValidGrammar.tab6 impl_ValidGrammar.bits6 (fun HT_ HW_ => ?_)
          generalize w84.drew = w85 at BK220 BK226 HB hHeld ⊢
          refine pure_ (i := 1) (N := some 46) (v := ?_) (a' := ?_) #[F,T,F,F,F,F,F,F,F,F,F,F,F,F,F,F,F,F,F,F,F,F,F,F,F,F,F,F,F,F,F,F,F] rfl rfl (aO HT_.out (by kernel_rfl)) (fun _ _ _ h => h) (Or.inl ⟨by rfl, ?_⟩) ?_ ?_; rotate_left; (·intro w'; go_simp; with_reducible rfl); rotate_left; (·simp only [Act.put, sI, sZ, sS, iW, jW]; rfl)
          refine take_ (i := 0) (N := some 45) (v := ?_) (a' := ?_) #[T,T,F,F,F,F,F,F,F,F,F,F,F,F,F,F,F,F,F,F,F,F,F,F,F,F,F,F,F,F,F,F,F] rfl rfl (tW HT_.out HW_.out (by kernel_rfl)) (fun _ _ _ h => h) (Or.inl ⟨by rfl, ?_⟩) hHeld ?_ ?_; rotate_left; (·rintro w' ⟨s0, s1, s2, s3, s4, s5, s6⟩; go_simp; with_reducible rfl); rotate_left; (·simp only [Act.put, sI, sZ, sS, iW, jW]; rfl)
          refine take_ (i := 2) (N := some 47) (v := ?_) (a' := ?_) #[T,T,T,F,F,F,F,F,F,F,F,F,F,F,F,F,F,F,F,F,F,F,F,F,F,F,F,F,F,F,F,F,F] rfl rfl (tW HT_.out HW_.out (by kernel_rfl)) (fun _ _ _ h => h) (Or.inl ⟨by rfl, ?_⟩) hHeld ?_ ?_; rotate_left; (·rintro w' ⟨s0, s1, s2, s3, s4, s5, s6⟩; go_simp; with_reducible rfl); rotate_left; (·simp only [Act.put, sI, sZ, sS, iW, jW]; rfl)
          refine one_ (i := 3) (N := some 48) #[T,T,T,T,F,F,F,F,F,F,F,F,F,F,F,F,F,F,F,F,F,F,F,F,F,F,F,F,F,F,F,F,F] rfl rfl (oO HT_.out (by kernel_rfl)) (by decide) (fun K hK => ?_)
          refine goes_ Try.func59 (by kernel_rfl) rfl #[.agg #[.int .i64 a0_0, .int .i64 a0_1, .slice A0_2 l0_2.length c0_2, .slice (some ad225) l0_3.length c0_3], .int .i64 ((rd_T68 l0_3 x40_2).f0)] (by rfl) rfl rfl lQ ?_
          with_reducible refine (impl_Grammar_hasState.calls a0_0 a0_1 _ _ l0_2 _ _ l0_3 ((rd_T68 l0_3 x40_2).f0) false _ ?side1 ?side2 ?side3 ?side4 A32.out).mono ?_
          (case side1 => exact cP (cB HR0_2.out HB.out))
          (case side2 => exact HC0_2.out)
          (case side3 => exact cP (cB HR0_3.out HB.out))
          (case side4 => exact HC0_3.out)
          rintro e w86 ⟨rfl, hb⟩
          refine ⟨_, rfl, ?_⟩
          have n0_ := Aside0.mk (kB (kQ BK220) hb)
          have n1_ := Aside0.mk (kB (kQ BK226) hb)
          have n2_ := Aside0.mk (bP (by repeat (first | (with_reducible first | exact HB.out | apply bA | apply bN | apply bD | refine bS ?_ GE220.out | refine bS ?_ GE226.out) | exact HB.out)) hb)
          clear BK220
          clear BK226
          clear HB
          have BK220 := n0_
          have BK226 := n1_
          have HB := n2_
          clear n0_ n1_ n2_
          (try clear hb)
          (try clear hb2)
          (try clear hk)
          (try clear hi)
          refine hK.out _ _ ⟨(kC BK220.out 0).trans rfl, (kC BK220.out 1).trans rfl, (kC BK220.out 2).trans rfl, (kC BK220.out 3).trans rfl, (kC BK226.out 0).trans rfl, (kC BK226.out 1).trans rfl, (kC BK226.out 2).trans rfl⟩ (fun hHeld => ?_)
          clear hK K
          refine norm_ (a' := ?_) ?_ ?_
          rotate_left
          ·show Act.put _ (some 48) _ = _
           simp only [Act.put, sI, sZ, sS, iW, jW]
           rfl
          refine pure_ (i := 4) (N := some 49) (v := ?_) (a' := ?_) #[T,T,T,T,T,F,F,F,F,F,F,F,F,F,F,F,F,F,F,F,F,F,F,F,F,F,F,F,F,F,F,F,F] rfl rfl (aO HT_.out (by kernel_rfl)) (fun _ _ _ h => h) (Or.inl ⟨by rfl, ?_⟩) ?_ ?_; rotate_left; (·intro w'; go_simp; with_reducible rfl); rotate_left; (·simp only [Act.put, sI, sZ, sS, iW, jW]; rfl)
          refine pure_ (i := 5) (N := some 50) (v := ?_) (a' := ?_) #[T,T,T,T,T,T,F,F,F,F,F,F,F,F,F,F,F,F,F,F,F,F,F,F,F,F,F,F,F,F,F,F,F] rfl rfl (aO HT_.out (by kernel_rfl)) (fun _ _ _ h => h) (Or.inl ⟨by rfl, ?_⟩) ?_ ?_; rotate_left; (·intro w'; go_simp; with_reducible rfl); rotate_left; (·simp only [Act.put, sI, sZ, sS, iW, jW]; rfl)
          refine pure_ (i := 6) (N := some 51) (v := undef) (a' := ?_) #[T,T,T,T,T,T,T,F,F,F,F,F,F,F,F,F,F,F,F,F,F,F,F,F,F,F,F,F,F,F,F,F,F] rfl rfl (aO HT_.out (by kernel_rfl)) (fun _ _ _ h => h) (Or.inr ⟨by rfl, rfl⟩) ?_ ?_
          rotate_left
          ·simp only [Act.put, sI, sZ, sS, iW, jW]
           rfl
          refine pure_ (i := 7) (N := some 52) (v := undef) (a' := ?_) #[T,T,T,T,T,T,T,T,F,F,F,F,F,F,F,F,F,F,F,F,F,F,F,F,F,F,F,F,F,F,F,F,F] rfl rfl (aO HT_.out (by kernel_rfl)) (fun _ _ _ h => h) (Or.inr ⟨by rfl, rfl⟩) ?_ ?_
          rotate_left
          ·simp only [Act.put, sI, sZ, sS, iW, jW]
           rfl
          refine pure_ (i := 8) (N := some 53) (v := undef) (a' := ?_) #[T,T,T,T,T,T,T,T,T,F,F,F,F,F,F,F,F,F,F,F,F,F,F,F,F,F,F,F,F,F,F,F,F] rfl rfl (aO HT_.out (by kernel_rfl)) (fun _ _ _ h => h) (Or.inr ⟨by rfl, rfl⟩) ?_ ?_
          rotate_left
          ·simp only [Act.put, sI, sZ, sS, iW, jW]
           rfl
          refine pure_ (i := 9) (N := some 54) (v := undef) (a' := ?_) #[T,T,T,T,T,T,T,T,T,T,F,F,F,F,F,F,F,F,F,F,F,F,F,F,F,F,F,F,F,F,F,F,F] rfl rfl (aO HT_.out (by kernel_rfl)) (fun _ _ _ h => h) (Or.inr ⟨by rfl, rfl⟩) ?_ ?_
          rotate_left
          ·simp only [Act.put, sI, sZ, sS, iW, jW]
           rfl
          refine pure_ (i := 10) (N := some 55) (v := undef) (a' := ?_) #[T,T,T,T,T,T,T,T,T,T,T,F,F,F,F,F,F,F,F,F,F,F,F,F,F,F,F,F,F,F,F,F,F] rfl rfl (aO HT_.out (by kernel_rfl)) (fun _ _ _ h => h) (Or.inr ⟨by rfl, rfl⟩) ?_ ?_
          rotate_left
          ·simp only [Act.put, sI, sZ, sS, iW, jW]
           rfl
          refine pure_ (i := 11) (N := some 56) (v := ?_) (a' := ?_) #[T,T,T,T,T,T,T,T,T,T,T,T,F,F,F,F,F,F,F,F,F,F,F,F,F,F,F,F,F,F,F,F,F] rfl rfl (aO HT_.out (by kernel_rfl)) (fun _ _ _ h => h) (Or.inl ⟨by rfl, ?_⟩) ?_ ?_; rotate_left; (·intro w'; go_simp; with_reducible rfl); rotate_left; (·simp only [Act.put, sI, sZ, sS, iW, jW]; rfl)
          refine pure_ (i := 12) (N := some 57) (v := ?_) (a' := ?_) #[T,T,T,T,T,T,T,T,T,T,T,T,T,F,F,F,F,F,F,F,F,F,F,F,F,F,F,F,F,F,F,F,F] rfl rfl (aO HT_.out (by kernel_rfl)) (fun _ _ _ h => h) (Or.inl ⟨by rfl, ?_⟩) ?_ ?_; rotate_left; (·intro w'; go_simp; with_reducible rfl); rotate_left; (·simp only [Act.put, sI, sZ, sS, iW, jW]; rfl)
          refine pure_ (i := 13) (N := some 58) (v := undef) (a' := ?_) #[T,T,T,T,T,T,T,T,T,T,T,T,T,T,F,F,F,F,F,F,F,F,F,F,F,F,F,F,F,F,F,F,F] rfl rfl (aO HT_.out (by kernel_rfl)) (fun _ _ _ h => h) (Or.inr ⟨by rfl, rfl⟩) ?_ ?_
          rotate_left
          ·simp only [Act.put, sI, sZ, sS, iW, jW]
           rfl
          refine pure_ (i := 14) (N := some 59) (v := undef) (a' := ?_) #[T,T,T,T,T,T,T,T,T,T,T,T,T,T,T,F,F,F,F,F,F,F,F,F,F,F,F,F,F,F,F,F,F] rfl rfl (aO HT_.out (by kernel_rfl)) (fun _ _ _ h => h) (Or.inr ⟨by rfl, rfl⟩) ?_ ?_
          rotate_left
          ·simp only [Act.put, sI, sZ, sS, iW, jW]
           rfl
          refine pure_ (i := 15) (N := some 60) (v := undef) (a' := ?_) #[T,T,T,T,T,T,T,T,T,T,T,T,T,T,T,T,F,F,F,F,F,F,F,F,F,F,F,F,F,F,F,F,F] rfl rfl (aO HT_.out (by kernel_rfl)) (fun _ _ _ h => h) (Or.inr ⟨by rfl, rfl⟩) ?_ ?_
          rotate_left
          ·simp only [Act.put, sI, sZ, sS, iW, jW]
           rfl
          refine pure_ (i := 16) (N := some 61) (v := undef) (a' := ?_) #[T,T,T,T,T,T,T,T,T,T,T,T,T,T,T,T,T,F,F,F,F,F,F,F,F,F,F,F,F,F,F,F,F] rfl rfl (aO HT_.out (by kernel_rfl)) (fun _ _ _ h => h) (Or.inr ⟨by rfl, rfl⟩) ?_ ?_
          rotate_left
          ·simp only [Act.put, sI, sZ, sS, iW, jW]
           rfl
          refine pure_ (i := 17) (N := some 62) (v := ?_) (a' := ?_) #[T,T,T,T,T,T,T,T,T,T,T,T,T,T,T,T,T,T,F,F,F,F,F,F,F,F,F,F,F,F,F,F,F] rfl rfl (aO HT_.out (by kernel_rfl)) (fun _ _ _ h => h) (Or.inl ⟨by rfl, ?_⟩) ?_ ?_; rotate_left; (·intro w'; go_simp; with_reducible rfl); rotate_left; (·simp only [Act.put, sI, sZ, sS, iW, jW]; rfl)
          refine pure_ (i := 18) (N := some 63) (v := ?_) (a' := ?_) #[T,T,T,T,T,T,T,T,T,T,T,T,T,T,T,T,T,T,T,F,F,F,F,F,F,F,F,F,F,F,F,F,F] rfl rfl (aO HT_.out (by kernel_rfl)) (fun _ _ _ h => h) (Or.inl ⟨by rfl, ?_⟩) ?_ ?_; rotate_left; (·intro w'; go_simp; with_reducible rfl); rotate_left; (·simp only [Act.put, sI, sZ, sS, iW, jW]; rfl)
          refine pure_ (i := 19) (N := some 64) (v := undef) (a' := ?_) #[T,T,T,T,T,T,T,T,T,T,T,T,T,T,T,T,T,T,T,T,F,F,F,F,F,F,F,F,F,F,F,F,F] rfl rfl (aO HT_.out (by kernel_rfl)) (fun _ _ _ h => h) (Or.inr ⟨by rfl, rfl⟩) ?_ ?_
          rotate_left
          ·simp only [Act.put, sI, sZ, sS, iW, jW]
           rfl
          refine pure_ (i := 20) (N := some 65) (v := undef) (a' := ?_) #[T,T,T,T,T,T,T,T,T,T,T,T,T,T,T,T,T,T,T,T,T,F,F,F,F,F,F,F,F,F,F,F,F] rfl rfl (aO HT_.out (by kernel_rfl)) (fun _ _ _ h => h) (Or.inr ⟨by rfl, rfl⟩) ?_ ?_
          rotate_left
          ·simp only [Act.put, sI, sZ, sS, iW, jW]
           rfl
          refine pure_ (i := 21) (N := some 66) (v := undef) (a' := ?_) #[T,T,T,T,T,T,T,T,T,T,T,T,T,T,T,T,T,T,T,T,T,T,F,F,F,F,F,F,F,F,F,F,F] rfl rfl (aO HT_.out (by kernel_rfl)) (fun _ _ _ h => h) (Or.inr ⟨by rfl, rfl⟩) ?_ ?_
          rotate_left
          ·simp only [Act.put, sI, sZ, sS, iW, jW]
           rfl
          refine pure_ (i := 22) (N := some 67) (v := undef) (a' := ?_) #[T,T,T,T,T,T,T,T,T,T,T,T,T,T,T,T,T,T,T,T,T,T,T,F,F,F,F,F,F,F,F,F,F] rfl rfl (aO HT_.out (by kernel_rfl)) (fun _ _ _ h => h) (Or.inr ⟨by rfl, rfl⟩) ?_ ?_
          rotate_left
          ·simp only [Act.put, sI, sZ, sS, iW, jW]
           rfl
          refine pure_ (i := 23) (N := some 68) (v := undef) (a' := ?_) #[T,T,T,T,T,T,T,T,T,T,T,T,T,T,T,T,T,T,T,T,T,T,T,T,F,F,F,F,F,F,F,F,F] rfl rfl (aO HT_.out (by kernel_rfl)) (fun _ _ _ h => h) (Or.inr ⟨by rfl, rfl⟩) ?_ ?_
          rotate_left
          ·simp only [Act.put, sI, sZ, sS, iW, jW]
           rfl
          refine pure_ (i := 24) (N := some 69) (v := undef) (a' := ?_) #[T,T,T,T,T,T,T,T,T,T,T,T,T,T,T,T,T,T,T,T,T,T,T,T,T,F,F,F,F,F,F,F,F] rfl rfl (aO HT_.out (by kernel_rfl)) (fun _ _ _ h => h) (Or.inr ⟨by rfl, rfl⟩) ?_ ?_
          rotate_left
          ·simp only [Act.put, sI, sZ, sS, iW, jW]
           rfl
          refine pure_ (i := 25) (N := some 70) (v := undef) (a' := ?_) #[T,T,T,T,T,T,T,T,T,T,T,T,T,T,T,T,T,T,T,T,T,T,T,T,T,T,F,F,F,F,F,F,F] rfl rfl (aO HT_.out (by kernel_rfl)) (fun _ _ _ h => h) (Or.inr ⟨by rfl, rfl⟩) ?_ ?_
          rotate_left
          ·simp only [Act.put, sI, sZ, sS, iW, jW]
           rfl
          refine pure_ (i := 26) (N := some 71) (v := undef) (a' := ?_) #[T,T,T,T,T,T,T,T,T,T,T,T,T,T,T,T,T,T,T,T,T,T,T,T,T,T,T,F,F,F,F,F,F] rfl rfl (aO HT_.out (by kernel_rfl)) (fun _ _ _ h => h) (Or.inr ⟨by rfl, rfl⟩) ?_ ?_
          rotate_left
          ·simp only [Act.put, sI, sZ, sS, iW, jW]
           rfl
          refine pure_ (i := 27) (N := some 72) (v := undef) (a' := ?_) #[T,T,T,T,T,T,T,T,T,T,T,T,T,T,T,T,T,T,T,T,T,T,T,T,T,T,T,T,F,F,F,F,F] rfl rfl (aO HT_.out (by kernel_rfl)) (fun _ _ _ h => h) (Or.inr ⟨by rfl, rfl⟩) ?_ ?_
          rotate_left
          ·simp only [Act.put, sI, sZ, sS, iW, jW]
           rfl
          refine pure_ (i := 28) (N := some 73) (v := undef) (a' := ?_) #[T,T,T,T,T,T,T,T,T,T,T,T,T,T,T,T,T,T,T,T,T,T,T,T,T,T,T,T,T,F,F,F,F] rfl rfl (aO HT_.out (by kernel_rfl)) (fun _ _ _ h => h) (Or.inr ⟨by rfl, rfl⟩) ?_ ?_
          rotate_left
          ·simp only [Act.put, sI, sZ, sS, iW, jW]
           rfl
          refine pure_ (i := 29) (N := some 74) (v := undef) (a' := ?_) #[T,T,T,T,T,T,T,T,T,T,T,T,T,T,T,T,T,T,T,T,T,T,T,T,T,T,T,T,T,T,F,F,F] rfl rfl (aO HT_.out (by kernel_rfl)) (fun _ _ _ h => h) (Or.inr ⟨by rfl, rfl⟩) ?_ ?_
          rotate_left
          ·simp only [Act.put, sI, sZ, sS, iW, jW]
           rfl
          refine pure_ (i := 30) (N := some 75) (v := undef) (a' := ?_) #[T,T,T,T,T,T,T,T,T,T,T,T,T,T,T,T,T,T,T,T,T,T,T,T,T,T,T,T,T,T,T,F,F] rfl rfl (aO HT_.out (by kernel_rfl)) (fun _ _ _ h => h) (Or.inr ⟨by rfl, rfl⟩) ?_ ?_
          rotate_left
          ·simp only [Act.put, sI, sZ, sS, iW, jW]
           rfl
          refine pure_ (i := 31) (N := some 76) (v := undef) (a' := ?_) #[T,T,T,T,T,T,T,T,T,T,T,T,T,T,T,T,T,T,T,T,T,T,T,T,T,T,T,T,T,T,T,T,F] rfl rfl (aO HT_.out (by kernel_rfl)) (fun _ _ _ h => h) (Or.inr ⟨by rfl, rfl⟩) ?_ ?_
          rotate_left
          ·simp only [Act.put, sI, sZ, sS, iW, jW]
           rfl
          refine pure_ (i := 32) (N := some 77) (v := ?_) (a' := ?_) #[T,T,T,T,T,T,T,T,T,T,T,T,T,T,T,T,T,T,T,T,T,T,T,T,T,T,T,T,T,T,T,T,T] rfl rfl (aO HT_.out (by kernel_rfl)) (fun _ _ _ h => h) (Or.inl ⟨by rfl, ?_⟩) ?_ ?_; rotate_left; (·intro w'; go_simp; with_reducible rfl); rotate_left; (·simp only [Act.put, sI, sZ, sS, iW, jW]; rfl)
          refine done_ (done_of HT_.out (by kernel_rfl)) ?_
          try go_wp2
          go_ret
          exact ⟨by first | rfl | (simp [errW_none, errW_some] <;> rfl) | (simp [*, errW_none, errW_some] <;> rfl), by repeat (first | (with_reducible first | exact HB.out | apply bA | apply bN | apply bD | refine bS ?_ GE220.out | refine bS ?_ GE226.out) | exact HB.out)⟩
        ·rw [if_neg c31] at H
         exact absurd H (by simp)
       ·rw [if_neg c30] at H
        exact absurd H (by simp)
      ·rw [if_neg c29] at H
       have c29b0 : decide (x40_2 < (l0_3.length : Int)) = false := decide_eq_false c29
       clear c29
       obtain rfl := Option.some.inj H
       go_wp2
       go_ret
       exact ⟨by first | rfl | (simp [errW_none, errW_some] <;> rfl) | (simp [*, errW_none, errW_some] <;> rfl), by repeat (first | (with_reducible first | exact HB.out | apply bA | apply bN | apply bD | refine bS ?_ GE220.out) | exact HB.out)⟩

end Go.Proofs.Yteljnbhbpidjpaa.G
-- shrunk
-- tight
-- tight2
-- tight3
