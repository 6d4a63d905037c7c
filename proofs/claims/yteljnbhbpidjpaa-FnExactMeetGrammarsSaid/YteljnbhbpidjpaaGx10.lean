/- What functions of the given program compute, as plain Lean functions, and that the code comes to just that; by a program of this session over the kit's print. No condition. -/
import Derived.Test.YteljnbhbpidjpaaTight
import Derived.Test.YteljnbhbpidjpaaGx0
import Derived.Test.YteljnbhbpidjpaaGx9
namespace Go.Proofs.Yteljnbhbpidjpaa.G
open Go.RowKit Go.Proofs.YteljnbhbpidjpaaW.PrintWords Go.Proofs.YteljnbhbpidjpaaW.PrintLast Go.Proofs.YteljnbhbpidjpaaW.PrintMore
open Go.Proofs.YteljnbhbpidjpaaW.PrintWords renaming below_alloc → bA, pw_below_drewN → bN, below_drew1 → bD, below_set → bS, blk_drewN → kN, blk_drew → kD, blk_alloc → kA, blk_below → kB, below_size → bZ, below_step → bP, blk_far → kF, blk_lt → kL, gate_callee → gC, box_event → bE, blk_cell → kC
open Go.Proofs.YteljnbhbpidjpaaW.PrintWords.Kd renaming R_alloc → rA, R_drewN → rN, R_drew → rD, C_alloc → cA, C_below → cB, R_lower → rL, R_below → rB, R_mono → rM
attribute [local go_sem] max2_int min2_int max_two min_two max_three min_three max_four min_four   -- for this text's walks alone
set_option linter.unusedVariables false
set_option linter.unusedSimpArgs false

/-! ### laws_toGrammar: function 17 -/
def laws_toGrammar.f (k : Nat) (a0_0 : Int) (a0_1 : Int) (l0_2 : List Int) (l0_3 : List (S84)) : Option (Int × Int × List Int × (List (S68))) := (laws_toInt64S.f k l0_2).bind fun t198 => ((laws_toArcS.f k l0_3).bind fun t201 => (some (a0_0, a0_1, t198, t201)))
theorem laws_toGrammar.mono : ∀ a0 a1 a2 a3 k, LeO (laws_toGrammar.f k a0 a1 a2 a3) (laws_toGrammar.f (k + 1) a0 a1 a2 a3) := by
 intro a0 a1 a2 a3 k
 unfold laws_toGrammar.f
 repeat' first
   | (with_reducible exact laws_toArcS.mono _ _)
   | (with_reducible exact laws_toInt64S.mono _ _)
   | (with_reducible exact LeO.refl _)
   | (with_reducible exact LeO.none _)
   | (with_reducible refine LeO.ite ?_ ?_)
   | (with_reducible refine LeO.bind ?_ (fun _ => ?_))
   | exact laws_toArcS.mono _ _
   | exact laws_toInt64S.mono _ _
   | exact LeO.none _
   | refine LeO.ite ?_ ?_
   | refine LeO.bind ?_ (fun _ => ?_)
set_option maxHeartbeats 8000000 in
set_option maxRecDepth 100000 in
theorem laws_toGrammar.calls (k : Nat) (a0_0 : Int) (a0_1 : Int) (A0_2 : Option Addr) (c0_2 : Nat) (l0_2 : List Int) (A0_3 : Option Addr) (c0_3 : Nat) (l0_3 : List (S84)) (r1 : Int) (r2 : Int) (r3 : List Int) (r4 : List (S68)) (w : World) (hr0_2 : Kd.C (Kd.int .i64) w A0_2 l0_2.length l0_2) (hc0_2 : l0_2.length ≤ c0_2) (hr0_3 : Kd.C k84 w A0_3 l0_3.length l0_3) (hc0_3 : l0_3.length ≤ c0_3) (h : laws_toGrammar.f k a0_0 a0_1 l0_2 l0_3 = some (r1, r2, r3, r4)) :
  Calls Try.prog 17 #[.agg #[.int .i64 a0_0, .int .i64 a0_1, .slice A0_2 l0_2.length c0_2, .slice A0_3 l0_3.length c0_3]] w fun e w' => ∃ v2_ v3_ : Value, e = .returned (.agg #[.int .i64 r1, .int .i64 r2, v2_, v3_]) ∧ Kd.R (Kd.int .i64) 2 w' w.heap.size (fun _ => True) v2_ r3 ∧ Kd.R k68 68 w' w.heap.size (fun _ => True) v3_ r4 ∧ Below w.heap.size w w' := by
 have hu35 := Try.underlying35
 have hu39 := Try.underlying39
 have HR0_2 := Aside0.mk hr0_2
 have HC0_2 := Aside0.mk hc0_2
 clear hr0_2 hc0_2
 have HR0_3 := Aside0.mk hr0_3
 have HC0_3 := Aside0.mk hc0_3
 clear hr0_3 hc0_3
 have HB := Aside0.mk (Below.refl w.heap.size w)
 have H : ((laws_toInt64S.f k l0_2).bind fun t198 => ((laws_toArcS.f k l0_3).bind fun t201 => (some (a0_0, a0_1, t198, t201)))) = some (r1, r2, r3, r4) := h
 clear h
 replace H := Option.bind_eq_some_iff.mp H
 obtain ⟨t198, A20, H⟩ := H
 replace H : ((laws_toArcS.f k l0_3).bind fun t201 => (some (a0_0, a0_1, t198, t201))) = some (r1, r2, r3, r4) := H
 have A2 := Aside0.mk A20
 clear A20
 replace H := Option.bind_eq_some_iff.mp H
 obtain ⟨t201, A30, H⟩ := H
 replace H : (some (a0_0, a0_1, t198, t201)) = some (r1, r2, r3, r4) := H
 have A3 := Aside0.mk A30
 clear A30
 simp only [Option.some.injEq, Prod.mk.injEq] at H
 obtain ⟨rfl, rfl, rfl, rfl⟩ := H
 go_enter Try.func17, Try.ntmps17
 go_wp2_with (first | ((with_reducible refine gate_dst (N := 1) rfl ?_); refine bE ?hg (N := 1) ?hd (cs := #[.int .i64 a0_0, .int .i64 a0_1, .slice A0_2 l0_2.length c0_2, .slice A0_3 l0_3.length c0_3]) (t := 35) ?hr ?_; (case hd => rfl); (case hg => rfl); (case hr => first | (go_simp; done) | (go_simp; rfl)); intro gb195 hg w4 hbox hb; have z_ := bX hb (hQ HB); have n0_ := Aside0.mk (bP z_ hb); have n1_ := Aside0.mk (hbox); have n2_ := Aside0.mk ((by rw [hg]; exact (bZ z_) : w.heap.size ≤ gb195)); have n3_ := Aside0.mk ((by rw [hg]; exact (bZ z_) : w.heap.size ≤ gb195)); clear HB; have HB := n0_; have BK195 := n1_; have GW195 := n2_; have GE195 := n3_; clear z_ n0_ n1_ n2_ n3_; clear hb hbox hg) | ((with_reducible refine gate_dst (N := 2) rfl ?_); refine bE ?hg (N := 2) ?hd (cs := #[.int .i64 0, .int .i64 0, .slice none 0 0, .slice none 0 0]) (t := 39) ?hr ?_; (case hd => rfl); (case hg => rfl); (case hr => first | (go_simp; done) | (go_simp; rfl)); intro gb196 hg w5 hbox hb; have z_ := bX hb (by repeat (first | (with_reducible first | exact HB.out | apply bA | apply bN | apply bD | refine bS ?_ GE195.out) | exact HB.out)); have n0_ := Aside0.mk (kB (kQ BK195) hb); have n1_ := Aside0.mk (bP z_ hb); have n2_ := Aside0.mk (hbox); have n3_ := Aside0.mk ((by rw [hg]; exact (bZ z_) : w.heap.size ≤ gb196)); have n4_ := Aside0.mk ((by rw [hg]; exact (bZ z_) : w.heap.size ≤ gb196)); have n5_ := Aside0.mk ((by rw [hg]; exact Nat.ne_of_lt (kL (kQ BK195)) : gb195 ≠ gb196)); have n6_ := Aside0.mk ((by rw [hg]; exact Nat.ne_of_gt (kL (kQ BK195)) : gb196 ≠ gb195)); clear BK195; clear HB; have BK195 := n0_; have HB := n1_; have BK196 := n2_; have GW196 := n3_; have GE196 := n4_; have NB195_196 := n5_; have NB196_195 := n6_; clear z_ n0_ n1_ n2_ n3_ n4_ n5_ n6_; clear hb hbox hg) | ((with_reducible refine gate_dst (N := 3) rfl ?_); refine bE ?hg (N := 3) ?hd (cs := #[.int .i64 0, .int .i64 0, .slice none 0 0, .slice none 0 0]) (t := 39) ?hr ?_; (case hd => rfl); (case hg => rfl); (case hr => first | (go_simp; done) | (go_simp; rfl)); intro gb197 hg w6 hbox hb; have z_ := bX hb (by repeat (first | (with_reducible first | exact HB.out | apply bA | apply bN | apply bD | refine bS ?_ GE195.out | refine bS ?_ GE196.out) | exact HB.out)); have n0_ := Aside0.mk (kB (kQ BK195) hb); have n1_ := Aside0.mk (kB (kQ BK196) hb); have n2_ := Aside0.mk (bP z_ hb); have n3_ := Aside0.mk (hbox); have n4_ := Aside0.mk ((by rw [hg]; exact (bZ z_) : w.heap.size ≤ gb197)); have n5_ := Aside0.mk ((by rw [hg]; exact (bZ z_) : w.heap.size ≤ gb197)); have n6_ := Aside0.mk ((by rw [hg]; exact Nat.ne_of_lt (kL (kQ BK195)) : gb195 ≠ gb197)); have n7_ := Aside0.mk ((by rw [hg]; exact Nat.ne_of_gt (kL (kQ BK195)) : gb197 ≠ gb195)); have n8_ := Aside0.mk ((by rw [hg]; exact Nat.ne_of_lt (kL (kQ BK196)) : gb196 ≠ gb197)); have n9_ := Aside0.mk ((by rw [hg]; exact Nat.ne_of_gt (kL (kQ BK196)) : gb197 ≠ gb196)); clear BK195; clear BK196; clear HB; have BK195 := n0_; have BK196 := n1_; have HB := n2_; have BK197 := n3_; have GW197 := n4_; have GE197 := n5_; have NB195_197 := n6_; have NB197_195 := n7_; have NB196_197 := n8_; have NB197_196 := n9_; clear z_ n0_ n1_ n2_ n3_ n4_ n5_ n6_ n7_ n8_ n9_; clear hb hbox hg; have hnb7 := NB195_196.out; have hnc7 := NB196_195.out; have hnb8 := NB195_197.out; have hnc8 := NB197_195.out; obtain ⟨hcz9_0, hcz9_1, hcz9_2, hcz9_3⟩ := cZ4 BK195.out; obtain ⟨hfz9_0, hfz9_1, hfz9_2, hfz9_3⟩ := fZ4 BK195.out; have hnb10 := NB197_196.out; have hnc10 := NB196_197.out; obtain ⟨hcz11_0, hcz11_1, hcz11_2, hcz11_3⟩ := cZ4 BK197.out; obtain ⟨hfz11_0, hfz11_1, hfz11_2, hfz11_3⟩ := fZ4 BK197.out) | ((with_reducible refine gC (f := 7) rfl ?_); refine goesL_ (some 12) rfl rfl Try.func7 (by kernel_rfl) rfl #[.slice A0_2 l0_2.length c0_2] rfl lQ ?_; (with_reducible refine (laws_toInt64S.calls k _ _ l0_2 t198 _ ?side1 ?side2 A2.out).mono ?_); (case side1 => exact cB HR0_2.out (by repeat (first | (with_reducible first | exact HB.out | apply bA | apply bN | apply bD | refine bS ?_ GE195.out | refine bS ?_ GE196.out | refine bS ?_ GE197.out) | exact HB.out))); (case side2 => exact HC0_2.out); rintro e w12 ⟨v199, rfl, ho0, hb⟩; refine ⟨_, rfl, ?_⟩; have z_ := bX hb (by repeat (first | (with_reducible first | exact HB.out | apply bA | apply bN | apply bD | refine bS ?_ GE195.out | refine bS ?_ GE196.out | refine bS ?_ GE197.out) | exact HB.out)); have n0_ := Aside0.mk (rL ho0 (bZ z_)); have n1_ := Aside0.mk (kB (g := gb195) (o := .cells #[.int .i64 a0_0, .int .i64 a0_1, .slice A0_2 l0_2.length c0_2, .slice A0_3 l0_3.length c0_3] 35 (0, 0)) (by (with_reducible repeat (first | refine kN ?_ _ | refine kD ?_ | refine kA ?_ _)); refine kF ?_ NB195_197.out _; (with_reducible repeat (first | refine kN ?_ _ | refine kD ?_ | refine kA ?_ _)); refine kF ?_ NB195_197.out _; (with_reducible repeat (first | refine kN ?_ _ | refine kD ?_ | refine kA ?_ _)); exact BK195.out) hb); have n2_ := Aside0.mk (kB (g := gb196) (o := .cells #[.int .i64 0, .int .i64 0, .slice none 0 0, .slice none 0 0] 39 (0, 0)) (by (with_reducible repeat (first | refine kN ?_ _ | refine kD ?_ | refine kA ?_ _)); refine kF ?_ NB196_197.out _; (with_reducible repeat (first | refine kN ?_ _ | refine kD ?_ | refine kA ?_ _)); refine kF ?_ NB196_197.out _; (with_reducible repeat (first | refine kN ?_ _ | refine kD ?_ | refine kA ?_ _)); exact BK196.out) hb); have n3_ := Aside0.mk (kB (g := gb197) (o := .cells #[.int .i64 a0_0, .int .i64 a0_1, .slice none 0 0, .slice none 0 0] 39 (0, 0)) (by (with_reducible repeat (first | refine kN ?_ _ | refine kD ?_ | refine kA ?_ _)); refine blk_put (cs := #[.int .i64 a0_0, .int .i64 0, .slice none 0 0, .slice none 0 0]) ?_ 1 _ rfl; (with_reducible repeat (first | refine kN ?_ _ | refine kD ?_ | refine kA ?_ _)); refine blk_put (cs := #[.int .i64 0, .int .i64 0, .slice none 0 0, .slice none 0 0]) ?_ 0 _ rfl; (with_reducible repeat (first | refine kN ?_ _ | refine kD ?_ | refine kA ?_ _)); exact BK197.out) hb); have n4_ := Aside0.mk (bP z_ hb); clear BK195; clear BK196; clear BK197; clear HB; have HO200 := n0_; have BK195 := n1_; have BK196 := n2_; have BK197 := n3_; have HB := n4_; clear z_ n0_ n1_ n2_ n3_ n4_; (try clear hb); (try clear hb2); (try clear hk); (try clear hi); (try clear ho0); obtain ⟨Ao13, co13, eo13⟩ := Kd.R_slice HO200.out; subst eo13; obtain ⟨hcz14_0, hcz14_1, hcz14_2, hcz14_3⟩ := cZ4 BK197.out; obtain ⟨hfz14_0, hfz14_1, hfz14_2, hfz14_3⟩ := fZ4 BK197.out; obtain ⟨hcz15_0, hcz15_1, hcz15_2, hcz15_3⟩ := cZ4 BK195.out; obtain ⟨hfz15_0, hfz15_1, hfz15_2, hfz15_3⟩ := fZ4 BK195.out) | ((with_reducible refine gC (f := 40) rfl ?_); refine goesL_ (some 16) rfl rfl Try.func40 (by kernel_rfl) rfl #[.slice A0_3 l0_3.length c0_3] rfl lQ ?_; (with_reducible refine (laws_toArcS.calls k _ _ l0_3 t201 _ ?side1 ?side2 A3.out).mono ?_); (case side1 => exact cB HR0_3.out (by repeat (first | (with_reducible first | exact HB.out | apply bA | apply bN | apply bD | refine bS ?_ GE195.out | refine bS ?_ GE196.out | refine bS ?_ GE197.out) | exact HB.out))); (case side2 => exact HC0_3.out); rintro e w16 ⟨v202, rfl, ho0, hb⟩; refine ⟨_, rfl, ?_⟩; have z_ := bX hb (by repeat (first | (with_reducible first | exact HB.out | apply bA | apply bN | apply bD | refine bS ?_ GE195.out | refine bS ?_ GE196.out | refine bS ?_ GE197.out) | exact HB.out)); have n0_ := Aside0.mk (rB (by (with_reducible repeat (first | apply rA | apply rN | apply rD)); exact (rM (Kd.R_far (p := ⟨gb197, 2, none⟩) (Kd.R_types HO200.out BK197.out (by decide)) (fun _ hk => hk.2) (.slice Ao13 t198.length co13)) (fun _ h_ => h_.1))) hb); have n1_ := Aside0.mk (rL ho0 (bZ z_)); have n2_ := Aside0.mk (kB (g := gb195) (o := .cells #[.int .i64 a0_0, .int .i64 a0_1, .slice A0_2 l0_2.length c0_2, .slice A0_3 l0_3.length c0_3] 35 (0, 0)) (by (with_reducible repeat (first | refine kN ?_ _ | refine kD ?_ | refine kA ?_ _)); refine kF ?_ NB195_197.out _; (with_reducible repeat (first | refine kN ?_ _ | refine kD ?_ | refine kA ?_ _)); exact BK195.out) hb); have n3_ := Aside0.mk (kB (g := gb196) (o := .cells #[.int .i64 0, .int .i64 0, .slice none 0 0, .slice none 0 0] 39 (0, 0)) (by (with_reducible repeat (first | refine kN ?_ _ | refine kD ?_ | refine kA ?_ _)); refine kF ?_ NB196_197.out _; (with_reducible repeat (first | refine kN ?_ _ | refine kD ?_ | refine kA ?_ _)); exact BK196.out) hb); have n4_ := Aside0.mk (kB (g := gb197) (o := .cells #[.int .i64 a0_0, .int .i64 a0_1, .slice Ao13 t198.length co13, .slice none 0 0] 39 (0, 0)) (by (with_reducible repeat (first | refine kN ?_ _ | refine kD ?_ | refine kA ?_ _)); refine blk_put (cs := #[.int .i64 a0_0, .int .i64 a0_1, .slice none 0 0, .slice none 0 0]) ?_ 2 _ rfl; (with_reducible repeat (first | refine kN ?_ _ | refine kD ?_ | refine kA ?_ _)); exact BK197.out) hb); have n5_ := Aside0.mk (bP z_ hb); clear HO200; clear BK195; clear BK196; clear BK197; clear HB; have HO200 := n0_; have HO203 := n1_; have BK195 := n2_; have BK196 := n3_; have BK197 := n4_; have HB := n5_; clear z_ n0_ n1_ n2_ n3_ n4_ n5_; (try clear hb); (try clear hb2); (try clear hk); (try clear hi); (try clear ho0); obtain ⟨Ao17, co17, eo17⟩ := Kd.R_slice HO203.out; subst eo17; obtain ⟨hcz18_0, hcz18_1, hcz18_2, hcz18_3⟩ := cZ4 BK197.out; obtain ⟨hfz18_0, hfz18_1, hfz18_2, hfz18_3⟩ := fZ4 BK197.out; obtain ⟨hcz19_0, hcz19_1, hcz19_2, hcz19_3⟩ := cZ4 BK196.out; obtain ⟨hfz19_0, hfz19_1, hfz19_2, hfz19_3⟩ := fZ4 BK196.out))
 refine bodyPost_ret (results_cell_row rfl _ _ gb196 39 #[.int .i64 a0_0, .int .i64 a0_1, .slice Ao13 t198.length co13, .slice Ao17 t201.length co17] (0, 0) _ rfl (by (with_reducible repeat (first | refine kN ?_ _ | refine kD ?_ | refine kA ?_ _)); refine blk_put (cs := #[.int .i64 a0_0, .int .i64 a0_1, .slice Ao13 t198.length co13, .slice none 0 0]) ?_ 3 _ rfl; (with_reducible repeat (first | refine kN ?_ _ | refine kD ?_ | refine kA ?_ _)); refine blk_put (cs := #[.int .i64 a0_0, .int .i64 a0_1, .slice none 0 0, .slice none 0 0]) ?_ 2 _ rfl; (with_reducible repeat (first | refine kN ?_ _ | refine kD ?_ | refine kA ?_ _)); refine blk_put (cs := #[.int .i64 a0_0, .int .i64 0, .slice none 0 0, .slice none 0 0]) ?_ 1 _ rfl; (with_reducible repeat (first | refine kN ?_ _ | refine kD ?_ | refine kA ?_ _)); refine blk_put (cs := #[.int .i64 0, .int .i64 0, .slice none 0 0, .slice none 0 0]) ?_ 0 _ rfl; (with_reducible repeat (first | refine kN ?_ _ | refine kD ?_ | refine kA ?_ _)); refine kF ?_ NB196_197.out _; (with_reducible repeat (first | refine kN ?_ _ | refine kD ?_ | refine kA ?_ _)); exact BK196.out) Try.underlying39 rfl (by kernel_rfl)) rfl ?_
 exact ⟨_, _, by first | rfl | (simp [errW_none, errW_some] <;> rfl) | (simp [*, errW_none, errW_some] <;> rfl), by (with_reducible repeat (first | apply rA | apply rN | apply rD)); exact rM (Kd.R_far (p := ⟨gb196, 3, none⟩) (Kd.R_far (p := ⟨gb196, 2, none⟩) (Kd.R_far (p := ⟨gb196, 1, none⟩) (Kd.R_far (p := ⟨gb196, 0, none⟩) (Kd.R_far (p := ⟨gb197, 3, none⟩) (Kd.R_types (Kd.R_types HO200.out BK197.out (by decide)) BK196.out (by decide)) (fun _ hk => hk.1.2) (.slice Ao17 t201.length co17)) (fun _ hk => hk.2) (.int .i64 a0_0)) (fun _ hk => hk.2) (.int .i64 a0_1)) (fun _ hk => hk.2) (.slice Ao13 t198.length co13)) (fun _ hk => hk.2) (.slice Ao17 t201.length co17)) (fun _ hk => trivial), by (with_reducible repeat (first | apply rA | apply rN | apply rD)); exact rM (Kd.R_far (p := ⟨gb196, 3, none⟩) (Kd.R_far (p := ⟨gb196, 2, none⟩) (Kd.R_far (p := ⟨gb196, 1, none⟩) (Kd.R_far (p := ⟨gb196, 0, none⟩) (Kd.R_far (p := ⟨gb197, 3, none⟩) (Kd.R_types (Kd.R_types HO203.out BK197.out (by decide)) BK196.out (by decide)) (fun _ hk => hk.1.2) (.slice Ao17 t201.length co17)) (fun _ hk => hk.2) (.int .i64 a0_0)) (fun _ hk => hk.2) (.int .i64 a0_1)) (fun _ hk => hk.2) (.slice Ao13 t198.length co13)) (fun _ hk => hk.2) (.slice Ao17 t201.length co17)) (fun _ hk => trivial), by repeat (first | (with_reducible first | exact HB.out | apply bA | apply bN | apply bD | refine bS ?_ GE195.out | refine bS ?_ GE196.out | refine bS ?_ GE197.out) | exact HB.out)⟩

-- NOT PRINTED: function 73 (slices_IndexFunc_int64_int64)

-- NOT PRINTED: function 67 (slices_ContainsFunc_int64_int64)

/-! ### impl_allWithin: function 54 -/
def bIn (n lo hi : Int) : Bool := decide (lo ≤ n ∧ n ≤ hi)
theorem ret_b {a b : Bool} (h : a = b) : Ending.returned (.bool a) = .returned (.bool b) := by rw [h]
theorem all_take_succ {α : Type} (l : List α) (p : α → Bool) (z : α) (k : Nat) (h : k < l.length) (h1 : (l.take k).all p = true) (h2 : p (l.getD k z) = true) : (l.take (k + 1)).all p = true := by
 rw [List.take_succ_eq_append_getElem h, List.all_append, h1]
 simp only [List.all_cons, List.all_nil, Bool.and_true, Bool.true_and]
 rwa [List.getD_eq_getElem?_getD, List.getElem?_eq_getElem h] at h2
theorem all_no {α : Type} (l : List α) (p : α → Bool) (z : α) (k : Nat) (h : k < l.length) (h2 : p (l.getD k z) = false) : l.all p = false := by
 rw [List.all_eq_false]
 rw [List.getD_eq_getElem?_getD, List.getElem?_eq_getElem h] at h2
 exact ⟨_, List.getElem_mem h, by simpa using h2⟩
set_option maxHeartbeats 800000 in
theorem clo68 (n lo hi : Int) (a b : Nat) (q : Bool) (hq : (!bIn n lo hi) = q) (w : World) (ha : w.heap[a]? = some (.cells #[.int .i64 lo] 2 (0, 0))) (hb : w.heap[b]? = some (.cells #[.int .i64 hi] 2 (0, 0))) :
  Calls Try.prog 68 #[.int .i64 n, .pointer (some ⟨a, 0, none⟩), .pointer (some ⟨b, 0, none⟩)] w fun e w' => e = .returned (.bool q) ∧ Drawn0 w w' := by
 have h1 : w.cell? ⟨a, 0, none⟩ = some (.int .i64 lo) := (kC ha 0).trans rfl
 have h2 : w.cell? ⟨b, 0, none⟩ = some (.int .i64 hi) := (kC hb 0).trans rfl
 have HQ := Aside0.mk hq
 clear ha hb hq
 go_enter Try.func68, Try.ntmps68
 go_wp2
 all_goals
  go_ret
  exact ⟨ret_b (by rw [← HQ.out]; simp [bIn]; omega), Drawn0.refl _⟩
def FoundI (l : List Int) (p : Int → Bool) (w : World) (e : Ending) (w' : World) : Prop := (∃ n : Int, e = .returned (.int .i64 n) ∧ (decide (n ≥ 0) = !l.all p)) ∧ Drawn0 w w'
set_option maxHeartbeats 1600000 in
theorem ixf73 (lo hi : Int) (a b : Nat) (A0 : Option Addr) (c0 : Nat) (l0 : List Int) (w : World) (ha : w.heap[a]? = some (.cells #[.int .i64 lo] 2 (0, 0))) (hb : w.heap[b]? = some (.cells #[.int .i64 hi] 2 (0, 0))) (hr0 : Kd.C (Kd.int .i64) w A0 l0.length l0) :
  Calls Try.prog 73 #[.slice A0 l0.length c0, .func (.func 68) #[] #[.pointer (some ⟨a, 0, none⟩), .pointer (some ⟨b, 0, none⟩)]] w (FoundI l0 (bIn · lo hi) w) := by
 have HR0 := Aside0.mk hr0
 have HA := Aside0.mk ha
 have HB := Aside0.mk hb
 clear hr0 ha hb
 go_enter Try.func73, Try.ntmps73
 go_wp2
 go_loopw [8] (fun i wr => ∃ k : Nat, k ≤ l0.length ∧ i = .int .i64 k ∧ Aside0 ((l0.take k).all (bIn · lo hi) = true) ∧ Aside0 (∃ n, wr = w.drewN n)) (fun i _ => l0.length - (intOf i).toNat)
 case atStart => exact ⟨0, Nat.zero_le _, rfl, ⟨rfl⟩, ⟨0, rfl⟩⟩
 case round =>
  obtain ⟨k, hk, rfl, HALL, ⟨⟨n, rfl⟩⟩⟩ := hrel
  have hn : l0.length ≤ 9223372036854775807 := HR0.out.2.1
  by_cases hlt : k < l0.length
  ·obtain ⟨ad, e, hx⟩ := Kd.at_int HR0.out (k : Int) (by omega) (by omega)
   subst e
   have hx' : (w.drewN n).cell? (ad.add k) = some (.int .i64 (rd l0 k)) := hx
   clear hx
   cases hp : bIn (rd l0 k) lo hi
   ·have HP := Aside0.mk hp
    clear hp
    go_wp2_with (go_at_call 68; refine (clo68 _ lo hi a b true (by rw [HP.out]; rfl) (w.drewN n) HA.out HB.out).mono ?_; rintro e w' ⟨rfl, ⟨q, rfl⟩⟩)
    go_ret
    exact ⟨⟨k, rfl, by rw [all_no l0 (bIn · lo hi) 0 k hlt HP.out]; exact decide_eq_true (Int.natCast_nonneg k)⟩, ⟨_, rfl⟩⟩
   ·have HP := Aside0.mk hp
    clear hp
    go_wp2_with (go_at_call 68; refine (clo68 _ lo hi a b false (by rw [HP.out]; rfl) (w.drewN n) HA.out HB.out).mono ?_; rintro e w' ⟨rfl, ⟨q, rfl⟩⟩)
    go_roundw
    case rel => exact ⟨k + 1, by omega, by go_num, ⟨all_take_succ l0 _ 0 k hlt HALL.out HP.out⟩, ⟨_, rfl⟩⟩
    case measure => simp [intOf]; omega
  ·go_wp2
   go_ret
   exact ⟨⟨-1, rfl, by
    have := HALL.out
    rw [List.take_of_length_le (by omega)] at this
    rw [this]
    rfl⟩, ⟨_, rfl⟩⟩
set_option maxHeartbeats 800000 in
theorem cnf67 (lo hi : Int) (a b : Nat) (A0 : Option Addr) (c0 : Nat) (l0 : List Int) (w : World) (ha : w.heap[a]? = some (.cells #[.int .i64 lo] 2 (0, 0))) (hb : w.heap[b]? = some (.cells #[.int .i64 hi] 2 (0, 0))) (hr0 : Kd.C (Kd.int .i64) w A0 l0.length l0) :
  Calls Try.prog 67 #[.slice A0 l0.length c0, .func (.func 68) #[] #[.pointer (some ⟨a, 0, none⟩), .pointer (some ⟨b, 0, none⟩)]] w fun e w' => e = .returned (.bool (!l0.all (bIn · lo hi))) ∧ Drawn0 w w' := by
 have HR0 := Aside0.mk hr0
 have HA := Aside0.mk ha
 have HB := Aside0.mk hb
 clear hr0 ha hb
 go_enter Try.func67, Try.ntmps67
 go_wp2_with (go_at_call 73; refine (ixf73 lo hi a b A0 c0 l0 _ HA.out HB.out HR0.out).mono ?_; rintro e w' ⟨⟨n, rfl, hn⟩, ⟨q, rfl⟩⟩; have HN := Aside0.mk hn; clear hn)
 all_goals
  go_ret
  refine ⟨ret_b ?_, ⟨_, rfl⟩⟩
  rw [← HN.out]
  try first | rfl | simp | (simp; omega)
def impl_allWithin.f (l0 : List Int) (a1 : Int) (a2 : Int) : Option (Bool) := some (l0.all (bIn · a1 a2))
set_option maxHeartbeats 1600000 in
theorem impl_allWithin.calls (A0 : Option Addr) (c0 : Nat) (l0 : List Int) (a1 : Int) (a2 : Int) (r : Bool) (w : World) (hr0 : Kd.C (Kd.int .i64) w A0 l0.length l0) (hc0 : l0.length ≤ c0) (h : impl_allWithin.f l0 a1 a2 = some r) :
  Calls Try.prog 54 #[.slice A0 l0.length c0, .int .i64 a1, .int .i64 a2] w fun e w' => e = .returned (.bool r) ∧ Below w.heap.size w w' := by
 have HR0 := Aside0.mk hr0
 have HE := Aside0.mk (Option.some.inj h)
 clear hr0 h hc0
 go_enter Try.func54, Try.ntmps54
 go_wp2_with (go_at_call 67; refine (cnf67 a1 a2 w.heap.size (w.heap.size + 1) A0 c0 l0 ((w.alloc (.cells #[.int .i64 a1] 2)).alloc (.cells #[.int .i64 a2] 2)) ?x1 ?x2 ?x3).mono ?_; (case x1 => exact kA (heap_alloc_new w _) _); (case x2 => simpa using heap_alloc_new (w.alloc (.cells #[.int .i64 a1] 2)) (.cells #[.int .i64 a2] 2)); (case x3 => exact cA (cA HR0.out _) _); rintro e w' ⟨rfl, ⟨q, rfl⟩⟩)
 go_ret
 exact ⟨ret_b (by rw [← HE.out]; try simp), bN (bA (bA (Below.refl _ _) _) _) _⟩

/-! ### impl_within: function 55 -/
def impl_within.f (a0 : Int) (a1 : Int) (a2 : Int) : Option (Bool) := if a0 ≥ a1 then (some (decide (a0 ≤ a2))) else (some false)
set_option maxHeartbeats 8000000 in
set_option maxRecDepth 100000 in
theorem impl_within.calls (a0 : Int) (a1 : Int) (a2 : Int) (r : Bool) (w : World) (h : impl_within.f a0 a1 a2 = some r) :
  Calls Try.prog 55 #[.int .i64 a0, .int .i64 a1, .int .i64 a2] w fun e w' => e = .returned (.bool r) ∧ Drawn0 w w' := by
 have H : (if a0 ≥ a1 then (some (decide (a0 ≤ a2))) else (some false)) = some r := h
 clear h
 by_cases c4 : a0 ≥ a1
 ·rw [if_pos c4] at H
  have c4b0 : decide (a1 ≤ a0) = true := decide_eq_true c4
  clear c4
  obtain rfl := Option.some.inj H
  go_enter Try.func55, Try.ntmps55
  go_wp2
  go_ret
  exact ⟨eT, dR⟩
 ·rw [if_neg c4] at H
  have c4b0 : decide (a1 ≤ a0) = false := decide_eq_false c4
  clear c4
  obtain rfl := Option.some.inj H
  go_enter Try.func55, Try.ntmps55
  go_wp2
  go_ret
  exact ⟨eT, dR⟩

/-! ### impl_Grammar_hasState: function 59 -/
def impl_Grammar_hasState.f (a0_0 : Int) (a0_1 : Int) (l0_2 : List Int) (l0_3 : List (S68)) (a1 : Int) : Option (Bool) := (impl_within.f a1 0 (wrap64 (a0_0 - 1))).bind fun t205 => (some t205)
set_option maxHeartbeats 8000000 in
set_option maxRecDepth 100000 in
theorem impl_Grammar_hasState.calls (a0_0 : Int) (a0_1 : Int) (A0_2 : Option Addr) (c0_2 : Nat) (l0_2 : List Int) (A0_3 : Option Addr) (c0_3 : Nat) (l0_3 : List (S68)) (a1 : Int) (r : Bool) (w : World) (hr0_2 : Kd.C (Kd.int .i64) w A0_2 l0_2.length l0_2) (hc0_2 : l0_2.length ≤ c0_2) (hr0_3 : Kd.C k68 w A0_3 l0_3.length l0_3) (hc0_3 : l0_3.length ≤ c0_3) (h : impl_Grammar_hasState.f a0_0 a0_1 l0_2 l0_3 a1 = some r) :
  Calls Try.prog 59 #[.agg #[.int .i64 a0_0, .int .i64 a0_1, .slice A0_2 l0_2.length c0_2, .slice A0_3 l0_3.length c0_3], .int .i64 a1] w fun e w' => e = .returned (.bool r) ∧ Below w.heap.size w w' := by
 have hu39 := Try.underlying39
 have HR0_2 := Aside0.mk hr0_2
 have HC0_2 := Aside0.mk hc0_2
 clear hr0_2 hc0_2
 have HR0_3 := Aside0.mk hr0_3
 have HC0_3 := Aside0.mk hc0_3
 clear hr0_3 hc0_3
 have HB := Aside0.mk (Below.refl w.heap.size w)
 have H : ((impl_within.f a1 0 (wrap64 (a0_0 - 1))).bind fun t205 => (some t205)) = some r := h
 clear h
 replace H := Option.bind_eq_some_iff.mp H
 obtain ⟨t205, A30, H⟩ := H
 replace H : (some t205) = some r := H
 have A3 := Aside0.mk A30
 clear A30
 obtain rfl := Option.some.inj H
 go_enter Try.func59, Try.ntmps59
 go_wp2_with (first | ((with_reducible refine gate_dst (N := 2) rfl ?_); refine bE ?hg (N := 2) ?hd (cs := #[.int .i64 a0_0, .int .i64 a0_1, .slice A0_2 l0_2.length c0_2, .slice A0_3 l0_3.length c0_3]) (t := 39) ?hr ?_; (case hd => rfl); (case hg => rfl); (case hr => first | (go_simp; done) | (go_simp; rfl)); intro gb204 hg w4 hbox hb; have z_ := bX hb (hQ HB); have n0_ := Aside0.mk (bP z_ hb); have n1_ := Aside0.mk (hbox); have n2_ := Aside0.mk ((by rw [hg]; exact (bZ z_) : w.heap.size ≤ gb204)); have n3_ := Aside0.mk ((by rw [hg]; exact (bZ z_) : w.heap.size ≤ gb204)); clear HB; have HB := n0_; have BK204 := n1_; have GW204 := n2_; have GE204 := n3_; clear z_ n0_ n1_ n2_ n3_; clear hb hbox hg; obtain ⟨hcz5_0, hcz5_1, hcz5_2, hcz5_3⟩ := cZ4 BK204.out; obtain ⟨hfz5_0, hfz5_1, hfz5_2, hfz5_3⟩ := fZ4 BK204.out) | ((with_reducible refine gC (f := 55) rfl ?_); refine goesL_ (some 9) rfl rfl Try.func55 (by kernel_rfl) rfl #[.int .i64 a1, .int .i64 0, .int .i64 (wrap64 (a0_0 - 1))] rfl lQ ?_; (with_reducible refine (impl_within.calls a1 0 (wrap64 (a0_0 - 1)) t205 _ A3.out).mono ?_); rintro e w' ⟨rfl, ⟨nd, rfl⟩⟩; refine ⟨_, rfl, ?_⟩))
 go_ret
 exact ⟨by first | rfl | (simp [errW_none, errW_some] <;> rfl) | (simp [*, errW_none, errW_some] <;> rfl), by repeat (first | (with_reducible first | exact HB.out | apply bA | apply bN | apply bD | refine bS ?_ GE204.out) | exact HB.out)⟩

end Go.Proofs.Yteljnbhbpidjpaa.G
-- shrunk
-- tight
-- tight2
-- tight3
