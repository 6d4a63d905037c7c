/- What functions of the given program compute, as plain Lean functions, and that the code comes to just that; by a program of this session over the kit's print. No condition. -/
import Derived.Test.YtbebcnnibjkclaaDoorRx0
import Derived.Test.YtbebcnnibjkclaaDoorRx11
import Derived.Test.YtbebcnnibjkclaaDoorRx20
import Derived.Test.YtbebcnnibjkclaaDoorRx23
import Derived.Test.YtbebcnnibjkclaaDoorRx24
namespace Go.Proofs.YtbebcnnibjkclaaDoor.R
open Go.RowKit Go.Proofs.YtbebcnnibjkclaaDoorW.PrintWords Go.Proofs.YtbebcnnibjkclaaDoorW.PrintLast Go.Proofs.YtbebcnnibjkclaaDoorW.PrintMore
open Go.Proofs.YtbebcnnibjkclaaDoorW.PrintWords renaming below_alloc → bA, pw_below_drewN → bN, below_drew1 → bD, below_set → bS, blk_below → kB, below_size → bZ, below_step → bP, blk_lt → kL, gate_callee → gC, box_event → bE, blk_cell → kC
open Go.Proofs.YtbebcnnibjkclaaDoorW.PrintWords.Kd renaming R_drewN → rN, C_alloc → cA, C_drewN → cN, C_drew → cD, C_below → cB, R_lower → rL, R_below → rB, R_mono → rM
open List renaming set_cons_zero → sZ
attribute [local go_sem] max2_int min2_int max_two min_two max_three min_three max_four min_four   -- for this text's walks alone
set_option linter.unusedVariables false
set_option linter.unusedSimpArgs false

/-! ### laws_heldRaga: function 8 -/
def laws_heldRaga.f (k : Nat) (a0_0 : ByteArray) (l0_1 : List Int) (l0_2 : List Int) (a0_3 : Int) (a0_4 : Int) (l0_5 : List (List Int)) (a1 : Int) : Option (Int) := (laws_heldInt64S.f k l0_1 a1).bind fun t245 => (if t245 < 0 then (some (-1)) else ((laws_heldInt64S.f k l0_2 t245).bind fun t246 => (if t246 < 0 then (some (-1)) else ((laws_heldInt64SS.f k l0_5 t246).bind fun t247 => (if t247 < 0 then (some (-1)) else (some t247))))))
theorem laws_heldRaga.mono : ∀ a0 a1 a2 a3 a4 a5 a6 k, LeO (laws_heldRaga.f k a0 a1 a2 a3 a4 a5 a6) (laws_heldRaga.f (k + 1) a0 a1 a2 a3 a4 a5 a6) := by
 intro a0 a1 a2 a3 a4 a5 a6 k
 unfold laws_heldRaga.f
 repeat' first
   | (with_reducible exact laws_heldInt64S.mono _ _ _)
   | (with_reducible exact laws_heldInt64SS.mono _ _ _)
   | (with_reducible exact LeO.refl _)
   | (with_reducible exact LeO.none _)
   | (with_reducible refine LeO.ite ?_ ?_)
   | (with_reducible refine LeO.bind ?_ (fun _ => ?_))
   | exact laws_heldInt64S.mono _ _ _
   | exact laws_heldInt64SS.mono _ _ _
   | exact LeO.none _
   | refine LeO.ite ?_ ?_
   | refine LeO.bind ?_ (fun _ => ?_)
set_option maxHeartbeats 8000000 in
set_option maxRecDepth 100000 in
theorem laws_heldRaga.calls (k : Nat) (a0_0 : ByteArray) (A0_1 : Option Addr) (c0_1 : Nat) (l0_1 : List Int) (A0_2 : Option Addr) (c0_2 : Nat) (l0_2 : List Int) (a0_3 : Int) (a0_4 : Int) (A0_5 : Option Addr) (c0_5 : Nat) (l0_5 : List (List Int)) (a1 : Int) (r : Int) (w : World) (hr0_1 : Kd.C (Kd.int .i64) w A0_1 l0_1.length l0_1) (hc0_1 : l0_1.length ≤ c0_1) (hr0_2 : Kd.C (Kd.int .i64) w A0_2 l0_2.length l0_2) (hc0_2 : l0_2.length ≤ c0_2) (hr0_5 : Kd.C (Kd.slice 2 (Kd.int .i64)) w A0_5 l0_5.length l0_5) (hc0_5 : l0_5.length ≤ c0_5) (h : laws_heldRaga.f k a0_0 l0_1 l0_2 a0_3 a0_4 l0_5 a1 = some r) :
  Calls Tryd.prog 8 #[.agg #[.string a0_0, .slice A0_1 l0_1.length c0_1, .slice A0_2 l0_2.length c0_2, .int .i64 a0_3, .int .i64 a0_4, .slice A0_5 l0_5.length c0_5], .int .i64 a1] w fun e w' => e = .returned (.int .i64 r) ∧ Below w.heap.size w w' := by
 have hu25 := Tryd.underlying25
 have HR0_1 := Aside0.mk hr0_1
 have HC0_1 := Aside0.mk hc0_1
 clear hr0_1 hc0_1
 have HR0_2 := Aside0.mk hr0_2
 have HC0_2 := Aside0.mk hc0_2
 clear hr0_2 hc0_2
 have HR0_5 := Aside0.mk hr0_5
 have HC0_5 := Aside0.mk hc0_5
 clear hr0_5 hc0_5
 have HB := Aside0.mk (Below.refl w.heap.size w)
 have H : ((laws_heldInt64S.f k l0_1 a1).bind fun t245 => (if t245 < 0 then (some (-1)) else ((laws_heldInt64S.f k l0_2 t245).bind fun t246 => (if t246 < 0 then (some (-1)) else ((laws_heldInt64SS.f k l0_5 t246).bind fun t247 => (if t247 < 0 then (some (-1)) else (some t247))))))) = some r := h
 clear h
 replace H := Option.bind_eq_some_iff.mp H
 obtain ⟨t245, A30, H⟩ := H
 replace H : (if t245 < 0 then (some (-1)) else ((laws_heldInt64S.f k l0_2 t245).bind fun t246 => (if t246 < 0 then (some (-1)) else ((laws_heldInt64SS.f k l0_5 t246).bind fun t247 => (if t247 < 0 then (some (-1)) else (some t247)))))) = some r := H
 have A3 := Aside0.mk A30
 clear A30
 by_cases c4 : t245 < 0
 ·rw [if_pos c4] at H
  have c4b0 : decide (t245 < 0) = true := decide_eq_true c4
  clear c4
  obtain rfl := Option.some.inj H
  go_enter Tryd.func8, Tryd.ntmps8
  go_wp2_with (first | ((with_reducible refine gate_dst (N := 2) rfl ?_); refine bE ?hg (N := 2) ?hd (cs := #[.string a0_0, .slice A0_1 l0_1.length c0_1, .slice A0_2 l0_2.length c0_2, .int .i64 a0_3, .int .i64 a0_4, .slice A0_5 l0_5.length c0_5]) (t := 25) ?hr ?_; (case hd => rfl); (case hg => rfl); (case hr => first | (go_simp; done) | (go_simp; rfl)); intro gb244 hg w5 hbox hb; have n0_ := Aside0.mk (bP (by repeat (first | (with_reducible first | exact HB.out | apply bA | apply bN | apply bD) | exact HB.out)) hb); have n1_ := Aside0.mk (hbox); have n2_ := Aside0.mk ((by rw [hg]; exact (bZ (by repeat (first | (with_reducible first | exact HB.out | apply bA | apply bN | apply bD) | exact HB.out))) : w.heap.size ≤ gb244)); have n3_ := Aside0.mk ((by rw [hg]; exact (bZ (by repeat (first | (with_reducible first | exact HB.out | apply bA | apply bN | apply bD) | exact HB.out))) : w.heap.size ≤ gb244)); clear HB; have HB := n0_; have BK244 := n1_; have GW244 := n2_; have GE244 := n3_; clear n0_ n1_ n2_ n3_; clear hb hbox hg; have hcz6_0 : w5.cell? ⟨gb244, 0, none⟩ = some (.string a0_0) := (kC BK244.out 0).trans rfl; have hcz6_1 : w5.cell? ⟨gb244, 1, none⟩ = some (.slice A0_1 l0_1.length c0_1) := (kC BK244.out 1).trans rfl; have hcz6_2 : w5.cell? ⟨gb244, 2, none⟩ = some (.slice A0_2 l0_2.length c0_2) := (kC BK244.out 2).trans rfl; have hcz6_3 : w5.cell? ⟨gb244, 3, none⟩ = some (.int .i64 a0_3) := (kC BK244.out 3).trans rfl; have hcz6_4 : w5.cell? ⟨gb244, 4, none⟩ = some (.int .i64 a0_4) := (kC BK244.out 4).trans rfl; have hcz6_5 : w5.cell? ⟨gb244, 5, none⟩ = some (.slice A0_5 l0_5.length c0_5) := (kC BK244.out 5).trans rfl; have hfz6_0 := blk_frozen BK244.out 0; have hfz6_1 := blk_frozen BK244.out 1; have hfz6_2 := blk_frozen BK244.out 2; have hfz6_3 := blk_frozen BK244.out 3; have hfz6_4 := blk_frozen BK244.out 4; have hfz6_5 := blk_frozen BK244.out 5) | ((with_reducible refine gC (f := 19) rfl ?_); refine goesL_ (some 8) rfl rfl Tryd.func19 (by kernel_rfl) rfl #[.slice A0_1 l0_1.length c0_1, .int .i64 a1] rfl (by (try simp only [List.map_toArray, List.map_cons, List.map_nil]); first | done | rfl | (simp only [List.length_drop, List.length_take]; rfl)) ?_; (with_reducible refine (laws_heldInt64S.calls k _ _ l0_1 a1 t245 _ ?side1 ?side2 A3.out).mono ?_); (case side1 => repeat (first | exact (cB HR0_1.out HB.out) | (with_reducible refine cA ?_ _) | (with_reducible refine cN ?_ _) | (with_reducible refine cD ?_))); (case side2 => exact HC0_1.out); rintro e w' ⟨rfl, ⟨nd, rfl⟩⟩; refine ⟨_, rfl, ?_⟩))
  go_ret
  exact ⟨by first | rfl | (simp [errW_none, errW_some] <;> rfl) | (simp [*, errW_none, errW_some] <;> rfl), by repeat (first | (with_reducible first | exact HB.out | apply bA | apply bN | apply bD | refine bS ?_ GE244.out) | exact HB.out)⟩
 ·rw [if_neg c4] at H
  have c4b0 : decide (t245 < 0) = false := decide_eq_false c4
  clear c4
  replace H := Option.bind_eq_some_iff.mp H
  obtain ⟨t246, A70, H⟩ := H
  replace H : (if t246 < 0 then (some (-1)) else ((laws_heldInt64SS.f k l0_5 t246).bind fun t247 => (if t247 < 0 then (some (-1)) else (some t247)))) = some r := H
  have A7 := Aside0.mk A70
  clear A70
  by_cases c8 : t246 < 0
  ·rw [if_pos c8] at H
   have c8b0 : decide (t246 < 0) = true := decide_eq_true c8
   clear c8
   obtain rfl := Option.some.inj H
   go_enter Tryd.func8, Tryd.ntmps8
   go_wp2_with (first | ((with_reducible refine gate_dst (N := 2) rfl ?_); refine bE ?hg (N := 2) ?hd (cs := #[.string a0_0, .slice A0_1 l0_1.length c0_1, .slice A0_2 l0_2.length c0_2, .int .i64 a0_3, .int .i64 a0_4, .slice A0_5 l0_5.length c0_5]) (t := 25) ?hr ?_; (case hd => rfl); (case hg => rfl); (case hr => first | (go_simp; done) | (go_simp; rfl)); intro gb244 hg w9 hbox hb; have n0_ := Aside0.mk (bP (by repeat (first | (with_reducible first | exact HB.out | apply bA | apply bN | apply bD) | exact HB.out)) hb); have n1_ := Aside0.mk (hbox); have n2_ := Aside0.mk ((by rw [hg]; exact (bZ (by repeat (first | (with_reducible first | exact HB.out | apply bA | apply bN | apply bD) | exact HB.out))) : w.heap.size ≤ gb244)); have n3_ := Aside0.mk ((by rw [hg]; exact (bZ (by repeat (first | (with_reducible first | exact HB.out | apply bA | apply bN | apply bD) | exact HB.out))) : w.heap.size ≤ gb244)); clear HB; have HB := n0_; have BK244 := n1_; have GW244 := n2_; have GE244 := n3_; clear n0_ n1_ n2_ n3_; clear hb hbox hg; have hcz10_0 : w9.cell? ⟨gb244, 0, none⟩ = some (.string a0_0) := (kC BK244.out 0).trans rfl; have hcz10_1 : w9.cell? ⟨gb244, 1, none⟩ = some (.slice A0_1 l0_1.length c0_1) := (kC BK244.out 1).trans rfl; have hcz10_2 : w9.cell? ⟨gb244, 2, none⟩ = some (.slice A0_2 l0_2.length c0_2) := (kC BK244.out 2).trans rfl; have hcz10_3 : w9.cell? ⟨gb244, 3, none⟩ = some (.int .i64 a0_3) := (kC BK244.out 3).trans rfl; have hcz10_4 : w9.cell? ⟨gb244, 4, none⟩ = some (.int .i64 a0_4) := (kC BK244.out 4).trans rfl; have hcz10_5 : w9.cell? ⟨gb244, 5, none⟩ = some (.slice A0_5 l0_5.length c0_5) := (kC BK244.out 5).trans rfl; have hfz10_0 := blk_frozen BK244.out 0; have hfz10_1 := blk_frozen BK244.out 1; have hfz10_2 := blk_frozen BK244.out 2; have hfz10_3 := blk_frozen BK244.out 3; have hfz10_4 := blk_frozen BK244.out 4; have hfz10_5 := blk_frozen BK244.out 5) | ((with_reducible refine gC (f := 19) rfl ?_); refine goesL_ (some 8) rfl rfl Tryd.func19 (by kernel_rfl) rfl #[.slice A0_1 l0_1.length c0_1, .int .i64 a1] rfl (by (try simp only [List.map_toArray, List.map_cons, List.map_nil]); first | done | rfl | (simp only [List.length_drop, List.length_take]; rfl)) ?_; (with_reducible refine (laws_heldInt64S.calls k _ _ l0_1 a1 t245 _ ?side1 ?side2 A3.out).mono ?_); (case side1 => repeat (first | exact (cB HR0_1.out HB.out) | (with_reducible refine cA ?_ _) | (with_reducible refine cN ?_ _) | (with_reducible refine cD ?_))); (case side2 => exact HC0_1.out); rintro e w' ⟨rfl, ⟨nd, rfl⟩⟩; refine ⟨_, rfl, ?_⟩) | ((with_reducible refine gC (f := 19) rfl ?_); refine goesL_ (some 14) rfl rfl Tryd.func19 (by kernel_rfl) rfl #[.slice A0_2 l0_2.length c0_2, .int .i64 t245] rfl (by (try simp only [List.map_toArray, List.map_cons, List.map_nil]); first | done | rfl | (simp only [List.length_drop, List.length_take]; rfl)) ?_; (with_reducible refine (laws_heldInt64S.calls k _ _ l0_2 t245 t246 _ ?side1 ?side2 A7.out).mono ?_); (case side1 => repeat (first | exact (cB HR0_2.out (by repeat (first | (with_reducible first | exact HB.out | apply bA | apply bN | apply bD | refine bS ?_ GE244.out) | exact HB.out))) | (with_reducible refine cA ?_ _) | (with_reducible refine cN ?_ _) | (with_reducible refine cD ?_))); (case side2 => exact HC0_2.out); rintro e w' ⟨rfl, ⟨nd, rfl⟩⟩; refine ⟨_, rfl, ?_⟩))
   go_ret
   exact ⟨by first | rfl | (simp [errW_none, errW_some] <;> rfl) | (simp [*, errW_none, errW_some] <;> rfl), by repeat (first | (with_reducible first | exact HB.out | apply bA | apply bN | apply bD | refine bS ?_ GE244.out) | exact HB.out)⟩
  ·rw [if_neg c8] at H
   have c8b0 : decide (t246 < 0) = false := decide_eq_false c8
   clear c8
   replace H := Option.bind_eq_some_iff.mp H
   obtain ⟨t247, A110, H⟩ := H
   replace H : (if t247 < 0 then (some (-1)) else (some t247)) = some r := H
   have A11 := Aside0.mk A110
   clear A110
   by_cases c12 : t247 < 0
   ·rw [if_pos c12] at H
    have c12b0 : decide (t247 < 0) = true := decide_eq_true c12
    clear c12
    obtain rfl := Option.some.inj H
    go_enter Tryd.func8, Tryd.ntmps8
    go_wp2_with (first | ((with_reducible refine gate_dst (N := 2) rfl ?_); refine bE ?hg (N := 2) ?hd (cs := #[.string a0_0, .slice A0_1 l0_1.length c0_1, .slice A0_2 l0_2.length c0_2, .int .i64 a0_3, .int .i64 a0_4, .slice A0_5 l0_5.length c0_5]) (t := 25) ?hr ?_; (case hd => rfl); (case hg => rfl); (case hr => first | (go_simp; done) | (go_simp; rfl)); intro gb244 hg w13 hbox hb; have n0_ := Aside0.mk (bP (by repeat (first | (with_reducible first | exact HB.out | apply bA | apply bN | apply bD) | exact HB.out)) hb); have n1_ := Aside0.mk (hbox); have n2_ := Aside0.mk ((by rw [hg]; exact (bZ (by repeat (first | (with_reducible first | exact HB.out | apply bA | apply bN | apply bD) | exact HB.out))) : w.heap.size ≤ gb244)); have n3_ := Aside0.mk ((by rw [hg]; exact (bZ (by repeat (first | (with_reducible first | exact HB.out | apply bA | apply bN | apply bD) | exact HB.out))) : w.heap.size ≤ gb244)); clear HB; have HB := n0_; have BK244 := n1_; have GW244 := n2_; have GE244 := n3_; clear n0_ n1_ n2_ n3_; clear hb hbox hg; have hcz14_0 : w13.cell? ⟨gb244, 0, none⟩ = some (.string a0_0) := (kC BK244.out 0).trans rfl; have hcz14_1 : w13.cell? ⟨gb244, 1, none⟩ = some (.slice A0_1 l0_1.length c0_1) := (kC BK244.out 1).trans rfl; have hcz14_2 : w13.cell? ⟨gb244, 2, none⟩ = some (.slice A0_2 l0_2.length c0_2) := (kC BK244.out 2).trans rfl; have hcz14_3 : w13.cell? ⟨gb244, 3, none⟩ = some (.int .i64 a0_3) := (kC BK244.out 3).trans rfl; have hcz14_4 : w13.cell? ⟨gb244, 4, none⟩ = some (.int .i64 a0_4) := (kC BK244.out 4).trans rfl; have hcz14_5 : w13.cell? ⟨gb244, 5, none⟩ = some (.slice A0_5 l0_5.length c0_5) := (kC BK244.out 5).trans rfl; have hfz14_0 := blk_frozen BK244.out 0; have hfz14_1 := blk_frozen BK244.out 1; have hfz14_2 := blk_frozen BK244.out 2; have hfz14_3 := blk_frozen BK244.out 3; have hfz14_4 := blk_frozen BK244.out 4; have hfz14_5 := blk_frozen BK244.out 5) | ((with_reducible refine gC (f := 19) rfl ?_); refine goesL_ (some 8) rfl rfl Tryd.func19 (by kernel_rfl) rfl #[.slice A0_1 l0_1.length c0_1, .int .i64 a1] rfl (by (try simp only [List.map_toArray, List.map_cons, List.map_nil]); first | done | rfl | (simp only [List.length_drop, List.length_take]; rfl)) ?_; (with_reducible refine (laws_heldInt64S.calls k _ _ l0_1 a1 t245 _ ?side1 ?side2 A3.out).mono ?_); (case side1 => repeat (first | exact (cB HR0_1.out HB.out) | (with_reducible refine cA ?_ _) | (with_reducible refine cN ?_ _) | (with_reducible refine cD ?_))); (case side2 => exact HC0_1.out); rintro e w' ⟨rfl, ⟨nd, rfl⟩⟩; refine ⟨_, rfl, ?_⟩) | ((with_reducible refine gC (f := 19) rfl ?_); refine goesL_ (some 14) rfl rfl Tryd.func19 (by kernel_rfl) rfl #[.slice A0_2 l0_2.length c0_2, .int .i64 t245] rfl (by (try simp only [List.map_toArray, List.map_cons, List.map_nil]); first | done | rfl | (simp only [List.length_drop, List.length_take]; rfl)) ?_; (with_reducible refine (laws_heldInt64S.calls k _ _ l0_2 t245 t246 _ ?side1 ?side2 A7.out).mono ?_); (case side1 => repeat (first | exact (cB HR0_2.out (by repeat (first | (with_reducible first | exact HB.out | apply bA | apply bN | apply bD | refine bS ?_ GE244.out) | exact HB.out))) | (with_reducible refine cA ?_ _) | (with_reducible refine cN ?_ _) | (with_reducible refine cD ?_))); (case side2 => exact HC0_2.out); rintro e w' ⟨rfl, ⟨nd, rfl⟩⟩; refine ⟨_, rfl, ?_⟩) | ((with_reducible refine gC (f := 20) rfl ?_); refine goesL_ (some 20) rfl rfl Tryd.func20 (by kernel_rfl) rfl #[.slice A0_5 l0_5.length c0_5, .int .i64 t246] rfl (by (try simp only [List.map_toArray, List.map_cons, List.map_nil]); first | done | rfl | (simp only [List.length_drop, List.length_take]; rfl)) ?_; (with_reducible refine (laws_heldInt64SS.calls k _ _ l0_5 t246 t247 _ ?side1 ?side2 A11.out).mono ?_); (case side1 => repeat (first | exact (cB HR0_5.out (by repeat (first | (with_reducible first | exact HB.out | apply bA | apply bN | apply bD | refine bS ?_ GE244.out) | exact HB.out))) | (with_reducible refine cA ?_ _) | (with_reducible refine cN ?_ _) | (with_reducible refine cD ?_))); (case side2 => exact HC0_5.out); rintro e w' ⟨rfl, ⟨nd, rfl⟩⟩; refine ⟨_, rfl, ?_⟩))
    go_ret
    exact ⟨by first | rfl | (simp [errW_none, errW_some] <;> rfl) | (simp [*, errW_none, errW_some] <;> rfl), by repeat (first | (with_reducible first | exact HB.out | apply bA | apply bN | apply bD | refine bS ?_ GE244.out) | exact HB.out)⟩
   ·rw [if_neg c12] at H
    have c12b0 : decide (t247 < 0) = false := decide_eq_false c12
    clear c12
    obtain rfl := Option.some.inj H
    go_enter Tryd.func8, Tryd.ntmps8
    go_wp2_with (first | ((with_reducible refine gate_dst (N := 2) rfl ?_); refine bE ?hg (N := 2) ?hd (cs := #[.string a0_0, .slice A0_1 l0_1.length c0_1, .slice A0_2 l0_2.length c0_2, .int .i64 a0_3, .int .i64 a0_4, .slice A0_5 l0_5.length c0_5]) (t := 25) ?hr ?_; (case hd => rfl); (case hg => rfl); (case hr => first | (go_simp; done) | (go_simp; rfl)); intro gb244 hg w15 hbox hb; have n0_ := Aside0.mk (bP (by repeat (first | (with_reducible first | exact HB.out | apply bA | apply bN | apply bD) | exact HB.out)) hb); have n1_ := Aside0.mk (hbox); have n2_ := Aside0.mk ((by rw [hg]; exact (bZ (by repeat (first | (with_reducible first | exact HB.out | apply bA | apply bN | apply bD) | exact HB.out))) : w.heap.size ≤ gb244)); have n3_ := Aside0.mk ((by rw [hg]; exact (bZ (by repeat (first | (with_reducible first | exact HB.out | apply bA | apply bN | apply bD) | exact HB.out))) : w.heap.size ≤ gb244)); clear HB; have HB := n0_; have BK244 := n1_; have GW244 := n2_; have GE244 := n3_; clear n0_ n1_ n2_ n3_; clear hb hbox hg; have hcz16_0 : w15.cell? ⟨gb244, 0, none⟩ = some (.string a0_0) := (kC BK244.out 0).trans rfl; have hcz16_1 : w15.cell? ⟨gb244, 1, none⟩ = some (.slice A0_1 l0_1.length c0_1) := (kC BK244.out 1).trans rfl; have hcz16_2 : w15.cell? ⟨gb244, 2, none⟩ = some (.slice A0_2 l0_2.length c0_2) := (kC BK244.out 2).trans rfl; have hcz16_3 : w15.cell? ⟨gb244, 3, none⟩ = some (.int .i64 a0_3) := (kC BK244.out 3).trans rfl; have hcz16_4 : w15.cell? ⟨gb244, 4, none⟩ = some (.int .i64 a0_4) := (kC BK244.out 4).trans rfl; have hcz16_5 : w15.cell? ⟨gb244, 5, none⟩ = some (.slice A0_5 l0_5.length c0_5) := (kC BK244.out 5).trans rfl; have hfz16_0 := blk_frozen BK244.out 0; have hfz16_1 := blk_frozen BK244.out 1; have hfz16_2 := blk_frozen BK244.out 2; have hfz16_3 := blk_frozen BK244.out 3; have hfz16_4 := blk_frozen BK244.out 4; have hfz16_5 := blk_frozen BK244.out 5) | ((with_reducible refine gC (f := 19) rfl ?_); refine goesL_ (some 8) rfl rfl Tryd.func19 (by kernel_rfl) rfl #[.slice A0_1 l0_1.length c0_1, .int .i64 a1] rfl (by (try simp only [List.map_toArray, List.map_cons, List.map_nil]); first | done | rfl | (simp only [List.length_drop, List.length_take]; rfl)) ?_; (with_reducible refine (laws_heldInt64S.calls k _ _ l0_1 a1 t245 _ ?side1 ?side2 A3.out).mono ?_); (case side1 => repeat (first | exact (cB HR0_1.out HB.out) | (with_reducible refine cA ?_ _) | (with_reducible refine cN ?_ _) | (with_reducible refine cD ?_))); (case side2 => exact HC0_1.out); rintro e w' ⟨rfl, ⟨nd, rfl⟩⟩; refine ⟨_, rfl, ?_⟩) | ((with_reducible refine gC (f := 19) rfl ?_); refine goesL_ (some 14) rfl rfl Tryd.func19 (by kernel_rfl) rfl #[.slice A0_2 l0_2.length c0_2, .int .i64 t245] rfl (by (try simp only [List.map_toArray, List.map_cons, List.map_nil]); first | done | rfl | (simp only [List.length_drop, List.length_take]; rfl)) ?_; (with_reducible refine (laws_heldInt64S.calls k _ _ l0_2 t245 t246 _ ?side1 ?side2 A7.out).mono ?_); (case side1 => repeat (first | exact (cB HR0_2.out (by repeat (first | (with_reducible first | exact HB.out | apply bA | apply bN | apply bD | refine bS ?_ GE244.out) | exact HB.out))) | (with_reducible refine cA ?_ _) | (with_reducible refine cN ?_ _) | (with_reducible refine cD ?_))); (case side2 => exact HC0_2.out); rintro e w' ⟨rfl, ⟨nd, rfl⟩⟩; refine ⟨_, rfl, ?_⟩) | ((with_reducible refine gC (f := 20) rfl ?_); refine goesL_ (some 20) rfl rfl Tryd.func20 (by kernel_rfl) rfl #[.slice A0_5 l0_5.length c0_5, .int .i64 t246] rfl (by (try simp only [List.map_toArray, List.map_cons, List.map_nil]); first | done | rfl | (simp only [List.length_drop, List.length_take]; rfl)) ?_; (with_reducible refine (laws_heldInt64SS.calls k _ _ l0_5 t246 t247 _ ?side1 ?side2 A11.out).mono ?_); (case side1 => repeat (first | exact (cB HR0_5.out (by repeat (first | (with_reducible first | exact HB.out | apply bA | apply bN | apply bD | refine bS ?_ GE244.out) | exact HB.out))) | (with_reducible refine cA ?_ _) | (with_reducible refine cN ?_ _) | (with_reducible refine cD ?_))); (case side2 => exact HC0_5.out); rintro e w' ⟨rfl, ⟨nd, rfl⟩⟩; refine ⟨_, rfl, ?_⟩))
    go_ret
    exact ⟨by first | rfl | (simp [errW_none, errW_some] <;> rfl) | (simp [*, errW_none, errW_some] <;> rfl), by repeat (first | (with_reducible first | exact HB.out | apply bA | apply bN | apply bD | refine bS ?_ GE244.out) | exact HB.out)⟩

/-! ### laws_FnExactReadRaga: function 3 -/
/-- Marks on a row of rows: the last mark, and what the rows read. -/
def mkL (k : Nat) : List (List Int) → Int → Option (Int × List (List Int))
 | [], a => some (a, [])
 | x :: l, a => (laws_markInt64S.f k x a).bind fun b => (mkL k l b.1).bind fun c => some (c.1, b.2 :: c.2)
theorem mk_get {y l0 : List (List Int)} {i : Nat} (hy : y.length = i) (h : i < l0.length) : (y ++ l0.drop i).getD (i : Int).toNat [] = l0[i] := by
 subst hy
 rw [Int.toNat_natCast, List.getD_eq_getElem?_getD, List.getElem?_append_right (Nat.le_refl _), Nat.sub_self, List.getElem?_drop, Nat.add_zero, List.getElem?_eq_getElem h]
 rfl
theorem mk_set {y l0 : List (List Int)} {i : Nat} (hy : y.length = i) (h : i < l0.length) (b : List Int) : (y ++ l0.drop i).set (i : Int).toNat b = (y ++ [b]) ++ l0.drop (i + 1) := by
 subst hy
 rw [Int.toNat_natCast, List.drop_eq_getElem_cons h, List.set_append_right _ _ (Nat.le_refl _), Nat.sub_self, sZ, List.append_assoc]
 rfl
set_option maxHeartbeats 1600000 in
set_option maxRecDepth 100000 in
theorem mkss (k : Nat) (P : Nat → Prop) (u : Value) (l0 : List (List Int)) (a1 r1 : Int) (r2 : List (List Int)) (w0 w : World) (hB : Below w0.heap.size w0 w) (hl : l0.length ≤ 1048577) (ho : Kd.S DSS 22 w w0.heap.size P u l0) (h : mkL k l0 a1 = some (r1, r2)) :
  Calls Tryd.prog 18 #[u, .int .i64 a1] w fun e w' => e = .returned (.int .i64 r1) ∧ Kd.S DSS 22 w' w0.heap.size P u r2 ∧ Below w0.heap.size w0 w' ∧ Kept w w' P := by
 obtain ⟨A, cap, rfl⟩ := Kd.S_slice ho
 have HBB := Aside0.mk hB
 have HO := Aside0.mk ho
 have HH := Aside0.mk h
 clear hB ho h
 go_enter Tryd.func18, Tryd.ntmps18
 go_wp2
 go_loopw [1, 5] (fun v1 v5 wr => ∃ (i : Nat) (a' : Int) (y z : List (List Int)), v1 = .int .i64 a' ∧ v5 = .int .i64 (i : Int) ∧ i ≤ l0.length ∧ Aside0 (y.length = i) ∧ Aside0 (mkL k (l0.drop i) a' = some (r1, z)) ∧ Aside0 (y ++ z = r2) ∧ Aside0 (Kd.S DSS 22 wr w0.heap.size P (.slice A l0.length cap) (y ++ l0.drop i)) ∧ Aside0 (Below w0.heap.size w0 wr) ∧ Aside0 (Kept w wr P)) (fun _ v5 _ => l0.length - (intOf v5).toNat)
 case atStart => exact ⟨0, a1, [], r2, rfl, rfl, Nat.zero_le _, ⟨rfl⟩, HH, ⟨rfl⟩, HO, HBB, ⟨Kept.refl _ _⟩⟩
 case round =>
  obtain ⟨i, a', y, z, rfl, rfl, hi, HY, HM, HZ, HS, HB, HK⟩ := hrel
  by_cases hlt : i < l0.length
  ·have hlen : (y ++ l0.drop i).length = l0.length := by have := HY.out; rw [List.length_append, List.length_drop]; omega
   obtain ⟨g, cap2, e, _⟩ := Kd.S_form HS.out (by rw [hlen]; omega)
   injection e with e1 e2 e3
   subst e1
   clear e2 e3 hlen
   obtain ⟨oki, cc, hcl, hM, hcc, hoki, hH⟩ := Kd.S_lend HS.out [] (i : Int) (by omega) (by omega)
   obtain ⟨v, rfl, hR⟩ := hM
   rw [mk_get HY.out hlt] at hR
   obtain ⟨A2, c2, rfl⟩ := Kd.R_slice hR
   have hx : wr.cell? ⟨g, i, none⟩ = some (.slice A2 l0[i].length c2) := by
    have := hcc 0 _ rfl
    rw [Int.toNat_natCast, show (DSS).sz = 1 from rfl, Nat.mul_one, Nat.add_zero] at this
    exact this
   have hM2 := HM.out
   rw [List.drop_eq_getElem_cons hlt, mkL] at hM2
   obtain ⟨⟨b1, b2⟩, hb1, hM3⟩ := Option.bind_eq_some_iff.1 hM2
   obtain ⟨⟨d1, d2⟩, hd1, hM4⟩ := Option.bind_eq_some_iff.1 hM3
   obtain ⟨e1, e2⟩ := Prod.mk.inj (Option.some.inj hM4)
   dsimp only at e1 e2 hd1
   subst e1
   have HZ2 := Aside0.mk e2
   have HBK := Aside0.mk hb1
   have HD := Aside0.mk hd1
   have HR := Aside0.mk hR
   have HHo := Aside0.mk hH
   have HI := Aside0.mk hoki
   clear hM2 hM3 hM4 hb1 hd1 hR hH hcc hcl hoki e2 HM HS
   go_wp2_with (go_at_call 17; (with_reducible refine (laws_markInt64S.calls k oki (.slice A2 l0[i].length c2) l0[i] a' b1 b2 w0 _ ?s0 ?s1 HBK.out).mono ?_); (case s0 => repeat (first | exact HB.out | apply bN)); (case s1 => repeat (first | exact HR.out | apply rN)); rintro e w' ⟨rfl, hr, hb, hk⟩; have n1_ := Aside0.mk (show Kd.S DSS 22 w' w0.heap.size P (.slice (some ⟨g, 0, none⟩) l0.length cap) ((y ++ l0.drop i).set (i : Int).toNat b2) from Kd.H_back (okp := oki) (by first | exact Kd.H_step (Kd.H_drewN HHo.out _) (fun k h1 h2 h3 => hk.2 k h3 h2) | exact Kd.H_step HHo.out (fun k h1 h2 h3 => hk.2 k h3 h2)) ⟨_, rfl, Kd.R_reok rfl hr (fun k e => HR.out.1 k e)⟩ (fun _ h => h)); have n2_ := Aside0.mk hb; have n3_ := Aside0.mk (show Kept w w' P from HK.out.then_ (by first | exact hk | exact (show Kept wr w' oki from hk)) (fun k h => .inl (HI.out k h).1)); clear hb hk hr HB HK HR HHo; have HB := n2_; have HK := n3_; clear n2_ n3_)
   go_roundw
   case rel => exact ⟨i + 1, b1, y ++ [b2], d2, rfl, by go_num, by omega, ⟨by rw [List.length_append, List.length_singleton, HY.out]⟩, HD, ⟨by rw [← HZ.out, ← HZ2.out, List.append_assoc]; rfl⟩, ⟨by rw [← mk_set HY.out hlt]; exact n1_.out⟩, HB, HK⟩
   case measure => simp [intOf]; omega
  ·go_wp2
   go_ret
   have hm := HM.out
   rw [List.drop_eq_nil_of_le (by omega), mkL] at hm
   obtain ⟨e1, e2⟩ := Prod.mk.inj (Option.some.inj hm)
   have hs := HS.out
   rw [List.drop_eq_nil_of_le (by omega), List.append_nil] at hs
   rw [← e2, List.append_nil] at HZ
   rw [HZ.out] at hs
   exact ⟨by rw [e1]; rfl, hs, HB.out, HK.out⟩
theorem mkL_len (k : Nat) : ∀ (l : List (List Int)) (a a' : Int) (z : List (List Int)), mkL k l a = some (a', z) → z.length = l.length
 | [], a, a', z, h => by
  obtain ⟨_, rfl⟩ := Prod.mk.inj (Option.some.inj h)
  rfl
 | x :: l, a, a', z, h => by
  rw [mkL] at h
  obtain ⟨b, _, h2⟩ := Option.bind_eq_some_iff.1 h
  obtain ⟨c, h3, h4⟩ := Option.bind_eq_some_iff.1 h2
  obtain ⟨_, rfl⟩ := Prod.mk.inj (Option.some.inj h4)
  rw [List.length_cons, List.length_cons, mkL_len k l b.1 c.1 c.2 h3]
/-- A raga's copy in memory: its box, and its rows, apart from each other, in blocks between two sizes. -/
structure GAt (w0 W : World) (lo hi g : Nat) (nm : ByteArray) (v1 : Value) (l1 : List Int) (v2 : Value) (l2 : List Int) (x y : Int) (v5 : Value) (l5 : List (List Int)) : Prop where
 box : W.heap[g]? = some (.cells #[.string nm, v1, v2, .int .i64 x, .int .i64 y, v5] 25 (0, 0))
 r1 : Kd.R (Kd.int .i64) 2 W w0.heap.size (fun k => some k = v1.ownBlock ∧ lo ≤ k ∧ k < hi) v1 l1
 r2 : Kd.R (Kd.int .i64) 2 W w0.heap.size (fun k => some k = v2.ownBlock ∧ lo ≤ k ∧ k < hi) v2 l2
 r5 : Kd.S DSS 22 W w0.heap.size (fun k => (some k ≠ v1.ownBlock ∧ some k ≠ v2.ownBlock) ∧ lo ≤ k ∧ k < hi) v5 l5
 hg : hi ≤ g
 ap : ∀ k, some k = v1.ownBlock → some k ≠ v2.ownBlock
section
variable {w0 W W1 W2 : World} {lo hi g b : Nat} {nm : ByteArray} {v1 v2 v5 : Value} {l1 l2 y1 y2 : List Int} {x y : Int} {l5 y5 : List (List Int)}
theorem GAt.size (h : GAt w0 W lo hi g nm v1 l1 v2 l2 x y v5 l5) : hi ≤ W.heap.size := Nat.le_of_lt (Nat.lt_of_le_of_lt h.hg (kL h.box))
theorem GAt.onto (h : GAt w0 W lo hi g nm v1 l1 v2 l2 x y v5 l5) (hb : Below W.heap.size W W1) : GAt w0 W1 lo hi g nm v1 l1 v2 l2 x y v5 l5 :=
 ⟨kB h.box hb, rB h.r1 hb, rB h.r2 hb, Kd.S_below h.r5 hb, h.hg, h.ap⟩
theorem GAt.make {z0 z1 z2 z3 z4 z5 : Value} (h1 : Kd.R (Kd.int .i64) 2 W b (fun k => some k ≠ v2.ownBlock) v1 l1) (h2 : Kd.R (Kd.int .i64) 2 W b (fun k => some k ≠ v1.ownBlock) v2 l2) (h5 : Kd.S DSS 22 W b (fun k => some k ≠ v1.ownBlock ∧ some k ≠ v2.ownBlock) v5 l5) (hb : Below W.heap.size W W1) (hbox : W1.heap[g]? = some (.cells #[z0, z1, z2, z3, z4, z5] 25 (0, 0))) (hg : g = W.heap.size) (hw : W2 = (((((W1.setCell ⟨g, 0, none⟩ (.string nm)).setCell ⟨g, 1, none⟩ v1).setCell ⟨g, 2, none⟩ v2).setCell ⟨g, 3, none⟩ (.int .i64 x)).setCell ⟨g, 4, none⟩ (.int .i64 y)).setCell ⟨g, 5, none⟩ v5) (h0 : w0.heap.size ≤ b) : GAt w0 W2 b W.heap.size g nm v1 l1 v2 l2 x y v5 l5 :=
 ⟨(put6 hbox hw).1,
 r_put6 (rB (rL (rM (Kd.R_bound (Kd.R_tight rfl h1)) (fun _ hk => ⟨hk.1, hk.2.1, hk.2.2.1⟩)) h0) hb) hbox (by decide) hw,
 r_put6 (rB (rL (rM (Kd.R_bound (Kd.R_tight rfl h2)) (fun _ hk => ⟨hk.1, hk.2.1, hk.2.2.1⟩)) h0) hb) hbox (by decide) hw,
 s_put6 (Kd.S_below (Kd.S_lower (Kd.S_mono (Kd.S_bound h5) (fun _ hk => ⟨hk.1, hk.2.1, hk.2.2.1⟩)) h0) hb) hbox (by decide) hw,
 Nat.le_of_eq hg.symm, fun k hk => h1.1 k hk.symm⟩
theorem GAt.kept {S : Nat → Prop} {lo2 : Nat} (h : GAt w0 W lo hi g nm v1 l1 v2 l2 x y v5 l5) (hk : Kept W W1 S) (hS : ∀ k, S k → lo2 ≤ k) (hg : g < lo2) : GAt w0 W1 lo hi g nm v1 l1 v2 l2 x y v5 l5 := by
 have hh := h.hg
 refine ⟨(hk.2 g (kL h.box) (fun hs => by have := hS g hs; omega)).trans h.box, Kd.R_step h.r1 (fun k h1 h2 => hk.2 k h2 (fun hs => ?_)), Kd.R_step h.r2 (fun k h1 h2 => hk.2 k h2 (fun hs => ?_)), Kd.S_step h.r5 (fun k h1 h2 => hk.2 k h2 (fun hs => ?_)), h.hg, h.ap⟩
 all_goals
  have a1 := hS k hs
  have a2 := h1.2.2
  omega
theorem GAt.mark1 (h : GAt w0 W lo hi g nm v1 l1 v2 l2 x y v5 l5) (hr : Kd.R (Kd.int .i64) 2 W1 w0.heap.size (fun k => (some k = v1.ownBlock ∧ lo ≤ k ∧ k < hi) ∨ W.heap.size ≤ k) v1 y1) (hk : Kept W W1 (fun k => some k = v1.ownBlock ∧ lo ≤ k ∧ k < hi)) : GAt w0 W1 lo hi g nm v1 y1 v2 l2 x y v5 l5 := by
 have hh := h.hg
 exact ⟨(hk.2 g (kL h.box) (fun hs => by have := hs.2.2; omega)).trans h.box, Kd.R_reok rfl hr (fun k e => h.r1.1 k e), Kd.R_step h.r2 (fun k h1 h2 => hk.2 k h2 (fun hs => h.ap k hs.1 h1.1)), Kd.S_step h.r5 (fun k h1 h2 => hk.2 k h2 (fun hs => h1.1.1 hs.1)), h.hg, h.ap⟩
theorem GAt.mark2 (h : GAt w0 W lo hi g nm v1 l1 v2 l2 x y v5 l5) (hr : Kd.R (Kd.int .i64) 2 W1 w0.heap.size (fun k => (some k = v2.ownBlock ∧ lo ≤ k ∧ k < hi) ∨ W.heap.size ≤ k) v2 y2) (hk : Kept W W1 (fun k => some k = v2.ownBlock ∧ lo ≤ k ∧ k < hi)) : GAt w0 W1 lo hi g nm v1 l1 v2 y2 x y v5 l5 := by
 have hh := h.hg
 exact ⟨(hk.2 g (kL h.box) (fun hs => by have := hs.2.2; omega)).trans h.box, Kd.R_step h.r1 (fun k h1 h2 => hk.2 k h2 (fun hs => h.ap k h1.1 hs.1)), Kd.R_reok rfl hr (fun k e => h.r2.1 k e), Kd.S_step h.r5 (fun k h1 h2 => hk.2 k h2 (fun hs => h1.1.2 hs.1)), h.hg, h.ap⟩
theorem GAt.mark5 (h : GAt w0 W lo hi g nm v1 l1 v2 l2 x y v5 l5) (hr : Kd.S DSS 22 W1 w0.heap.size (fun k => (some k ≠ v1.ownBlock ∧ some k ≠ v2.ownBlock) ∧ lo ≤ k ∧ k < hi) v5 y5) (hk : Kept W W1 (fun k => (some k ≠ v1.ownBlock ∧ some k ≠ v2.ownBlock) ∧ lo ≤ k ∧ k < hi)) : GAt w0 W1 lo hi g nm v1 l1 v2 l2 x y v5 y5 := by
 have hh := h.hg
 exact ⟨(hk.2 g (kL h.box) (fun hs => by have := hs.2.2; omega)).trans h.box, Kd.R_step h.r1 (fun k h1 h2 => hk.2 k h2 (fun hs => hs.1.1 h1.1)), Kd.R_step h.r2 (fun k h1 h2 => hk.2 k h2 (fun hs => hs.1.2 h1.1)), hr, h.hg, h.ap⟩
end
set_option maxHeartbeats 4000000 in
set_option maxRecDepth 100000 in
theorem markR (k : Nat) (lo hi g : Nat) (nm : ByteArray) (A1 : Option Addr) (c1 : Nat) (l1 : List Int) (A2 : Option Addr) (c2 : Nat) (l2 : List Int) (x y : Int) (A5 : Option Addr) (c5 : Nat) (l5 : List (List Int)) (a1 b1 b2 b3 : Int) (y1 y2 : List Int) (y5 : List (List Int)) (w0 W : World) (hB : Below w0.heap.size w0 W) (hl : l5.length ≤ 1048577) (hG : GAt w0 W lo hi g nm (.slice A1 l1.length c1) l1 (.slice A2 l2.length c2) l2 x y (.slice A5 l5.length c5) l5)
  (e1 : laws_markInt64S.f k l1 a1 = some (b1, y1)) (e2 : laws_markInt64S.f k l2 b1 = some (b2, y2)) (e5 : mkL k l5 b2 = some (b3, y5)) :
  Calls Tryd.prog 7 #[.agg #[.string nm, .slice A1 l1.length c1, .slice A2 l2.length c2, .int .i64 x, .int .i64 y, .slice A5 l5.length c5], .int .i64 a1] W fun e W' => e = .returned (.int .i64 b3) ∧ GAt w0 W' lo hi g nm (.slice A1 l1.length c1) y1 (.slice A2 l2.length c2) y2 x y (.slice A5 l5.length c5) y5 ∧ Below w0.heap.size w0 W' ∧ Kept W W' (fun k => lo ≤ k ∧ k < hi) := by
 have hu := Tryd.underlying25
 have HS := Aside0.mk hG.size
 have HL := Aside0.mk hl
 have E1 := Aside0.mk e1
 have E2 := Aside0.mk e2
 have E5 := Aside0.mk e5
 have HBX := Aside0.mk (blk_new W (.cells #[.string nm, .slice A1 l1.length c1, .slice A2 l2.length c2, .int .i64 x, .int .i64 y, .slice A5 l5.length c5] 25 (0, 0)))
 have HGA := Aside0.mk (hG.onto (bA (Below.refl _ _) (.cells #[.string nm, .slice A1 l1.length c1, .slice A2 l2.length c2, .int .i64 x, .int .i64 y, .slice A5 l5.length c5] 25 (0, 0))))
 have HB := Aside0.mk (bA hB (.cells #[.string nm, .slice A1 l1.length c1, .slice A2 l2.length c2, .int .i64 x, .int .i64 y, .slice A5 l5.length c5] 25 (0, 0)))
 have HK := Aside0.mk (show Kept W (W.alloc (.cells #[.string nm, .slice A1 l1.length c1, .slice A2 l2.length c2, .int .i64 x, .int .i64 y, .slice A5 l5.length c5] 25 (0, 0))) (fun k => lo ≤ k ∧ k < hi) from Kept.alloc (Kept.refl _ _) _)
 clear hG hB hl e1 e2 e5
 go_enter Tryd.func7, Tryd.ntmps7
 go_wp2_with (first
  | (go_at_call 17; (with_reducible refine (laws_markInt64S.calls k _ _ l1 a1 b1 y1 w0 _ HB.out HGA.out.r1 E1.out).mono ?_); rintro e w1 ⟨rfl, hr, hb, hk⟩; have m1 := Aside0.mk (GAt.mark1 HGA.out hr hk); have m4 := Aside0.mk ((hk.2 W.heap.size (kL HBX.out) (fun h => by have h1 := h.2.2; have h2 := HS.out; omega)).trans HBX.out); have m5 := Aside0.mk (Kept.via HK.out hk (fun _ e => e.2)); have m6 := Aside0.mk hb; clear HGA HBX HK HB hb hk hr; have HGA := m1; have HBX := m4; have HK := m5; have HB := m6; clear m1 m4 m5 m6; have z2 : w1.cell? ⟨W.heap.size, 2, none⟩ = some (.slice A2 l2.length c2) := (kC HBX.out 2).trans rfl; have z5 : w1.cell? ⟨W.heap.size, 5, none⟩ = some (.slice A5 l5.length c5) := (kC HBX.out 5).trans rfl)
  | (go_at_call 17; (with_reducible refine (laws_markInt64S.calls k _ _ l2 b1 b2 y2 w0 _ HB.out HGA.out.r2 E2.out).mono ?_); rintro e w2 ⟨rfl, hr, hb, hk⟩; have m1 := Aside0.mk (GAt.mark2 HGA.out hr hk); have m4 := Aside0.mk ((hk.2 W.heap.size (kL HBX.out) (fun h => by have h1 := h.2.2; have h2 := HS.out; omega)).trans HBX.out); have m5 := Aside0.mk (Kept.via HK.out hk (fun _ e => e.2)); have m6 := Aside0.mk hb; clear HGA HBX HK HB hb hk hr z2 z5; have HGA := m1; have HBX := m4; have HK := m5; have HB := m6; clear m1 m4 m5 m6; have z5 : w2.cell? ⟨W.heap.size, 5, none⟩ = some (.slice A5 l5.length c5) := (kC HBX.out 5).trans rfl)
  | (go_at_call 18; (with_reducible refine (mkss k _ _ l5 b2 b3 y5 w0 _ HB.out HL.out HGA.out.r5 E5.out).mono ?_); rintro e w3 ⟨rfl, hr, hb, hk⟩; have m1 := Aside0.mk (GAt.mark5 HGA.out hr hk); have m4 := Aside0.mk ((hk.2 W.heap.size (kL HBX.out) (fun h => by have h1 := h.2.2; have h2 := HS.out; omega)).trans HBX.out); have m5 := Aside0.mk (Kept.via HK.out hk (fun _ e => e.2)); have m6 := Aside0.mk hb; clear HGA HBX HK HB hb hk hr z5; have HGA := m1; have HBX := m4; have HK := m5; have HB := m6; clear m1 m4 m5 m6))
 go_ret
 exact ⟨rfl, HGA.out, HB.out, HK.out⟩
def laws_FnExactReadRaga.f (k : Nat) (a0 : ByteArray) : Option Bool := if (a0.size : Int) > 1048576 then some true else
 (spec_ReadRaga.f k a0).bind fun s => (impl_ReadRaga.f k a0).bind fun g => (laws_eqRaga.f k g.1 g.2.1 g.2.2.1 g.2.2.2.1 g.2.2.2.2.1 g.2.2.2.2.2.1 s.1 s.2.1 s.2.2.1 s.2.2.2.1 s.2.2.2.2.1 s.2.2.2.2.2.1).bind fun t => (laws_markInt64S.f k g.2.1 1).bind fun m1 => (laws_markInt64S.f k g.2.2.1 m1.1).bind fun m2 => (mkL k g.2.2.2.2.2.1 m2.1).bind fun m5 => (laws_heldRaga.f k g.1 m1.2 m2.2 g.2.2.2.1 g.2.2.2.2.1 m5.2 1).bind fun q => if g.2.2.2.2.2.2 = s.2.2.2.2.2.2 ∧ t = true ∧ 0 ≤ q ∧ q = m5.1 ∧ g.2.2.2.2.2.1.length ≤ 1048577 then some true else none
/-- THE ONE PURE STATEMENT of laws_FnExactReadRaga. -/
def laws_FnExactReadRaga.Pure : Prop := ∀ (a0 : ByteArray), a0.size ≤ maxLen → ∃ k, laws_FnExactReadRaga.f k a0 = some true
set_option maxHeartbeats 8000000 in
set_option maxRecDepth 100000 in
theorem laws_FnExactReadRaga.calls (k : Nat) (a0 : ByteArray) (r : Bool) (w : World) (hT : TabM w) (h : laws_FnExactReadRaga.f k a0 = some r) :
  Calls Tryd.prog 3 #[.string a0] w fun e w' => e = .returned (.bool r) ∧ Below w.heap.size w w' := by
 have hu25 := Tryd.underlying25
 have HB := Aside0.mk (Below.refl w.heap.size w)
 unfold laws_FnExactReadRaga.f at h
 by_cases c : (a0.size : Int) > 1048576
 ·rw [if_pos c] at h
  obtain rfl := Option.some.inj h
  have c1b : decide ((a0.size : Int) > 1048576) = true := decide_eq_true c
  clear c h
  go_enter Tryd.func3, Tryd.ntmps3
  go_wp2
  go_ret
  exact ⟨rfl, (by repeat (first | exact HB.out | apply bN | apply bD | apply bA))⟩
 rw [if_neg c] at h
 obtain ⟨⟨s1, s2, s3, s4, s5, s6, s7⟩, es, h⟩ := Option.bind_eq_some_iff.1 h
 obtain ⟨⟨g1, g2, g3, g4, g5, g6, g7⟩, eg, h⟩ := Option.bind_eq_some_iff.1 h
 obtain ⟨t, et, h⟩ := Option.bind_eq_some_iff.1 h
 obtain ⟨⟨m1x, m1y⟩, em1, h⟩ := Option.bind_eq_some_iff.1 h
 obtain ⟨⟨m2x, m2y⟩, em2, h⟩ := Option.bind_eq_some_iff.1 h
 obtain ⟨⟨m5x, m5y⟩, em5, h⟩ := Option.bind_eq_some_iff.1 h
 obtain ⟨q, eq, h⟩ := Option.bind_eq_some_iff.1 h
 dsimp only at et em1 em2 em5 eq h
 by_cases cc : g7 = s7 ∧ t = true ∧ 0 ≤ q ∧ q = m5x ∧ g6.length ≤ 1048577
 rotate_left
 ·rw [if_neg cc] at h
  cases h
 rw [if_pos cc] at h
 obtain rfl := Option.some.inj h
 clear h
 obtain ⟨rfl, rfl, o1, rfl, o2⟩ := cc
 have ES := Aside0.mk es
 have EG := Aside0.mk eg
 have EQ1 := Aside0.mk et
 have EM1 := Aside0.mk em1
 have EM2 := Aside0.mk em2
 have EM5 := Aside0.mk em5
 have EQ := Aside0.mk eq
 have HX := Aside0.mk o2
 have c1b : decide ((a0.size : Int) > 1048576) = false := decide_eq_false c
 have p4 : decide (q < 0) = false := decide_eq_false (by omega)
 clear es eg et em1 em2 em5 eq o1 o2 c
 go_enter Tryd.func3, Tryd.ntmps3
 go_wp2_with (first
  | ((with_reducible refine gC (f := 4) rfl ?_); refine goesL_ (some 16) rfl rfl Tryd.func4 (by kernel_rfl) rfl #[.string a0] rfl (by (try simp only [List.map_toArray, List.map_cons, List.map_nil]); first | done | rfl | (simp only [List.length_drop, List.length_take]; rfl)) ?_; (with_reducible refine (spec_ReadRaga.calls k a0 s1 s2 s3 s4 s5 s6 g7 _ ES.out).mono ?_); rintro e p1 ⟨v1_, v2_, v5_, rfl, h1, h2, h5, hb⟩; refine ⟨_, rfl, ?_⟩; obtain ⟨As1, caps1, rfl⟩ := Kd.R_slice h1; obtain ⟨As2, caps2, rfl⟩ := Kd.R_slice h2; obtain ⟨As5, caps5, rfl⟩ := Kd.S_slice h5; have Q1 := Aside0.mk h1; have Q2 := Aside0.mk h2; have Q5 := Aside0.mk h5; have HP := Aside0.mk hb; clear h1 h2 h5 hb)
  | ((with_reducible refine gate_dst (N := 3) rfl ?_); refine bE ?hg (N := 3) ?hd (cs := #[.string (⟨#[]⟩ : ByteArray), .slice none 0 0, .slice none 0 0, .int .i64 0, .int .i64 0, .slice none 0 0]) (t := 25) ?hr ?_; (case hd => rfl); (case hg => rfl); (case hr => first | (go_simp; done) | (go_simp; rfl)); intro gw hg_ p2 hbox hb; have HZ := Aside0.mk hbox; have HG_ := Aside0.mk hg_; have HP2 := Aside0.mk hb; have cz0 : p2.cell? ⟨gw, 0, none⟩ = some (.string (⟨#[]⟩ : ByteArray)) := (kC hbox 0).trans rfl; have fz0 := blk_frozen hbox 0; have cz1 : p2.cell? ⟨gw, 1, none⟩ = some (.slice none 0 0) := (kC hbox 1).trans rfl; have fz1 := blk_frozen hbox 1; have cz2 : p2.cell? ⟨gw, 2, none⟩ = some (.slice none 0 0) := (kC hbox 2).trans rfl; have fz2 := blk_frozen hbox 2; have cz3 : p2.cell? ⟨gw, 3, none⟩ = some (.int .i64 0) := (kC hbox 3).trans rfl; have fz3 := blk_frozen hbox 3; have cz4 : p2.cell? ⟨gw, 4, none⟩ = some (.int .i64 0) := (kC hbox 4).trans rfl; have fz4 := blk_frozen hbox 4; have cz5 : p2.cell? ⟨gw, 5, none⟩ = some (.slice none 0 0) := (kC hbox 5).trans rfl; have fz5 := blk_frozen hbox 5; clear hg_ hb hbox)
  | ((with_reducible refine gate_store (t := 25) (p := 3) rfl ?_); refine store_event (t := 25) (p := 3) (v := ?vo_p3) (w1 := ((((((p2.setCell ⟨gw, 0, none⟩ (.string s1)).setCell ⟨gw, 1, none⟩ (.slice As1 s2.length caps1)).setCell ⟨gw, 2, none⟩ (.slice As2 s3.length caps2)).setCell ⟨gw, 3, none⟩ (.int .i64 s4)).setCell ⟨gw, 4, none⟩ (.int .i64 s5)).setCell ⟨gw, 5, none⟩ (.slice As5 s6.length caps5))) ?hg ?ho ?hn ?hr ?_; (case ho => rfl); (case hg => rfl); (case hn => rfl); (case hr => first | (go_simp; done) | (go_simp; rfl)); intro p3 hw; clear cz0 fz0 cz1 fz1 cz2 fz2 cz3 fz3 cz4 fz4 cz5 fz5; have hb2 := below_put6 HP2.out (Nat.le_of_eq HG_.out.symm) hw; have HW := Aside0.mk (GAt.make Q1.out Q2.out Q5.out HP2.out HZ.out HG_.out hw (bZ HB.out)); replace HB := Aside0.mk (bP HB.out (bP HP.out hb2)); clear HZ HG_ HP2 HP Q1 Q2 Q5 hw hb2; clear ES; have LW := Aside0.mk (kL HW.out.box))
  | ((with_reducible refine gC (f := 5) rfl ?_); refine goesL_ (some 21) rfl rfl Tryd.func5 (by kernel_rfl) rfl #[.string a0] rfl (by (try simp only [List.map_toArray, List.map_cons, List.map_nil]); first | done | rfl | (simp only [List.length_drop, List.length_take]; rfl)) ?_; (with_reducible refine (impl_ReadRaga.calls k a0 g1 g2 g3 g4 g5 g6 g7 _ (TabM.below hT (by repeat (first | exact HB.out | apply bN | apply bD | apply bA))) EG.out).mono ?_); rintro e q1 ⟨v1_, v2_, v5_, rfl, h1, h2, h5, hb⟩; refine ⟨_, rfl, ?_⟩; obtain ⟨Ag1, capg1, rfl⟩ := Kd.R_slice h1; obtain ⟨Ag2, capg2, rfl⟩ := Kd.R_slice h2; obtain ⟨Ag5, capg5, rfl⟩ := Kd.S_slice h5; replace HW := Aside0.mk (HW.out.onto hb); have Q1 := Aside0.mk h1; have Q2 := Aside0.mk h2; have Q5 := Aside0.mk h5; have HP := Aside0.mk hb; clear h1 h2 h5 hb)
  | ((with_reducible refine gate_dst (N := 5) rfl ?_); refine bE ?hg (N := 5) ?hd (cs := #[.string (⟨#[]⟩ : ByteArray), .slice none 0 0, .slice none 0 0, .int .i64 0, .int .i64 0, .slice none 0 0]) (t := 25) ?hr ?_; (case hd => rfl); (case hg => rfl); (case hr => first | (go_simp; done) | (go_simp; rfl)); intro gg hg_ q2 hbox hb; have HZ := Aside0.mk hbox; have HG_ := Aside0.mk hg_; have HP2 := Aside0.mk hb; have cz0 : q2.cell? ⟨gg, 0, none⟩ = some (.string (⟨#[]⟩ : ByteArray)) := (kC hbox 0).trans rfl; have fz0 := blk_frozen hbox 0; have cz1 : q2.cell? ⟨gg, 1, none⟩ = some (.slice none 0 0) := (kC hbox 1).trans rfl; have fz1 := blk_frozen hbox 1; have cz2 : q2.cell? ⟨gg, 2, none⟩ = some (.slice none 0 0) := (kC hbox 2).trans rfl; have fz2 := blk_frozen hbox 2; have cz3 : q2.cell? ⟨gg, 3, none⟩ = some (.int .i64 0) := (kC hbox 3).trans rfl; have fz3 := blk_frozen hbox 3; have cz4 : q2.cell? ⟨gg, 4, none⟩ = some (.int .i64 0) := (kC hbox 4).trans rfl; have fz4 := blk_frozen hbox 4; have cz5 : q2.cell? ⟨gg, 5, none⟩ = some (.slice none 0 0) := (kC hbox 5).trans rfl; have fz5 := blk_frozen hbox 5; clear hg_ hb hbox)
  | ((with_reducible refine gate_store (t := 25) (p := 5) rfl ?_); refine store_event (t := 25) (p := 5) (v := ?vo_q3) (w1 := ((((((q2.setCell ⟨gg, 0, none⟩ (.string g1)).setCell ⟨gg, 1, none⟩ (.slice Ag1 g2.length capg1)).setCell ⟨gg, 2, none⟩ (.slice Ag2 g3.length capg2)).setCell ⟨gg, 3, none⟩ (.int .i64 g4)).setCell ⟨gg, 4, none⟩ (.int .i64 g5)).setCell ⟨gg, 5, none⟩ (.slice Ag5 g6.length capg5))) ?hg ?ho ?hn ?hr ?_; (case ho => rfl); (case hg => rfl); (case hn => rfl); (case hr => first | (go_simp; done) | (go_simp; rfl)); intro q3 hw; clear cz0 fz0 cz1 fz1 cz2 fz2 cz3 fz3 cz4 fz4 cz5 fz5; have hb2 := below_put6 HP2.out (Nat.le_of_eq HG_.out.symm) hw; have HG := Aside0.mk (GAt.make Q1.out Q2.out Q5.out HP2.out HZ.out HG_.out hw (bZ HB.out)); replace HW := Aside0.mk (HW.out.onto hb2); replace HB := Aside0.mk (bP HB.out (bP HP.out hb2)); clear HZ HG_ HP2 HP Q1 Q2 Q5 hw hb2; have cg0 : q3.cell? ⟨gg, 0, none⟩ = some (.string g1) := (kC HG.out.box 0).trans rfl; have cg1 : q3.cell? ⟨gg, 1, none⟩ = some (.slice Ag1 g2.length capg1) := (kC HG.out.box 1).trans rfl; have cg2 : q3.cell? ⟨gg, 2, none⟩ = some (.slice Ag2 g3.length capg2) := (kC HG.out.box 2).trans rfl; have cg3 : q3.cell? ⟨gg, 3, none⟩ = some (.int .i64 g4) := (kC HG.out.box 3).trans rfl; have cg4 : q3.cell? ⟨gg, 4, none⟩ = some (.int .i64 g5) := (kC HG.out.box 4).trans rfl; have cg5 : q3.cell? ⟨gg, 5, none⟩ = some (.slice Ag5 g6.length capg5) := (kC HG.out.box 5).trans rfl; have cw0 : q3.cell? ⟨gw, 0, none⟩ = some (.string s1) := (kC HW.out.box 0).trans rfl; have cw1 : q3.cell? ⟨gw, 1, none⟩ = some (.slice As1 s2.length caps1) := (kC HW.out.box 1).trans rfl; have cw2 : q3.cell? ⟨gw, 2, none⟩ = some (.slice As2 s3.length caps2) := (kC HW.out.box 2).trans rfl; have cw3 : q3.cell? ⟨gw, 3, none⟩ = some (.int .i64 s4) := (kC HW.out.box 3).trans rfl; have cw4 : q3.cell? ⟨gw, 4, none⟩ = some (.int .i64 s5) := (kC HW.out.box 4).trans rfl; have cw5 : q3.cell? ⟨gw, 5, none⟩ = some (.slice As5 s6.length caps5) := (kC HW.out.box 5).trans rfl)
  | ((with_reducible refine gC (f := 6) rfl ?_); refine goesL_ (some 26) rfl rfl Tryd.func6 (by kernel_rfl) rfl #[.agg #[.string g1, .slice Ag1 g2.length capg1, .slice Ag2 g3.length capg2, .int .i64 g4, .int .i64 g5, .slice Ag5 g6.length capg5], .agg #[.string s1, .slice As1 s2.length caps1, .slice As2 s3.length caps2, .int .i64 s4, .int .i64 s5, .slice As5 s6.length caps5]] rfl (by (try simp only [List.map_toArray, List.map_cons, List.map_nil]); first | done | rfl | (simp only [List.length_drop, List.length_take]; rfl)) ?_; (with_reducible refine (laws_eqRaga.calls k g1 Ag1 capg1 g2 Ag2 capg2 g3 g4 g5 Ag5 capg5 g6 s1 As1 caps1 s2 As2 caps2 s3 s4 s5 As5 caps5 s6 true _ (Kd.R_reads' HG.out.r1).2.2 (Kd.R_reads' HG.out.r1).2.1 (Kd.R_reads' HG.out.r2).2.2 (Kd.R_reads' HG.out.r2).2.1 (Kd.S_reads' HG.out.r5).2.2 (Kd.S_reads' HG.out.r5).2.1 (Kd.R_reads' HW.out.r1).2.2 (Kd.R_reads' HW.out.r1).2.1 (Kd.R_reads' HW.out.r2).2.2 (Kd.R_reads' HW.out.r2).2.1 (Kd.S_reads' HW.out.r5).2.2 (Kd.S_reads' HW.out.r5).2.1 EQ1.out).mono ?_); rintro e r1 ⟨rfl, hb⟩; refine ⟨_, rfl, ?_⟩; clear cg0 cg1 cg2 cg3 cg4 cg5; clear cw0 cw1 cw2 cw3 cw4 cw5; replace HW := Aside0.mk (HW.out.onto hb); replace HG := Aside0.mk (HG.out.onto hb); replace HB := Aside0.mk (bP (by repeat (first | exact HB.out | apply bN | apply bD | apply bA)) hb); clear hb; have cg0 : r1.cell? ⟨gg, 0, none⟩ = some (.string g1) := (kC HG.out.box 0).trans rfl; have cg1 : r1.cell? ⟨gg, 1, none⟩ = some (.slice Ag1 g2.length capg1) := (kC HG.out.box 1).trans rfl; have cg2 : r1.cell? ⟨gg, 2, none⟩ = some (.slice Ag2 g3.length capg2) := (kC HG.out.box 2).trans rfl; have cg3 : r1.cell? ⟨gg, 3, none⟩ = some (.int .i64 g4) := (kC HG.out.box 3).trans rfl; have cg4 : r1.cell? ⟨gg, 4, none⟩ = some (.int .i64 g5) := (kC HG.out.box 4).trans rfl; have cg5 : r1.cell? ⟨gg, 5, none⟩ = some (.slice Ag5 g6.length capg5) := (kC HG.out.box 5).trans rfl)
  | ((with_reducible refine gC (f := 7) rfl ?_); refine goesL_ (some 35) rfl rfl Tryd.func7 (by kernel_rfl) rfl #[.agg #[.string g1, .slice Ag1 g2.length capg1, .slice Ag2 g3.length capg2, .int .i64 g4, .int .i64 g5, .slice Ag5 g6.length capg5], .int .i64 1] rfl (by (try simp only [List.map_toArray, List.map_cons, List.map_nil]); first | done | rfl | (simp only [List.length_drop, List.length_take]; rfl)) ?_; (with_reducible refine (markR k p3.heap.size q1.heap.size gg g1 Ag1 capg1 g2 Ag2 capg2 g3 g4 g5 Ag5 capg5 g6 1 m1x m2x q m1y m2y m5y w _ (by repeat (first | exact HB.out | apply bN | apply bD | apply bA)) HX.out HG.out EM1.out EM2.out EM5.out).mono ?_); rintro e r2 ⟨rfl, hg2, hb, hk⟩; refine ⟨_, rfl, ?_⟩; clear cg0 cg1 cg2 cg3 cg4 cg5; replace HW := Aside0.mk (HW.out.kept (lo2 := p3.heap.size) hk (fun _ h => h.1) LW.out); replace HG := Aside0.mk hg2; replace HB := Aside0.mk hb; have NG1 := Aside0.mk (Kd.R_reads' hg2.r1).1; have NG2 := Aside0.mk (Kd.R_reads' hg2.r2).1; have NG5 := Aside0.mk (Kd.S_reads' hg2.r5).1; clear hg2 hb hk EM1 EM2 EM5 HX; have cg0 : r2.cell? ⟨gg, 0, none⟩ = some (.string g1) := (kC HG.out.box 0).trans rfl; have cg1 : r2.cell? ⟨gg, 1, none⟩ = some (.slice Ag1 g2.length capg1) := (kC HG.out.box 1).trans rfl; have cg2 : r2.cell? ⟨gg, 2, none⟩ = some (.slice Ag2 g3.length capg2) := (kC HG.out.box 2).trans rfl; have cg3 : r2.cell? ⟨gg, 3, none⟩ = some (.int .i64 g4) := (kC HG.out.box 3).trans rfl; have cg4 : r2.cell? ⟨gg, 4, none⟩ = some (.int .i64 g5) := (kC HG.out.box 4).trans rfl; have cg5 : r2.cell? ⟨gg, 5, none⟩ = some (.slice Ag5 g6.length capg5) := (kC HG.out.box 5).trans rfl)
  | ((with_reducible refine gC (f := 8) rfl ?_); refine goesL_ (some 38) rfl rfl Tryd.func8 (by kernel_rfl) rfl #[.agg #[.string g1, .slice Ag1 g2.length capg1, .slice Ag2 g3.length capg2, .int .i64 g4, .int .i64 g5, .slice Ag5 g6.length capg5], .int .i64 1] rfl (by (try simp only [List.map_toArray, List.map_cons, List.map_nil]); first | done | rfl | (simp only [List.length_drop, List.length_take]; rfl)) ?_; have hc_ := fun w_ => laws_heldRaga.calls k g1 Ag1 capg1 m1y Ag2 capg2 m2y g4 g5 Ag5 capg5 m5y 1 q w_; simp only [← NG1.out, ← NG2.out, ← NG5.out] at hc_; refine (hc_ _ ?s1 ?s2 ?s3 ?s4 ?s5 ?s6 EQ.out).mono ?_; (case s1 => rw [NG1.out]; exact (Kd.R_reads' HG.out.r1).2.2); (case s2 => exact (Kd.R_reads' HG.out.r1).2.1); (case s3 => rw [NG2.out]; exact (Kd.R_reads' HG.out.r2).2.2); (case s4 => exact (Kd.R_reads' HG.out.r2).2.1); (case s5 => rw [NG5.out]; exact (Kd.S_reads' HG.out.r5).2.2); (case s6 => exact (Kd.S_reads' HG.out.r5).2.1); rintro e r3 ⟨rfl, hb⟩; refine ⟨_, rfl, ?_⟩; clear cg0 cg1 cg2 cg3 cg4 cg5; clear hc_; replace HW := Aside0.mk (HW.out.onto hb); replace HG := Aside0.mk (HG.out.onto hb); replace HB := Aside0.mk (bP (by repeat (first | exact HB.out | apply bN | apply bD | apply bA)) hb); clear hb)
  | ((with_reducible refine gC (f := 5) rfl ?_); refine goesL_ (some 46) rfl rfl Tryd.func5 (by kernel_rfl) rfl #[.string a0] rfl (by (try simp only [List.map_toArray, List.map_cons, List.map_nil]); first | done | rfl | (simp only [List.length_drop, List.length_take]; rfl)) ?_; (with_reducible refine (impl_ReadRaga.calls k a0 g1 g2 g3 g4 g5 g6 g7 _ (TabM.below hT (by repeat (first | exact HB.out | apply bN | apply bD | apply bA))) EG.out).mono ?_); rintro e t1 ⟨v1_, v2_, v5_, rfl, h1, h2, h5, hb⟩; refine ⟨_, rfl, ?_⟩; obtain ⟨Ah1, caph1, rfl⟩ := Kd.R_slice h1; obtain ⟨Ah2, caph2, rfl⟩ := Kd.R_slice h2; obtain ⟨Ah5, caph5, rfl⟩ := Kd.S_slice h5; replace HW := Aside0.mk (HW.out.onto hb); replace HG := Aside0.mk (HG.out.onto hb); have Q1 := Aside0.mk h1; have Q2 := Aside0.mk h2; have Q5 := Aside0.mk h5; have HP := Aside0.mk hb; clear h1 h2 h5 hb)
  | ((with_reducible refine gate_dst (N := 9) rfl ?_); refine bE ?hg (N := 9) ?hd (cs := #[.string (⟨#[]⟩ : ByteArray), .slice none 0 0, .slice none 0 0, .int .i64 0, .int .i64 0, .slice none 0 0]) (t := 25) ?hr ?_; (case hd => rfl); (case hg => rfl); (case hr => first | (go_simp; done) | (go_simp; rfl)); intro gh hg_ t2 hbox hb; have HZ := Aside0.mk hbox; have HG_ := Aside0.mk hg_; have HP2 := Aside0.mk hb; have cz0 : t2.cell? ⟨gh, 0, none⟩ = some (.string (⟨#[]⟩ : ByteArray)) := (kC hbox 0).trans rfl; have fz0 := blk_frozen hbox 0; have cz1 : t2.cell? ⟨gh, 1, none⟩ = some (.slice none 0 0) := (kC hbox 1).trans rfl; have fz1 := blk_frozen hbox 1; have cz2 : t2.cell? ⟨gh, 2, none⟩ = some (.slice none 0 0) := (kC hbox 2).trans rfl; have fz2 := blk_frozen hbox 2; have cz3 : t2.cell? ⟨gh, 3, none⟩ = some (.int .i64 0) := (kC hbox 3).trans rfl; have fz3 := blk_frozen hbox 3; have cz4 : t2.cell? ⟨gh, 4, none⟩ = some (.int .i64 0) := (kC hbox 4).trans rfl; have fz4 := blk_frozen hbox 4; have cz5 : t2.cell? ⟨gh, 5, none⟩ = some (.slice none 0 0) := (kC hbox 5).trans rfl; have fz5 := blk_frozen hbox 5; clear hg_ hb hbox)
  | ((with_reducible refine gate_store (t := 25) (p := 9) rfl ?_); refine store_event (t := 25) (p := 9) (v := ?vo_t3) (w1 := ((((((t2.setCell ⟨gh, 0, none⟩ (.string g1)).setCell ⟨gh, 1, none⟩ (.slice Ah1 g2.length caph1)).setCell ⟨gh, 2, none⟩ (.slice Ah2 g3.length caph2)).setCell ⟨gh, 3, none⟩ (.int .i64 g4)).setCell ⟨gh, 4, none⟩ (.int .i64 g5)).setCell ⟨gh, 5, none⟩ (.slice Ah5 g6.length caph5))) ?hg ?ho ?hn ?hr ?_; (case ho => rfl); (case hg => rfl); (case hn => rfl); (case hr => first | (go_simp; done) | (go_simp; rfl)); intro t3 hw; clear cz0 fz0 cz1 fz1 cz2 fz2 cz3 fz3 cz4 fz4 cz5 fz5; have hb2 := below_put6 HP2.out (Nat.le_of_eq HG_.out.symm) hw; have HH := Aside0.mk (GAt.make Q1.out Q2.out Q5.out HP2.out HZ.out HG_.out hw (bZ HB.out)); replace HW := Aside0.mk (HW.out.onto hb2); replace HG := Aside0.mk (HG.out.onto hb2); replace HB := Aside0.mk (bP HB.out (bP HP.out hb2)); clear HZ HG_ HP2 HP Q1 Q2 Q5 hw hb2; have ch0 : t3.cell? ⟨gh, 0, none⟩ = some (.string g1) := (kC HH.out.box 0).trans rfl; have ch1 : t3.cell? ⟨gh, 1, none⟩ = some (.slice Ah1 g2.length caph1) := (kC HH.out.box 1).trans rfl; have ch2 : t3.cell? ⟨gh, 2, none⟩ = some (.slice Ah2 g3.length caph2) := (kC HH.out.box 2).trans rfl; have ch3 : t3.cell? ⟨gh, 3, none⟩ = some (.int .i64 g4) := (kC HH.out.box 3).trans rfl; have ch4 : t3.cell? ⟨gh, 4, none⟩ = some (.int .i64 g5) := (kC HH.out.box 4).trans rfl; have ch5 : t3.cell? ⟨gh, 5, none⟩ = some (.slice Ah5 g6.length caph5) := (kC HH.out.box 5).trans rfl; have cw0 : t3.cell? ⟨gw, 0, none⟩ = some (.string s1) := (kC HW.out.box 0).trans rfl; have cw1 : t3.cell? ⟨gw, 1, none⟩ = some (.slice As1 s2.length caps1) := (kC HW.out.box 1).trans rfl; have cw2 : t3.cell? ⟨gw, 2, none⟩ = some (.slice As2 s3.length caps2) := (kC HW.out.box 2).trans rfl; have cw3 : t3.cell? ⟨gw, 3, none⟩ = some (.int .i64 s4) := (kC HW.out.box 3).trans rfl; have cw4 : t3.cell? ⟨gw, 4, none⟩ = some (.int .i64 s5) := (kC HW.out.box 4).trans rfl; have cw5 : t3.cell? ⟨gw, 5, none⟩ = some (.slice As5 s6.length caps5) := (kC HW.out.box 5).trans rfl)
  | ((with_reducible refine gC (f := 6) rfl ?_); refine goesL_ (some 51) rfl rfl Tryd.func6 (by kernel_rfl) rfl #[.agg #[.string g1, .slice Ah1 g2.length caph1, .slice Ah2 g3.length caph2, .int .i64 g4, .int .i64 g5, .slice Ah5 g6.length caph5], .agg #[.string s1, .slice As1 s2.length caps1, .slice As2 s3.length caps2, .int .i64 s4, .int .i64 s5, .slice As5 s6.length caps5]] rfl (by (try simp only [List.map_toArray, List.map_cons, List.map_nil]); first | done | rfl | (simp only [List.length_drop, List.length_take]; rfl)) ?_; (with_reducible refine (laws_eqRaga.calls k g1 Ah1 caph1 g2 Ah2 caph2 g3 g4 g5 Ah5 caph5 g6 s1 As1 caps1 s2 As2 caps2 s3 s4 s5 As5 caps5 s6 true _ (Kd.R_reads' HH.out.r1).2.2 (Kd.R_reads' HH.out.r1).2.1 (Kd.R_reads' HH.out.r2).2.2 (Kd.R_reads' HH.out.r2).2.1 (Kd.S_reads' HH.out.r5).2.2 (Kd.S_reads' HH.out.r5).2.1 (Kd.R_reads' HW.out.r1).2.2 (Kd.R_reads' HW.out.r1).2.1 (Kd.R_reads' HW.out.r2).2.2 (Kd.R_reads' HW.out.r2).2.1 (Kd.S_reads' HW.out.r5).2.2 (Kd.S_reads' HW.out.r5).2.1 EQ1.out).mono ?_); rintro e t4 ⟨rfl, hb⟩; refine ⟨_, rfl, ?_⟩; clear ch0 ch1 ch2 ch3 ch4 ch5; clear cw0 cw1 cw2 cw3 cw4 cw5; replace HW := Aside0.mk (HW.out.onto hb); replace HG := Aside0.mk (HG.out.onto hb); replace HB := Aside0.mk (bP (by repeat (first | exact HB.out | apply bN | apply bD | apply bA)) hb); clear hb; clear HH; have cg0 : t4.cell? ⟨gg, 0, none⟩ = some (.string g1) := (kC HG.out.box 0).trans rfl; have cg1 : t4.cell? ⟨gg, 1, none⟩ = some (.slice Ag1 g2.length capg1) := (kC HG.out.box 1).trans rfl; have cg2 : t4.cell? ⟨gg, 2, none⟩ = some (.slice Ag2 g3.length capg2) := (kC HG.out.box 2).trans rfl; have cg3 : t4.cell? ⟨gg, 3, none⟩ = some (.int .i64 g4) := (kC HG.out.box 3).trans rfl; have cg4 : t4.cell? ⟨gg, 4, none⟩ = some (.int .i64 g5) := (kC HG.out.box 4).trans rfl; have cg5 : t4.cell? ⟨gg, 5, none⟩ = some (.slice Ag5 g6.length capg5) := (kC HG.out.box 5).trans rfl)
  | (go_at_call 8; have hc_ := fun w_ => laws_heldRaga.calls k g1 Ag1 capg1 m1y Ag2 capg2 m2y g4 g5 Ag5 capg5 m5y 1 q w_; simp only [← NG1.out, ← NG2.out, ← NG5.out] at hc_; refine (hc_ _ ?s1 ?s2 ?s3 ?s4 ?s5 ?s6 EQ.out).mono ?_; (case s1 => rw [NG1.out]; exact (Kd.R_reads' HG.out.r1).2.2); (case s2 => exact (Kd.R_reads' HG.out.r1).2.1); (case s3 => rw [NG2.out]; exact (Kd.R_reads' HG.out.r2).2.2); (case s4 => exact (Kd.R_reads' HG.out.r2).2.1); (case s5 => rw [NG5.out]; exact (Kd.S_reads' HG.out.r5).2.2); (case s6 => exact (Kd.S_reads' HG.out.r5).2.1); rintro e t5 ⟨rfl, hb⟩; clear cg0 cg1 cg2 cg3 cg4 cg5; clear hc_; replace HW := Aside0.mk (HW.out.onto hb); replace HG := Aside0.mk (HG.out.onto hb); replace HB := Aside0.mk (bP (by repeat (first | exact HB.out | apply bN | apply bD | apply bA)) hb); clear hb))
 go_ret
 exact ⟨rfl, (by repeat (first | exact HB.out | apply bN | apply bD | apply bA))⟩

end Go.Proofs.YtbebcnnibjkclaaDoor.R
-- shrunk
-- tight
