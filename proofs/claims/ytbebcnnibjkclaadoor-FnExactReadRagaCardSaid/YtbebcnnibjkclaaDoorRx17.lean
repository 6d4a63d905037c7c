/- What functions of the given program compute, as plain Lean functions, and that the code comes to just that; by a program of this session over the kit's print. No condition. -/
import Derived.Test.YtbebcnnibjkclaaDoorRx0
import Derived.Test.YtbebcnnibjkclaaDoorRx12
import Derived.Test.YtbebcnnibjkclaaDoorRx13
import Derived.Test.YtbebcnnibjkclaaDoorRx15
namespace Go.Proofs.YtbebcnnibjkclaaDoor.R
open Go.RowKit Go.Proofs.YtbebcnnibjkclaaDoorW.PrintWords Go.Proofs.YtbebcnnibjkclaaDoorW.PrintLast Go.Proofs.YtbebcnnibjkclaaDoorW.PrintMore
open Go.Proofs.YtbebcnnibjkclaaDoorW.PrintWords renaming below_alloc → bA, pw_below_drewN → bN, below_step → bP, blk_cell → kC
open Go.Proofs.YtbebcnnibjkclaaDoorW.PrintLast renaming i64_w → iW
open Go.Proofs.YtbebcnnibjkclaaDoorW.PrintWords.Kd renaming C_drewN → cN, C_drew → cD, C_below → cB
attribute [local go_sem] max2_int min2_int max_two min_two max_three min_three max_four min_four   -- for this text's walks alone
set_option linter.unusedVariables false
set_option linter.unusedSimpArgs false

/-! ### impl_ValidRaga: function 28 -/
mutual
def impl_ValidRaga.j0 : Nat → Bool → ByteArray → List Int → List Int → Int → Int → List (List Int) → Option (Bool)
 | 0, _, _, _, _, _, _, _ => none
 | k + 1, x47, x228000, x228001, x228002, x228003, x228004, x228005 => if x47 = true then (some false) else (impl_ValidRaga.l0 k x228005 (x228005.length : Int) 0 x228000 x228001 x228002 x228003 x228004 x228005)
def impl_ValidRaga.l0 : Nat → List (List Int) → Int → Int → ByteArray → List Int → List Int → Int → Int → List (List Int) → Option (Bool)
 | 0, _, _, _, _, _, _, _, _, _ => none
 | k + 1, x49, x50, x51, x228000, x228001, x228002, x228003, x228004, x228005 => if x51 < x50 then (if 0 ≤ x51 then (if x51 < (x49.length : Int) then (if ((rd_L2 x49 x51).length : Int) = 2 then (if 0 < ((rd_L2 x49 x51).length : Int) then ((impl_toneOk.f (rd (rd_L2 x49 x51) 0)).bind fun t235 => (if t235 = true then (if 1 < ((rd_L2 x49 x51).length : Int) then ((impl_toneOk.f (rd (rd_L2 x49 x51) 1)).bind fun t237 => (if t237 = true then (if (rd (rd_L2 x49 x51) 0) = (rd (rd_L2 x49 x51) 1) then (some false) else (if x51 > 0 then (if 0 ≤ (wrap64 (x51 - 1)) then (if (wrap64 (x51 - 1)) < (x228005.length : Int) then ((slices_Compare_int64_int64.f k (rd_L2 x228005 (wrap64 (x51 - 1))) (rd_L2 x49 x51)).bind fun t241 => (if t241 ≥ 0 then (some false) else (impl_ValidRaga.l0 k x49 x50 (wrap64 (x51 + 1)) x228000 x228001 x228002 x228003 x228004 x228005))) else (none)) else (none)) else (impl_ValidRaga.l0 k x49 x50 (wrap64 (x51 + 1)) x228000 x228001 x228002 x228003 x228004 x228005))) else (some false))) else (none)) else (some false))) else (none)) else (some false)) else (none)) else (none)) else (some true)
end
def impl_ValidRaga.f (k : Nat) (a0_0 : ByteArray) (l0_1 : List Int) (l0_2 : List Int) (a0_3 : Int) (a0_4 : Int) (l0_5 : List (List Int)) : Option (Bool) := (impl_IsName.f k a0_0).bind fun t228 => (if t228 = true then ((impl_ValidScale.f k l0_1).bind fun t229 => (if t229 = true then ((impl_ValidScale.f k l0_2).bind fun t230 => (if t230 = true then (if a0_3 = a0_4 then (impl_ValidRaga.j0 k true a0_0 l0_1 l0_2 a0_3 a0_4 l0_5) else ((impl_Raga_hasTone.f k a0_0 l0_1 l0_2 a0_3 a0_4 l0_5 a0_3).bind fun t231 => (if t231 = true then ((impl_Raga_hasTone.f k a0_0 l0_1 l0_2 a0_3 a0_4 l0_5 a0_4).bind fun t232 => (if t232 = true then (impl_ValidRaga.j0 k (decide ((l0_5.length : Int) > 8)) a0_0 l0_1 l0_2 a0_3 a0_4 l0_5) else (impl_ValidRaga.j0 k true a0_0 l0_1 l0_2 a0_3 a0_4 l0_5))) else (impl_ValidRaga.j0 k true a0_0 l0_1 l0_2 a0_3 a0_4 l0_5)))) else (impl_ValidRaga.j0 k true a0_0 l0_1 l0_2 a0_3 a0_4 l0_5))) else (impl_ValidRaga.j0 k true a0_0 l0_1 l0_2 a0_3 a0_4 l0_5))) else (impl_ValidRaga.j0 k true a0_0 l0_1 l0_2 a0_3 a0_4 l0_5))
theorem impl_ValidRaga.mono_l : ∀ k, (∀ y0 y1 y2 y3 y4 y5 y6, LeO (impl_ValidRaga.j0 k y0 y1 y2 y3 y4 y5 y6) (impl_ValidRaga.j0 (k + 1) y0 y1 y2 y3 y4 y5 y6)) ∧ (∀ y0 y1 y2 y3 y4 y5 y6 y7 y8, LeO (impl_ValidRaga.l0 k y0 y1 y2 y3 y4 y5 y6 y7 y8) (impl_ValidRaga.l0 (k + 1) y0 y1 y2 y3 y4 y5 y6 y7 y8))
 | 0 => ⟨fun _ _ _ _ _ _ _ r h => by simp [impl_ValidRaga.j0] at h, fun _ _ _ _ _ _ _ _ _ r h => by simp [impl_ValidRaga.l0] at h⟩
 | k + 1 => by
  obtain ⟨ih0, ih1⟩ := impl_ValidRaga.mono_l k
  refine ⟨?_, ?_⟩
  ·intro y0 y1 y2 y3 y4 y5 y6
   unfold impl_ValidRaga.j0
   repeat' first
   | (with_reducible exact ih0 _ _ _ _ _ _ _)
   | (with_reducible exact ih1 _ _ _ _ _ _ _ _ _)
   | (with_reducible exact impl_IsName.mono _ _)
   | (with_reducible exact impl_Raga_hasTone.mono _ _ _ _ _ _ _ _)
   | (with_reducible exact impl_ValidScale.mono _ _)
   | (with_reducible exact slices_Compare_int64_int64.mono _ _ _)
   | (with_reducible exact LeO.refl _)
   | (with_reducible exact LeO.none _)
   | (with_reducible refine LeO.ite ?_ ?_)
   | (with_reducible refine LeO.bind ?_ (fun _ => ?_))
   | exact ih0 _ _ _ _ _ _ _
   | exact ih1 _ _ _ _ _ _ _ _ _
   | exact impl_IsName.mono _ _
   | exact impl_Raga_hasTone.mono _ _ _ _ _ _ _ _
   | exact impl_ValidScale.mono _ _
   | exact slices_Compare_int64_int64.mono _ _ _
   | exact LeO.none _
   | refine LeO.ite ?_ ?_
   | refine LeO.bind ?_ (fun _ => ?_)
  ·intro y0 y1 y2 y3 y4 y5 y6 y7 y8
   unfold impl_ValidRaga.l0
   repeat' first
   | (with_reducible exact ih0 _ _ _ _ _ _ _)
   | (with_reducible exact ih1 _ _ _ _ _ _ _ _ _)
   | (with_reducible exact impl_IsName.mono _ _)
   | (with_reducible exact impl_Raga_hasTone.mono _ _ _ _ _ _ _ _)
   | (with_reducible exact impl_ValidScale.mono _ _)
   | (with_reducible exact slices_Compare_int64_int64.mono _ _ _)
   | (with_reducible exact LeO.refl _)
   | (with_reducible exact LeO.none _)
   | (with_reducible refine LeO.ite ?_ ?_)
   | (with_reducible refine LeO.bind ?_ (fun _ => ?_))
   | exact ih0 _ _ _ _ _ _ _
   | exact ih1 _ _ _ _ _ _ _ _ _
   | exact impl_IsName.mono _ _
   | exact impl_Raga_hasTone.mono _ _ _ _ _ _ _ _
   | exact impl_ValidScale.mono _ _
   | exact slices_Compare_int64_int64.mono _ _ _
   | exact LeO.none _
   | refine LeO.ite ?_ ?_
   | refine LeO.bind ?_ (fun _ => ?_)
theorem impl_ValidRaga.mono : ∀ a0 a1 a2 a3 a4 a5 k, LeO (impl_ValidRaga.f k a0 a1 a2 a3 a4 a5) (impl_ValidRaga.f (k + 1) a0 a1 a2 a3 a4 a5) := by
 intro a0 a1 a2 a3 a4 a5 k
 obtain ⟨ih0, ih1⟩ := impl_ValidRaga.mono_l k
 unfold impl_ValidRaga.f
 repeat' first
   | (with_reducible exact ih0 _ _ _ _ _ _ _)
   | (with_reducible exact ih1 _ _ _ _ _ _ _ _ _)
   | (with_reducible exact impl_IsName.mono _ _)
   | (with_reducible exact impl_Raga_hasTone.mono _ _ _ _ _ _ _ _)
   | (with_reducible exact impl_ValidScale.mono _ _)
   | (with_reducible exact slices_Compare_int64_int64.mono _ _ _)
   | (with_reducible exact LeO.refl _)
   | (with_reducible exact LeO.none _)
   | (with_reducible refine LeO.ite ?_ ?_)
   | (with_reducible refine LeO.bind ?_ (fun _ => ?_))
   | exact ih0 _ _ _ _ _ _ _
   | exact ih1 _ _ _ _ _ _ _ _ _
   | exact impl_IsName.mono _ _
   | exact impl_Raga_hasTone.mono _ _ _ _ _ _ _ _
   | exact impl_ValidScale.mono _ _
   | exact slices_Compare_int64_int64.mono _ _ _
   | exact LeO.none _
   | refine LeO.ite ?_ ?_
   | refine LeO.bind ?_ (fun _ => ?_)
structure Fv (w W : World) (G : Array Value) : Prop where
 g : W.heap[w.heap.size]? = some (.cells G 25 (0, 0))
 w : Below w.heap.size w W
theorem Fv.step {w W W' : World} {G : Array Value} (h : Fv w W G) (hb : Below W.heap.size W W') : Fv w W' G where
 g := (hb.block _ (Array.getElem?_eq_some_iff.1 h.g).1).trans h.g
 w := bP h.w hb
theorem Fv.start (w : World) (G : Array Value) : Fv w (w.alloc (.cells G 25)) G where
 g := heap_alloc_new w _
 w := bA (Below.refl _ _) _
theorem Fv.drew {w W : World} {G : Array Value} (h : Fv w W G) (n : Nat) : Fv w (W.drewN n) G := ⟨h.g, bN h.w _⟩
theorem gv_ {P : Program} {c : Code} {Q : Exit → Act → World → Prop} {a : Act} {W : World} (F : World → Prop) (h : F W) (H : ∀ W', F W' → Code.wp P c Q a W') : Code.wp P c Q a W := H W h
theorem vr_ret {a b : Bool} (h : a = b) : Ending.returned (.bool a) = .returned (.bool b) := by rw [h]
theorem impl_ValidRaga.j0_true (k : Nat) (nm : ByteArray) (u d : List Int) (st wk : Int) (fb : List (List Int)) (r : Bool) (h : impl_ValidRaga.j0 k true nm u d st wk fb = some r) : r = false := by
 cases k with
 | zero => simp [impl_ValidRaga.j0] at h
 | succ k => simp [impl_ValidRaga.j0] at h; exact h
theorem two_cells {w : World} {A : Option Addr} {l : List Int} (h : Kd.C (Kd.int .i64) w A l.length l) (h2 : l.length = 2) : ∃ ad, A = some ad ∧ w.cell? ad = some (.int .i64 (rd l 0)) ∧ w.cell? ⟨ad.block, ad.off + 1, none⟩ = some (.int .i64 (rd l 1)) := by
 obtain ⟨ad, e, hx⟩ := Kd.at_int h 0 (by omega) (by omega)
 subst e
 obtain ⟨ad2, e2, hy⟩ := Kd.at_int h 1 (by omega) (by omega)
 obtain rfl := Option.some.inj e2
 have hx0 : w.cell? (ad.add 0) = some (.int .i64 (rd l 0)) := hx
 have hy0 : w.cell? (ad.add 1) = some (.int .i64 (rd l 1)) := hy
 refine ⟨ad, rfl, ?_, hy0⟩
 have e : ad.add 0 = ad := by cases ad; simp [Addr.add]
 rw [e] at hx0
 exact hx0
set_option maxHeartbeats 4000000 in
set_option maxRecDepth 100000 in
theorem impl_ValidRaga.calls (k : Nat) (a0_0 : ByteArray) (A0_1 : Option Addr) (c0_1 : Nat) (l0_1 : List Int) (A0_2 : Option Addr) (c0_2 : Nat) (l0_2 : List Int) (a0_3 : Int) (a0_4 : Int) (A0_5 : Option Addr) (c0_5 : Nat) (l0_5 : List (List Int)) (r : Bool) (w : World) (hr0_1 : Kd.C (Kd.int .i64) w A0_1 l0_1.length l0_1) (hc0_1 : l0_1.length ≤ c0_1) (hr0_2 : Kd.C (Kd.int .i64) w A0_2 l0_2.length l0_2) (hc0_2 : l0_2.length ≤ c0_2) (hr0_5 : Kd.C (Kd.slice 2 (Kd.int .i64)) w A0_5 l0_5.length l0_5) (hc0_5 : l0_5.length ≤ c0_5) (h : impl_ValidRaga.f k a0_0 l0_1 l0_2 a0_3 a0_4 l0_5 = some r) :
  Calls Tryd.prog 28 #[.agg #[.string a0_0, .slice A0_1 l0_1.length c0_1, .slice A0_2 l0_2.length c0_2, .int .i64 a0_3, .int .i64 a0_4, .slice A0_5 l0_5.length c0_5]] w fun e w' => e = .returned (.bool r) ∧ Below w.heap.size w w' := by
 have hu := Tryd.underlying25
 have HR1 := Aside0.mk hr0_1
 have HC1 := Aside0.mk hc0_1
 have HR2 := Aside0.mk hr0_2
 have HC2 := Aside0.mk hc0_2
 have HR5 := Aside0.mk hr0_5
 have HC5 := Aside0.mk hc0_5
 have HH := Aside0.mk h
 clear hr0_1 hc0_1 hr0_2 hc0_2 hr0_5 hc0_5 h
 go_enter Tryd.func28, Tryd.ntmps28
 go_upto_region 1 with fail
 refine gv_ (fun W => Fv w W #[.string a0_0, .slice A0_1 l0_1.length c0_1, .slice A0_2 l0_2.length c0_2, .int .i64 a0_3, .int .i64 a0_4, .slice A0_5 l0_5.length c0_5]) (Fv.start _ _) ?_
 intro wx fx
 have FX := Aside0.mk fx
 clear fx
 have z0 := (kC FX.out.g 0).trans (rfl : _ = some (Value.string a0_0))
 have z1 := (kC FX.out.g 1).trans (rfl : _ = some (Value.slice A0_1 l0_1.length c0_1))
 have z2 := (kC FX.out.g 2).trans (rfl : _ = some (Value.slice A0_2 l0_2.length c0_2))
 have z3 := (kC FX.out.g 3).trans (rfl : _ = some (Value.int .i64 a0_3))
 have z4 := (kC FX.out.g 4).trans (rfl : _ = some (Value.int .i64 a0_4))
 have z5 := (kC FX.out.g 5).trans (rfl : _ = some (Value.slice A0_5 l0_5.length c0_5))
 have h := HH.out
 clear HH
 unfold impl_ValidRaga.f at h
 obtain ⟨b0, x0, h⟩ := Option.bind_eq_some_iff.mp h
 have X0 := Aside0.mk x0
 clear x0
 cases b0 with
 | false =>
  have HE := Aside0.mk (impl_ValidRaga.j0_true _ _ _ _ _ _ _ _ h)
  clear h
  go_wp2_with (first | (go_at_call 40; (with_reducible refine (impl_IsName.calls _ a0_0 _ _ X0.out).mono ?_); rintro e w2 ⟨rfl, ⟨q_, rfl⟩⟩; have n0_ := FX.out.drew q_; (try simp only [World.drewN_drewN] at n0_); have n_ := Aside0.mk n0_; clear FX n0_; have FX := n_; clear n_))
  go_ret
  exact ⟨vr_ret HE.out.symm, FX.out.w⟩
 | true =>
 rw [if_pos rfl] at h
 obtain ⟨b1, x1, h⟩ := Option.bind_eq_some_iff.mp h
 have X1 := Aside0.mk x1
 clear x1
 cases b1 with
 | false =>
  have HE := Aside0.mk (impl_ValidRaga.j0_true _ _ _ _ _ _ _ _ h)
  clear h
  go_wp2_with (first | (go_at_call 40; (with_reducible refine (impl_IsName.calls _ a0_0 _ _ X0.out).mono ?_); rintro e w2 ⟨rfl, ⟨q_, rfl⟩⟩; have n0_ := FX.out.drew q_; (try simp only [World.drewN_drewN] at n0_); have n_ := Aside0.mk n0_; clear FX n0_; have FX := n_; clear n_) | (go_at_call 26; (with_reducible refine (impl_ValidScale.calls _ A0_1 c0_1 l0_1 _ _ ?s1 HC1.out X1.out).mono ?_); (case s1 => exact cB HR1.out FX.out.w); rintro e w2 ⟨rfl, ⟨q_, rfl⟩⟩; have n0_ := FX.out.drew q_; (try simp only [World.drewN_drewN] at n0_); have n_ := Aside0.mk n0_; clear FX n0_; have FX := n_; clear n_))
  go_ret
  exact ⟨vr_ret HE.out.symm, FX.out.w⟩
 | true =>
 rw [if_pos rfl] at h
 obtain ⟨b2, x2, h⟩ := Option.bind_eq_some_iff.mp h
 have X2 := Aside0.mk x2
 clear x2
 cases b2 with
 | false =>
  have HE := Aside0.mk (impl_ValidRaga.j0_true _ _ _ _ _ _ _ _ h)
  clear h
  go_wp2_with (first | (go_at_call 40; (with_reducible refine (impl_IsName.calls _ a0_0 _ _ X0.out).mono ?_); rintro e w2 ⟨rfl, ⟨q_, rfl⟩⟩; have n0_ := FX.out.drew q_; (try simp only [World.drewN_drewN] at n0_); have n_ := Aside0.mk n0_; clear FX n0_; have FX := n_; clear n_) | (go_at_call 26; (with_reducible refine (impl_ValidScale.calls _ A0_1 c0_1 l0_1 _ _ ?s1 HC1.out X1.out).mono ?_); (case s1 => exact cB HR1.out FX.out.w); rintro e w2 ⟨rfl, ⟨q_, rfl⟩⟩; have n0_ := FX.out.drew q_; (try simp only [World.drewN_drewN] at n0_); have n_ := Aside0.mk n0_; clear FX n0_; have FX := n_; clear n_) | (go_at_call 26; (with_reducible refine (impl_ValidScale.calls _ A0_2 c0_2 l0_2 _ _ ?s1 HC2.out X2.out).mono ?_); (case s1 => exact cB HR2.out FX.out.w); rintro e w2 ⟨rfl, ⟨q_, rfl⟩⟩; have n0_ := FX.out.drew q_; (try simp only [World.drewN_drewN] at n0_); have n_ := Aside0.mk n0_; clear FX n0_; have FX := n_; clear n_))
  go_ret
  exact ⟨vr_ret HE.out.symm, FX.out.w⟩
 | true =>
 rw [if_pos rfl] at h
 by_cases c3 : a0_3 = a0_4
 ·rw [if_pos c3] at h
  have HE := Aside0.mk (impl_ValidRaga.j0_true _ _ _ _ _ _ _ _ h)
  have c3b := beq_iff_eq.2 c3
  clear h c3
  go_wp2_with (first | (go_at_call 40; (with_reducible refine (impl_IsName.calls _ a0_0 _ _ X0.out).mono ?_); rintro e w2 ⟨rfl, ⟨q_, rfl⟩⟩; have n0_ := FX.out.drew q_; (try simp only [World.drewN_drewN] at n0_); have n_ := Aside0.mk n0_; clear FX n0_; have FX := n_; clear n_) | (go_at_call 26; (with_reducible refine (impl_ValidScale.calls _ A0_1 c0_1 l0_1 _ _ ?s1 HC1.out X1.out).mono ?_); (case s1 => exact cB HR1.out FX.out.w); rintro e w2 ⟨rfl, ⟨q_, rfl⟩⟩; have n0_ := FX.out.drew q_; (try simp only [World.drewN_drewN] at n0_); have n_ := Aside0.mk n0_; clear FX n0_; have FX := n_; clear n_) | (go_at_call 26; (with_reducible refine (impl_ValidScale.calls _ A0_2 c0_2 l0_2 _ _ ?s1 HC2.out X2.out).mono ?_); (case s1 => exact cB HR2.out FX.out.w); rintro e w2 ⟨rfl, ⟨q_, rfl⟩⟩; have n0_ := FX.out.drew q_; (try simp only [World.drewN_drewN] at n0_); have n_ := Aside0.mk n0_; clear FX n0_; have FX := n_; clear n_))
  go_ret
  exact ⟨vr_ret HE.out.symm, FX.out.w⟩
 rw [if_neg c3] at h
 have c3b := beq_eq_false_iff_ne.2 c3
 clear c3
 obtain ⟨b3, x3, h⟩ := Option.bind_eq_some_iff.mp h
 have X3 := Aside0.mk x3
 clear x3
 cases b3 with
 | false =>
  have HE := Aside0.mk (impl_ValidRaga.j0_true _ _ _ _ _ _ _ _ h)
  clear h
  go_wp2_with (first | (go_at_call 40; (with_reducible refine (impl_IsName.calls _ a0_0 _ _ X0.out).mono ?_); rintro e w2 ⟨rfl, ⟨q_, rfl⟩⟩; have n0_ := FX.out.drew q_; (try simp only [World.drewN_drewN] at n0_); have n_ := Aside0.mk n0_; clear FX n0_; have FX := n_; clear n_) | (go_at_call 26; (with_reducible refine (impl_ValidScale.calls _ A0_1 c0_1 l0_1 _ _ ?s1 HC1.out X1.out).mono ?_); (case s1 => exact cB HR1.out FX.out.w); rintro e w2 ⟨rfl, ⟨q_, rfl⟩⟩; have n0_ := FX.out.drew q_; (try simp only [World.drewN_drewN] at n0_); have n_ := Aside0.mk n0_; clear FX n0_; have FX := n_; clear n_) | (go_at_call 26; (with_reducible refine (impl_ValidScale.calls _ A0_2 c0_2 l0_2 _ _ ?s1 HC2.out X2.out).mono ?_); (case s1 => exact cB HR2.out FX.out.w); rintro e w2 ⟨rfl, ⟨q_, rfl⟩⟩; have n0_ := FX.out.drew q_; (try simp only [World.drewN_drewN] at n0_); have n_ := Aside0.mk n0_; clear FX n0_; have FX := n_; clear n_) | (go_at_call 41; (with_reducible refine (impl_Raga_hasTone.calls _ a0_0 A0_1 c0_1 l0_1 A0_2 c0_2 l0_2 a0_3 a0_4 A0_5 c0_5 l0_5 a0_3 _ _ ?s1 HC1.out ?s2 HC2.out ?s5 HC5.out X3.out).mono ?_); (case s1 => exact cB HR1.out FX.out.w); (case s2 => exact cB HR2.out FX.out.w); (case s5 => exact cB HR5.out FX.out.w); rintro e w2 ⟨rfl, hb⟩; have n_ := Aside0.mk (FX.out.step hb); clear FX hb z0 z1 z2 z3 z4 z5; have FX := n_; clear n_; have z0 := (kC FX.out.g 0).trans (rfl : _ = some (Value.string a0_0)); have z1 := (kC FX.out.g 1).trans (rfl : _ = some (Value.slice A0_1 l0_1.length c0_1)); have z2 := (kC FX.out.g 2).trans (rfl : _ = some (Value.slice A0_2 l0_2.length c0_2)); have z3 := (kC FX.out.g 3).trans (rfl : _ = some (Value.int .i64 a0_3)); have z4 := (kC FX.out.g 4).trans (rfl : _ = some (Value.int .i64 a0_4)); have z5 := (kC FX.out.g 5).trans (rfl : _ = some (Value.slice A0_5 l0_5.length c0_5))))
  go_ret
  exact ⟨vr_ret HE.out.symm, FX.out.w⟩
 | true =>
 rw [if_pos rfl] at h
 obtain ⟨b4, x4, h⟩ := Option.bind_eq_some_iff.mp h
 have X4 := Aside0.mk x4
 clear x4
 cases b4 with
 | false =>
  have HE := Aside0.mk (impl_ValidRaga.j0_true _ _ _ _ _ _ _ _ h)
  clear h
  go_wp2_with (first | (go_at_call 40; (with_reducible refine (impl_IsName.calls _ a0_0 _ _ X0.out).mono ?_); rintro e w2 ⟨rfl, ⟨q_, rfl⟩⟩; have n0_ := FX.out.drew q_; (try simp only [World.drewN_drewN] at n0_); have n_ := Aside0.mk n0_; clear FX n0_; have FX := n_; clear n_) | (go_at_call 26; (with_reducible refine (impl_ValidScale.calls _ A0_1 c0_1 l0_1 _ _ ?s1 HC1.out X1.out).mono ?_); (case s1 => exact cB HR1.out FX.out.w); rintro e w2 ⟨rfl, ⟨q_, rfl⟩⟩; have n0_ := FX.out.drew q_; (try simp only [World.drewN_drewN] at n0_); have n_ := Aside0.mk n0_; clear FX n0_; have FX := n_; clear n_) | (go_at_call 26; (with_reducible refine (impl_ValidScale.calls _ A0_2 c0_2 l0_2 _ _ ?s1 HC2.out X2.out).mono ?_); (case s1 => exact cB HR2.out FX.out.w); rintro e w2 ⟨rfl, ⟨q_, rfl⟩⟩; have n0_ := FX.out.drew q_; (try simp only [World.drewN_drewN] at n0_); have n_ := Aside0.mk n0_; clear FX n0_; have FX := n_; clear n_) | (go_at_call 41; (with_reducible refine (impl_Raga_hasTone.calls _ a0_0 A0_1 c0_1 l0_1 A0_2 c0_2 l0_2 a0_3 a0_4 A0_5 c0_5 l0_5 a0_3 _ _ ?s1 HC1.out ?s2 HC2.out ?s5 HC5.out X3.out).mono ?_); (case s1 => exact cB HR1.out FX.out.w); (case s2 => exact cB HR2.out FX.out.w); (case s5 => exact cB HR5.out FX.out.w); rintro e w2 ⟨rfl, hb⟩; have n_ := Aside0.mk (FX.out.step hb); clear FX hb z0 z1 z2 z3 z4 z5; have FX := n_; clear n_; have z0 := (kC FX.out.g 0).trans (rfl : _ = some (Value.string a0_0)); have z1 := (kC FX.out.g 1).trans (rfl : _ = some (Value.slice A0_1 l0_1.length c0_1)); have z2 := (kC FX.out.g 2).trans (rfl : _ = some (Value.slice A0_2 l0_2.length c0_2)); have z3 := (kC FX.out.g 3).trans (rfl : _ = some (Value.int .i64 a0_3)); have z4 := (kC FX.out.g 4).trans (rfl : _ = some (Value.int .i64 a0_4)); have z5 := (kC FX.out.g 5).trans (rfl : _ = some (Value.slice A0_5 l0_5.length c0_5))) | (go_at_call 41; (with_reducible refine (impl_Raga_hasTone.calls _ a0_0 A0_1 c0_1 l0_1 A0_2 c0_2 l0_2 a0_3 a0_4 A0_5 c0_5 l0_5 a0_4 _ _ ?s1 HC1.out ?s2 HC2.out ?s5 HC5.out X4.out).mono ?_); (case s1 => exact cB HR1.out FX.out.w); (case s2 => exact cB HR2.out FX.out.w); (case s5 => exact cB HR5.out FX.out.w); rintro e w2 ⟨rfl, hb⟩; have n_ := Aside0.mk (FX.out.step hb); clear FX hb z0 z1 z2 z3 z4 z5; have FX := n_; clear n_; have z0 := (kC FX.out.g 0).trans (rfl : _ = some (Value.string a0_0)); have z1 := (kC FX.out.g 1).trans (rfl : _ = some (Value.slice A0_1 l0_1.length c0_1)); have z2 := (kC FX.out.g 2).trans (rfl : _ = some (Value.slice A0_2 l0_2.length c0_2)); have z3 := (kC FX.out.g 3).trans (rfl : _ = some (Value.int .i64 a0_3)); have z4 := (kC FX.out.g 4).trans (rfl : _ = some (Value.int .i64 a0_4)); have z5 := (kC FX.out.g 5).trans (rfl : _ = some (Value.slice A0_5 l0_5.length c0_5))))
  go_ret
  exact ⟨vr_ret HE.out.symm, FX.out.w⟩
 | true =>
 rw [if_pos rfl] at h
 by_cases c8 : (l0_5.length : Int) > 8
 ·rw [decide_eq_true c8] at h
  have HE := Aside0.mk (impl_ValidRaga.j0_true _ _ _ _ _ _ _ _ h)
  have c8b := decide_eq_true c8
  clear h c8
  go_wp2_with (first | (go_at_call 40; (with_reducible refine (impl_IsName.calls _ a0_0 _ _ X0.out).mono ?_); rintro e w2 ⟨rfl, ⟨q_, rfl⟩⟩; have n0_ := FX.out.drew q_; (try simp only [World.drewN_drewN] at n0_); have n_ := Aside0.mk n0_; clear FX n0_; have FX := n_; clear n_) | (go_at_call 26; (with_reducible refine (impl_ValidScale.calls _ A0_1 c0_1 l0_1 _ _ ?s1 HC1.out X1.out).mono ?_); (case s1 => exact cB HR1.out FX.out.w); rintro e w2 ⟨rfl, ⟨q_, rfl⟩⟩; have n0_ := FX.out.drew q_; (try simp only [World.drewN_drewN] at n0_); have n_ := Aside0.mk n0_; clear FX n0_; have FX := n_; clear n_) | (go_at_call 26; (with_reducible refine (impl_ValidScale.calls _ A0_2 c0_2 l0_2 _ _ ?s1 HC2.out X2.out).mono ?_); (case s1 => exact cB HR2.out FX.out.w); rintro e w2 ⟨rfl, ⟨q_, rfl⟩⟩; have n0_ := FX.out.drew q_; (try simp only [World.drewN_drewN] at n0_); have n_ := Aside0.mk n0_; clear FX n0_; have FX := n_; clear n_) | (go_at_call 41; (with_reducible refine (impl_Raga_hasTone.calls _ a0_0 A0_1 c0_1 l0_1 A0_2 c0_2 l0_2 a0_3 a0_4 A0_5 c0_5 l0_5 a0_3 _ _ ?s1 HC1.out ?s2 HC2.out ?s5 HC5.out X3.out).mono ?_); (case s1 => exact cB HR1.out FX.out.w); (case s2 => exact cB HR2.out FX.out.w); (case s5 => exact cB HR5.out FX.out.w); rintro e w2 ⟨rfl, hb⟩; have n_ := Aside0.mk (FX.out.step hb); clear FX hb z0 z1 z2 z3 z4 z5; have FX := n_; clear n_; have z0 := (kC FX.out.g 0).trans (rfl : _ = some (Value.string a0_0)); have z1 := (kC FX.out.g 1).trans (rfl : _ = some (Value.slice A0_1 l0_1.length c0_1)); have z2 := (kC FX.out.g 2).trans (rfl : _ = some (Value.slice A0_2 l0_2.length c0_2)); have z3 := (kC FX.out.g 3).trans (rfl : _ = some (Value.int .i64 a0_3)); have z4 := (kC FX.out.g 4).trans (rfl : _ = some (Value.int .i64 a0_4)); have z5 := (kC FX.out.g 5).trans (rfl : _ = some (Value.slice A0_5 l0_5.length c0_5))) | (go_at_call 41; (with_reducible refine (impl_Raga_hasTone.calls _ a0_0 A0_1 c0_1 l0_1 A0_2 c0_2 l0_2 a0_3 a0_4 A0_5 c0_5 l0_5 a0_4 _ _ ?s1 HC1.out ?s2 HC2.out ?s5 HC5.out X4.out).mono ?_); (case s1 => exact cB HR1.out FX.out.w); (case s2 => exact cB HR2.out FX.out.w); (case s5 => exact cB HR5.out FX.out.w); rintro e w2 ⟨rfl, hb⟩; have n_ := Aside0.mk (FX.out.step hb); clear FX hb z0 z1 z2 z3 z4 z5; have FX := n_; clear n_; have z0 := (kC FX.out.g 0).trans (rfl : _ = some (Value.string a0_0)); have z1 := (kC FX.out.g 1).trans (rfl : _ = some (Value.slice A0_1 l0_1.length c0_1)); have z2 := (kC FX.out.g 2).trans (rfl : _ = some (Value.slice A0_2 l0_2.length c0_2)); have z3 := (kC FX.out.g 3).trans (rfl : _ = some (Value.int .i64 a0_3)); have z4 := (kC FX.out.g 4).trans (rfl : _ = some (Value.int .i64 a0_4)); have z5 := (kC FX.out.g 5).trans (rfl : _ = some (Value.slice A0_5 l0_5.length c0_5))))
  go_ret
  exact ⟨vr_ret HE.out.symm, FX.out.w⟩
 rw [decide_eq_false c8] at h
 have c8b := decide_eq_false c8
 clear c8
 cases k with
 | zero => exact absurd h (by simp [impl_ValidRaga.j0])
 | succ k =>
 rw [impl_ValidRaga.j0, if_neg (by decide)] at h
 have HH := Aside0.mk h
 clear h
 go_wp2_with (first | (go_at_call 40; (with_reducible refine (impl_IsName.calls _ a0_0 _ _ X0.out).mono ?_); rintro e w2 ⟨rfl, ⟨q_, rfl⟩⟩; have n0_ := FX.out.drew q_; (try simp only [World.drewN_drewN] at n0_); have n_ := Aside0.mk n0_; clear FX n0_; have FX := n_; clear n_) | (go_at_call 26; (with_reducible refine (impl_ValidScale.calls _ A0_1 c0_1 l0_1 _ _ ?s1 HC1.out X1.out).mono ?_); (case s1 => exact cB HR1.out FX.out.w); rintro e w2 ⟨rfl, ⟨q_, rfl⟩⟩; have n0_ := FX.out.drew q_; (try simp only [World.drewN_drewN] at n0_); have n_ := Aside0.mk n0_; clear FX n0_; have FX := n_; clear n_) | (go_at_call 26; (with_reducible refine (impl_ValidScale.calls _ A0_2 c0_2 l0_2 _ _ ?s1 HC2.out X2.out).mono ?_); (case s1 => exact cB HR2.out FX.out.w); rintro e w2 ⟨rfl, ⟨q_, rfl⟩⟩; have n0_ := FX.out.drew q_; (try simp only [World.drewN_drewN] at n0_); have n_ := Aside0.mk n0_; clear FX n0_; have FX := n_; clear n_) | (go_at_call 41; (with_reducible refine (impl_Raga_hasTone.calls _ a0_0 A0_1 c0_1 l0_1 A0_2 c0_2 l0_2 a0_3 a0_4 A0_5 c0_5 l0_5 a0_3 _ _ ?s1 HC1.out ?s2 HC2.out ?s5 HC5.out X3.out).mono ?_); (case s1 => exact cB HR1.out FX.out.w); (case s2 => exact cB HR2.out FX.out.w); (case s5 => exact cB HR5.out FX.out.w); rintro e w2 ⟨rfl, hb⟩; have n_ := Aside0.mk (FX.out.step hb); clear FX hb z0 z1 z2 z3 z4 z5; have FX := n_; clear n_; have z0 := (kC FX.out.g 0).trans (rfl : _ = some (Value.string a0_0)); have z1 := (kC FX.out.g 1).trans (rfl : _ = some (Value.slice A0_1 l0_1.length c0_1)); have z2 := (kC FX.out.g 2).trans (rfl : _ = some (Value.slice A0_2 l0_2.length c0_2)); have z3 := (kC FX.out.g 3).trans (rfl : _ = some (Value.int .i64 a0_3)); have z4 := (kC FX.out.g 4).trans (rfl : _ = some (Value.int .i64 a0_4)); have z5 := (kC FX.out.g 5).trans (rfl : _ = some (Value.slice A0_5 l0_5.length c0_5))) | (go_at_call 41; (with_reducible refine (impl_Raga_hasTone.calls _ a0_0 A0_1 c0_1 l0_1 A0_2 c0_2 l0_2 a0_3 a0_4 A0_5 c0_5 l0_5 a0_4 _ _ ?s1 HC1.out ?s2 HC2.out ?s5 HC5.out X4.out).mono ?_); (case s1 => exact cB HR1.out FX.out.w); (case s2 => exact cB HR2.out FX.out.w); (case s5 => exact cB HR5.out FX.out.w); rintro e w2 ⟨rfl, hb⟩; have n_ := Aside0.mk (FX.out.step hb); clear FX hb z0 z1 z2 z3 z4 z5; have FX := n_; clear n_; have z0 := (kC FX.out.g 0).trans (rfl : _ = some (Value.string a0_0)); have z1 := (kC FX.out.g 1).trans (rfl : _ = some (Value.slice A0_1 l0_1.length c0_1)); have z2 := (kC FX.out.g 2).trans (rfl : _ = some (Value.slice A0_2 l0_2.length c0_2)); have z3 := (kC FX.out.g 3).trans (rfl : _ = some (Value.int .i64 a0_3)); have z4 := (kC FX.out.g 4).trans (rfl : _ = some (Value.int .i64 a0_4)); have z5 := (kC FX.out.g 5).trans (rfl : _ = some (Value.slice A0_5 l0_5.length c0_5))))
 go_loopg [51] k (fun kq v51 w' => ∃ i : Nat, v51 = .int .i64 (i : Int) ∧ i ≤ l0_5.length ∧ Aside0 (impl_ValidRaga.l0 kq l0_5 (l0_5.length : Int) (i : Int) a0_0 l0_1 l0_2 a0_3 a0_4 l0_5 = some r) ∧ Aside0 (kq ≤ k) ∧ Aside0 (Fv w w' #[.string a0_0, .slice A0_1 l0_1.length c0_1, .slice A0_2 l0_2.length c0_2, .int .i64 a0_3, .int .i64 a0_4, .slice A0_5 l0_5.length c0_5]))
 case atStart => exact ⟨0, rfl, Nat.zero_le _, HH, ⟨Nat.le_refl _⟩, FX⟩
 case round =>
  clear z0 z1 z2 z3 z4 z5 FX HH
  obtain ⟨i, rfl, hi, HA, HK, FX⟩ := hrel
  cases gk with
  | zero => exact absurd HA.out (by simp [impl_ValidRaga.l0])
  | succ k1 =>
   have h := HA.out
   clear HA
   rw [impl_ValidRaga.l0] at h
   have hn : l0_5.length ≤ 9223372036854775807 := HR5.out.2.1
   have z0 := (kC FX.out.g 0).trans (rfl : _ = some (Value.string a0_0))
   have z1 := (kC FX.out.g 1).trans (rfl : _ = some (Value.slice A0_1 l0_1.length c0_1))
   have z2 := (kC FX.out.g 2).trans (rfl : _ = some (Value.slice A0_2 l0_2.length c0_2))
   have z3 := (kC FX.out.g 3).trans (rfl : _ = some (Value.int .i64 a0_3))
   have z4 := (kC FX.out.g 4).trans (rfl : _ = some (Value.int .i64 a0_4))
   have z5 := (kC FX.out.g 5).trans (rfl : _ = some (Value.slice A0_5 l0_5.length c0_5))
   by_cases hlt : i < l0_5.length
   ·rw [if_pos (by omega), if_pos (by omega), if_pos (by omega)] at h
    obtain ⟨ad, A1, c1, e, hx, hc1, hk1⟩ := at_L2 HR5.out (i : Int) (by omega) (by omega)
    subst e
    rw [Int.toNat_natCast] at hx
    have hy := (FX.out.w.cell (World.block_lt_of_cell? w _ hx)).trans hx
    have HK1 := Aside0.mk (cB hk1 FX.out.w)
    have HCR := Aside0.mk hc1
    clear hx hk1 hc1
    by_cases h2 : ((rd_L2 l0_5 (i : Int)).length : Int) = 2
    ·rw [if_pos h2, if_pos (by omega)] at h
     have hl2 : (rd_L2 l0_5 (i : Int)).length = 2 := by omega
     obtain ⟨ad2, e2, u0, u1⟩ := two_cells HK1.out hl2
     subst e2
     rw [hl2] at hy
     clear h2
     obtain ⟨t0, y0, h⟩ := Option.bind_eq_some_iff.mp h
     have Y0 := Aside0.mk y0
     clear y0
     cases t0 with
     | false =>
      have HE := Aside0.mk (Option.some.inj h)
      clear h
      go_wp2
      go_quiet (first | (go_at_call 42; (try simp only [iW]); (with_reducible refine (impl_toneOk.calls (rd (rd_L2 l0_5 (i : Int)) 0) _ _ Y0.out).mono ?_); rintro e w' ⟨rfl, ⟨nd, rfl⟩⟩; (try first | exact ⟨rfl, _, World.drewN_drewN _ _ _⟩ | exact ⟨rfl, _, Eq.trans (World.drewN_drewN _ _ _) (congrArg (World.drewN _) (Nat.add_assoc _ _ _))⟩)))
      go_wp2
      go_ret
      exact ⟨vr_ret HE.out, by first | exact FX.out.w | exact bN FX.out.w _⟩
     | true =>
     rw [if_pos rfl, if_pos (by omega)] at h
     obtain ⟨t1, y1, h⟩ := Option.bind_eq_some_iff.mp h
     have Y1 := Aside0.mk y1
     clear y1
     cases t1 with
     | false =>
      have HE := Aside0.mk (Option.some.inj h)
      clear h
      go_wp2
      go_quiet (first | (go_at_call 42; (try simp only [iW]); (with_reducible refine (impl_toneOk.calls (rd (rd_L2 l0_5 (i : Int)) 0) _ _ Y0.out).mono ?_); rintro e w' ⟨rfl, ⟨nd, rfl⟩⟩; (try first | exact ⟨rfl, _, World.drewN_drewN _ _ _⟩ | exact ⟨rfl, _, Eq.trans (World.drewN_drewN _ _ _) (congrArg (World.drewN _) (Nat.add_assoc _ _ _))⟩)) | (go_at_call 42; (try simp only [iW]); (with_reducible refine (impl_toneOk.calls (rd (rd_L2 l0_5 (i : Int)) 1) _ _ Y1.out).mono ?_); rintro e w' ⟨rfl, ⟨nd, rfl⟩⟩; (try first | exact ⟨rfl, _, World.drewN_drewN _ _ _⟩ | exact ⟨rfl, _, Eq.trans (World.drewN_drewN _ _ _) (congrArg (World.drewN _) (Nat.add_assoc _ _ _))⟩)))
      go_wp2
      go_ret
      exact ⟨vr_ret HE.out, by first | exact FX.out.w | exact bN FX.out.w _⟩
     | true =>
     rw [if_pos rfl] at h
     by_cases c5 : rd (rd_L2 l0_5 (i : Int)) 0 = rd (rd_L2 l0_5 (i : Int)) 1
     ·rw [if_pos c5] at h
      have HE := Aside0.mk (Option.some.inj h)
      have c5b := beq_iff_eq.2 c5
      clear h c5
      go_wp2
      go_quiet (first | (go_at_call 42; (try simp only [iW]); (with_reducible refine (impl_toneOk.calls (rd (rd_L2 l0_5 (i : Int)) 0) _ _ Y0.out).mono ?_); rintro e w' ⟨rfl, ⟨nd, rfl⟩⟩; (try first | exact ⟨rfl, _, World.drewN_drewN _ _ _⟩ | exact ⟨rfl, _, Eq.trans (World.drewN_drewN _ _ _) (congrArg (World.drewN _) (Nat.add_assoc _ _ _))⟩)) | (go_at_call 42; (try simp only [iW]); (with_reducible refine (impl_toneOk.calls (rd (rd_L2 l0_5 (i : Int)) 1) _ _ Y1.out).mono ?_); rintro e w' ⟨rfl, ⟨nd, rfl⟩⟩; (try first | exact ⟨rfl, _, World.drewN_drewN _ _ _⟩ | exact ⟨rfl, _, Eq.trans (World.drewN_drewN _ _ _) (congrArg (World.drewN _) (Nat.add_assoc _ _ _))⟩)))
      go_wp2
      go_ret
      exact ⟨vr_ret HE.out, by first | exact FX.out.w | exact bN FX.out.w _⟩
     ·rw [if_neg c5] at h
      have c5b := beq_eq_false_iff_ne.2 c5
      clear c5
      have ew : wrap64 ((i : Int) + 1) = ((i + 1 : Nat) : Int) := by unfold wrap64; omega
      rw [ew] at h
      clear ew
      by_cases c6 : i = 0
      ·rw [if_neg (by omega)] at h
       have HH := Aside0.mk h
       have e6 : decide ((i : Int) > 0) = false := decide_eq_false (by omega)
       have e6b : decide (0 < (i : Int)) = false := decide_eq_false (by omega)
       have e6c : decide (0 < i) = false := decide_eq_false (by omega)
       clear h c6
       go_wp2
       go_quiet (first | (go_at_call 42; (try simp only [iW]); (with_reducible refine (impl_toneOk.calls (rd (rd_L2 l0_5 (i : Int)) 0) _ _ Y0.out).mono ?_); rintro e w' ⟨rfl, ⟨nd, rfl⟩⟩; (try first | exact ⟨rfl, _, World.drewN_drewN _ _ _⟩ | exact ⟨rfl, _, Eq.trans (World.drewN_drewN _ _ _) (congrArg (World.drewN _) (Nat.add_assoc _ _ _))⟩)) | (go_at_call 42; (try simp only [iW]); (with_reducible refine (impl_toneOk.calls (rd (rd_L2 l0_5 (i : Int)) 1) _ _ Y1.out).mono ?_); rintro e w' ⟨rfl, ⟨nd, rfl⟩⟩; (try first | exact ⟨rfl, _, World.drewN_drewN _ _ _⟩ | exact ⟨rfl, _, Eq.trans (World.drewN_drewN _ _ _) (congrArg (World.drewN _) (Nat.add_assoc _ _ _))⟩)))
       go_wp2
       go_roundg k1
       case measure => have := HK.out; omega
       case rel => exact ⟨i + 1, by go_num, by omega, HH, ⟨by have := HK.out; omega⟩, ⟨by first | exact FX.out | exact FX.out.drew _⟩⟩
      ·have ep : wrap64 ((i : Int) - 1) = ((i - 1 : Nat) : Int) := by unfold wrap64; omega
       rw [if_pos (by omega), ep, if_pos (by omega), if_pos (by omega)] at h
       obtain ⟨t, yt, h⟩ := Option.bind_eq_some_iff.mp h
       have YT := Aside0.mk yt
       clear yt
       obtain ⟨ad3, A3, c3, e3, hx3, hc3, hk3⟩ := at_L2 HR5.out ((i - 1 : Nat) : Int) (by omega) (by omega)
       obtain rfl := Option.some.inj e3
       clear e3
       rw [Int.toNat_natCast] at hx3
       have hy3 := (FX.out.w.cell (World.block_lt_of_cell? w _ hx3)).trans hx3
       have HKP := Aside0.mk (cB hk3 FX.out.w)
       have HCP := Aside0.mk hc3
       clear hx3 hk3 hc3
       have hk2 := HK1.out
       rw [hl2] at hk2
       have HK2 := Aside0.mk hk2
       clear hk2
       have CC : ∀ W : World, Kd.C (Kd.int .i64) W A3 (rd_L2 l0_5 ((i - 1 : Nat) : Int)).length (rd_L2 l0_5 ((i - 1 : Nat) : Int)) → Kd.C (Kd.int .i64) W (some ad2) 2 (rd_L2 l0_5 (i : Int)) → Calls Tryd.prog 43 #[.slice A3 (rd_L2 l0_5 ((i - 1 : Nat) : Int)).length c3, .slice (some ad2) 2 c1] W (fun e w' => e = .returned (.int .i64 t) ∧ Drawn0 W w') := fun W q1 q2 => by
        have q3 := slices_Compare_int64_int64.calls k1 A3 c3 (rd_L2 l0_5 ((i - 1 : Nat) : Int)) (some ad2) c1 (rd_L2 l0_5 (i : Int)) t W q1 HCP.out (by rw [hl2]; exact q2) HCR.out YT.out
        rwa [hl2] at q3
       have eW : IntKind.i64.wrap ((i : Int) - 1) = ((i - 1 : Nat) : Int) := (iW _).trans ep
       clear ep
       have e6 : decide ((i : Int) > 0) = true := decide_eq_true (by omega)
       have e6b : decide (0 < (i : Int)) = true := decide_eq_true (by omega)
       have e6c : decide (0 < i) = true := decide_eq_true (by omega)
       have e7 : ((i - 1 : Nat) : Int) < (l0_5.length : Int) := by omega
       have e8 : (0 : Int) ≤ ((i - 1 : Nat) : Int) := by omega
       have e9 : i - 1 < l0_5.length := by omega
       by_cases c7 : t ≥ 0
       ·rw [if_pos c7] at h
        have HE := Aside0.mk (Option.some.inj h)
        have c7b := decide_eq_true c7
        clear h c7
        go_wp2
        go_quiet (first | (go_at_call 42; (try simp only [iW]); (with_reducible refine (impl_toneOk.calls (rd (rd_L2 l0_5 (i : Int)) 0) _ _ Y0.out).mono ?_); rintro e w' ⟨rfl, ⟨nd, rfl⟩⟩; (try first | exact ⟨rfl, _, World.drewN_drewN _ _ _⟩ | exact ⟨rfl, _, Eq.trans (World.drewN_drewN _ _ _) (congrArg (World.drewN _) (Nat.add_assoc _ _ _))⟩)) | (go_at_call 42; (try simp only [iW]); (with_reducible refine (impl_toneOk.calls (rd (rd_L2 l0_5 (i : Int)) 1) _ _ Y1.out).mono ?_); rintro e w' ⟨rfl, ⟨nd, rfl⟩⟩; (try first | exact ⟨rfl, _, World.drewN_drewN _ _ _⟩ | exact ⟨rfl, _, Eq.trans (World.drewN_drewN _ _ _) (congrArg (World.drewN _) (Nat.add_assoc _ _ _))⟩)) | (go_at_call 43; (try simp only [iW]); (with_reducible refine (CC _ ?s1 ?s3).mono ?_); (case s1 => repeat (first | exact HKP.out | (with_reducible refine cN ?_ _) | (with_reducible refine cD ?_))); (case s3 => repeat (first | exact HK2.out | (with_reducible refine cN ?_ _) | (with_reducible refine cD ?_))); rintro e w' ⟨rfl, ⟨nd, rfl⟩⟩; (try first | exact ⟨rfl, _, World.drewN_drewN _ _ _⟩ | exact ⟨rfl, _, Eq.trans (World.drewN_drewN _ _ _) (congrArg (World.drewN _) (Nat.add_assoc _ _ _))⟩)))
        go_wp2
        go_ret
        exact ⟨vr_ret HE.out, by first | exact FX.out.w | exact bN FX.out.w _⟩
       ·rw [if_neg c7] at h
        have HH := Aside0.mk h
        have c7b := decide_eq_false c7
        clear h c7
        go_wp2
        go_quiet (first | (go_at_call 42; (try simp only [iW]); (with_reducible refine (impl_toneOk.calls (rd (rd_L2 l0_5 (i : Int)) 0) _ _ Y0.out).mono ?_); rintro e w' ⟨rfl, ⟨nd, rfl⟩⟩; (try first | exact ⟨rfl, _, World.drewN_drewN _ _ _⟩ | exact ⟨rfl, _, Eq.trans (World.drewN_drewN _ _ _) (congrArg (World.drewN _) (Nat.add_assoc _ _ _))⟩)) | (go_at_call 42; (try simp only [iW]); (with_reducible refine (impl_toneOk.calls (rd (rd_L2 l0_5 (i : Int)) 1) _ _ Y1.out).mono ?_); rintro e w' ⟨rfl, ⟨nd, rfl⟩⟩; (try first | exact ⟨rfl, _, World.drewN_drewN _ _ _⟩ | exact ⟨rfl, _, Eq.trans (World.drewN_drewN _ _ _) (congrArg (World.drewN _) (Nat.add_assoc _ _ _))⟩)) | (go_at_call 43; (try simp only [iW]); (with_reducible refine (CC _ ?s1 ?s3).mono ?_); (case s1 => repeat (first | exact HKP.out | (with_reducible refine cN ?_ _) | (with_reducible refine cD ?_))); (case s3 => repeat (first | exact HK2.out | (with_reducible refine cN ?_ _) | (with_reducible refine cD ?_))); rintro e w' ⟨rfl, ⟨nd, rfl⟩⟩; (try first | exact ⟨rfl, _, World.drewN_drewN _ _ _⟩ | exact ⟨rfl, _, Eq.trans (World.drewN_drewN _ _ _) (congrArg (World.drewN _) (Nat.add_assoc _ _ _))⟩)))
        go_wp2
        go_roundg k1
        case measure => have := HK.out; omega
        case rel => exact ⟨i + 1, by go_num, by omega, HH, ⟨by have := HK.out; omega⟩, ⟨by first | exact FX.out | exact FX.out.drew _⟩⟩
    ·rw [if_neg h2] at h
     have HE := Aside0.mk (Option.some.inj h)
     have h2b := bne_iff_ne.2 h2
     have h2c := beq_eq_false_iff_ne.2 h2
     clear h h2
     go_wp2
     go_quiet (fail)
     go_wp2
     go_ret
     exact ⟨vr_ret HE.out, by first | exact FX.out.w | exact bN FX.out.w _⟩
   ·rw [if_neg (by omega)] at h
    have HE := Aside0.mk (Option.some.inj h)
    clear h
    go_wp2
    go_ret
    exact ⟨vr_ret HE.out, FX.out.w⟩

end Go.Proofs.YtbebcnnibjkclaaDoor.R
-- shrunk
-- tight
