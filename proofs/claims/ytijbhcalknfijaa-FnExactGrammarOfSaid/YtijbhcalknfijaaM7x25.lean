/- What functions of the given program compute, as plain Lean functions, and that the code comes to just that; by a program of this session over the kit's print. No condition. -/
import Derived.Test.YtijbhcalknfijaaM7x0
import Derived.Test.YtijbhcalknfijaaM7x19
import Derived.Test.YtijbhcalknfijaaTight
namespace Go.Proofs.Ytijbhcalknfijaa.M7
open Go.RowKit Go.Proofs.YtijbhcalknfijaaW.PrintWords Go.Proofs.YtijbhcalknfijaaW.PrintLast Go.Proofs.YtijbhcalknfijaaW.PrintMore
open Go.Proofs.YtijbhcalknfijaaW.PrintWords renaming below_alloc → bA, pw_below_drewN → bN, below_step → bP, blk_cell → kC, blk_alloc → kA
open Go.Proofs.YtijbhcalknfijaaW.PrintLast renaming i64_w → iW
open Go.Proofs.YtijbhcalknfijaaW.PrintWords.Kd renaming C_drewN → cN, C_drew → cD, C_below → cB
attribute [local go_sem] max2_int min2_int max_two min_two max_three min_three max_four min_four   -- for this text's walks alone
set_option linter.unusedVariables false
set_option linter.unusedSimpArgs false

/-! ### impl_ValidRaga: function 89 -/
mutual
def impl_ValidRaga.j0 : Nat → Bool → ByteArray → List Int → List Int → Int → Int → List (List Int) → Option (Bool)
 | 0, _, _, _, _, _, _, _ => none
 | k + 1, x47, x228000, x228001, x228002, x228003, x228004, x228005 => if x47 = true then (some false) else (impl_ValidRaga.l0 k x228005 (x228005.length : Int) 0 x228000 x228001 x228002 x228003 x228004 x228005)
def impl_ValidRaga.l0 : Nat → List (List Int) → Int → Int → ByteArray → List Int → List Int → Int → Int → List (List Int) → Option (Bool)
 | 0, _, _, _, _, _, _, _, _, _ => none
 | k + 1, x49, x50, x51, x228000, x228001, x228002, x228003, x228004, x228005 => if x51 < x50 then (if 0 ≤ x51 then (if x51 < (x49.length : Int) then (if ((rd_L2 x49 x51).length : Int) = 2 then (if 0 < ((rd_L2 x49 x51).length : Int) then ((impl_toneOk.f (rd (rd_L2 x49 x51) 0)).bind fun t235 => (if t235 = true then (if 1 < ((rd_L2 x49 x51).length : Int) then ((impl_toneOk.f (rd (rd_L2 x49 x51) 1)).bind fun t237 => (if t237 = true then (if (rd (rd_L2 x49 x51) 0) = (rd (rd_L2 x49 x51) 1) then (some false) else (if x51 > 0 then (if 0 ≤ (wrap64 (x51 - 1)) then (if (wrap64 (x51 - 1)) < (x228005.length : Int) then ((slices_Compare_int64_int64.f k (rd_L2 x228005 (wrap64 (x51 - 1))) (rd_L2 x49 x51)).bind fun t241 => (if t241 ≥ 0 then (some false) else (impl_ValidRaga.l0 k x49 x50 (wrap64 (x51 + 1)) x228000 x228001 x228002 x228003 x228004 x228005))) else (none)) else (none)) else (impl_ValidRaga.l0 k x49 x50 (wrap64 (x51 + 1)) x228000 x228001 x228002 x228003 x228004 x228005))) else (some false))) else (none)) else (some false))) else (none)) else (some false)) else (none)) else (none)) else (some true)
end
def impl_ValidRaga.f (k : Nat) (a0_0 : ByteArray) (l0_1 : List Int) (l0_2 : List Int) (a0_3 : Int) (a0_4 : Int) (l0_5 : List (List Int)) : Option (Bool) := (impl_IsName.f k a0_0).bind fun t228 => (if t228 = true then ((impl_ValidScale.f k l0_1).bind fun t229 => (if t229 = true then ((impl_ValidScale.f k l0_2).bind fun t230 => (if t230 = true then (if a0_3 = a0_4 then (impl_ValidRaga.j0 k true a0_0 l0_1 l0_2 a0_3 a0_4 l0_5) else ((impl_Raga_hasTone.f k a0_0 l0_1 l0_2 a0_3 a0_4 l0_5 a0_3).bind fun t231 => (if t231 = true then ((impl_Raga_hasTone.f k a0_0 l0_1 l0_2 a0_3 a0_4 l0_5 a0_4).bind fun t232 => (if t232 = true then (impl_ValidRaga.j0 k (decide ((l0_5.length : Int) > 8)) a0_0 l0_1 l0_2 a0_3 a0_4 l0_5) else (impl_ValidRaga.j0 k true a0_0 l0_1 l0_2 a0_3 a0_4 l0_5))) else (impl_ValidRaga.j0 k true a0_0 l0_1 l0_2 a0_3 a0_4 l0_5)))) else (impl_ValidRaga.j0 k true a0_0 l0_1 l0_2 a0_3 a0_4 l0_5))) else (impl_ValidRaga.j0 k true a0_0 l0_1 l0_2 a0_3 a0_4 l0_5))) else (impl_ValidRaga.j0 k true a0_0 l0_1 l0_2 a0_3 a0_4 l0_5))
theorem impl_ValidRaga.mono_l : ∀ k, (∀ y0 y1 y2 y3 y4 y5 y6, LeO (impl_ValidRaga.j0 k y0 y1 y2 y3 y4 y5 y6) (impl_ValidRaga.j0 (k + 1) y0 y1 y2 y3 y4 y5 y6)) ∧ (∀ y0 y1 y2 y3 y4 y5 y6 y7 y8, LeO (impl_ValidRaga.l0 k y0 y1 y2 y3 y4 y5 y6 y7 y8) (impl_ValidRaga.l0 (k + 1) y0 y1 y2 y3 y4 y5 y6 y7 y8))
 | 0 => ⟨fun _ _ _ _ _ _ _ r h => by simp [impl_ValidRaga.j0] at h, fun _ _ _ _ _ _ _ _ _ r h => by simp [impl_ValidRaga.l0] at h⟩
 | k + 1 => by
  obtain ⟨ih0, ih1⟩ := impl_ValidRaga.mono_l k
  refine ⟨?_, ?_⟩
  ·intro y0 y1 y2 y3 y4 y5 y6
   unfold impl_ValidRaga.j0
   repeat' first
   | (with_reducible exact ih0 _ _ _ _ _ _ _)
   | (with_reducible exact ih1 _ _ _ _ _ _ _ _ _)
   | (with_reducible exact impl_IsName.mono _ _)
   | (with_reducible exact impl_Raga_hasTone.mono _ _ _ _ _ _ _ _)
   | (with_reducible exact impl_ValidScale.mono _ _)
   | (with_reducible exact slices_Compare_int64_int64.mono _ _ _)
   | (with_reducible exact LeO.refl _)
   | (with_reducible exact LeO.none _)
   | (with_reducible refine LeO.ite ?_ ?_)
   | (with_reducible refine LeO.bind ?_ (fun _ => ?_))
   | exact ih0 _ _ _ _ _ _ _
   | exact ih1 _ _ _ _ _ _ _ _ _
   | exact impl_IsName.mono _ _
   | exact impl_Raga_hasTone.mono _ _ _ _ _ _ _ _
   | exact impl_ValidScale.mono _ _
   | exact slices_Compare_int64_int64.mono _ _ _
   | exact LeO.none _
   | refine LeO.ite ?_ ?_
   | refine LeO.bind ?_ (fun _ => ?_)
  ·intro y0 y1 y2 y3 y4 y5 y6 y7 y8
   unfold impl_ValidRaga.l0
   repeat' first
   | (with_reducible exact ih0 _ _ _ _ _ _ _)
   | (with_reducible exact ih1 _ _ _ _ _ _ _ _ _)
   | (with_reducible exact impl_IsName.mono _ _)
   | (with_reducible exact impl_Raga_hasTone.mono _ _ _ _ _ _ _ _)
   | (with_reducible exact impl_ValidScale.mono _ _)
   | (with_reducible exact slices_Compare_int64_int64.mono _ _ _)
   | (with_reducible exact LeO.refl _)
   | (with_reducible exact LeO.none _)
   | (with_reducible refine LeO.ite ?_ ?_)
   | (with_reducible refine LeO.bind ?_ (fun _ => ?_))
   | exact ih0 _ _ _ _ _ _ _
   | exact ih1 _ _ _ _ _ _ _ _ _
   | exact impl_IsName.mono _ _
   | exact impl_Raga_hasTone.mono _ _ _ _ _ _ _ _
   | exact impl_ValidScale.mono _ _
   | exact slices_Compare_int64_int64.mono _ _ _
   | exact LeO.none _
   | refine LeO.ite ?_ ?_
   | refine LeO.bind ?_ (fun _ => ?_)
theorem impl_ValidRaga.mono : ∀ a0 a1 a2 a3 a4 a5 k, LeO (impl_ValidRaga.f k a0 a1 a2 a3 a4 a5) (impl_ValidRaga.f (k + 1) a0 a1 a2 a3 a4 a5) := by
 intro a0 a1 a2 a3 a4 a5 k
 obtain ⟨ih0, ih1⟩ := impl_ValidRaga.mono_l k
 unfold impl_ValidRaga.f
 repeat' first
   | (with_reducible exact ih0 _ _ _ _ _ _ _)
   | (with_reducible exact ih1 _ _ _ _ _ _ _ _ _)
   | (with_reducible exact impl_IsName.mono _ _)
   | (with_reducible exact impl_Raga_hasTone.mono _ _ _ _ _ _ _ _)
   | (with_reducible exact impl_ValidScale.mono _ _)
   | (with_reducible exact slices_Compare_int64_int64.mono _ _ _)
   | (with_reducible exact LeO.refl _)
   | (with_reducible exact LeO.none _)
   | (with_reducible refine LeO.ite ?_ ?_)
   | (with_reducible refine LeO.bind ?_ (fun _ => ?_))
   | exact ih0 _ _ _ _ _ _ _
   | exact ih1 _ _ _ _ _ _ _ _ _
   | exact impl_IsName.mono _ _
   | exact impl_Raga_hasTone.mono _ _ _ _ _ _ _ _
   | exact impl_ValidScale.mono _ _
   | exact slices_Compare_int64_int64.mono _ _ _
   | exact LeO.none _
   | refine LeO.ite ?_ ?_
   | refine LeO.bind ?_ (fun _ => ?_)
structure Fv (w W : World) (G : Array Value) : Prop where
 g : W.heap[w.heap.size]? = some (.cells G 58 (0, 0))
 w : Below w.heap.size w W
theorem Fv.step {w W W' : World} {G : Array Value} (h : Fv w W G) (hb : Below W.heap.size W W') : Fv w W' G where
 g := (hb.block _ (Array.getElem?_eq_some_iff.1 h.g).1).trans h.g
 w := bP h.w hb
theorem Fv.start (w : World) (G : Array Value) : Fv w (w.alloc (.cells G 58)) G where
 g := heap_alloc_new w _
 w := bA (Below.refl _ _) _
theorem Fv.drew {w W : World} {G : Array Value} (h : Fv w W G) (n : Nat) : Fv w (W.drewN n) G := ⟨h.g, bN h.w _⟩
theorem gv_ {P : Program} {c : Code} {Q : Exit → Act → World → Prop} {a : Act} {W : World} (F : World → Prop) (h : F W) (H : ∀ W', F W' → Code.wp P c Q a W') : Code.wp P c Q a W := H W h
theorem vr_ret {a b : Bool} (h : a = b) : Ending.returned (.bool a) = .returned (.bool b) := by rw [h]
theorem impl_ValidRaga.j0_true (k : Nat) (nm : ByteArray) (u d : List Int) (st wk : Int) (fb : List (List Int)) (r : Bool) (h : impl_ValidRaga.j0 k true nm u d st wk fb = some r) : r = false := by
 cases k with
 | zero => simp [impl_ValidRaga.j0] at h
 | succ k => simp [impl_ValidRaga.j0] at h; exact h
theorem two_cells {w : World} {A : Option Addr} {l : List Int} (h : Kd.C (Kd.int .i64) w A l.length l) (h2 : l.length = 2) : ∃ ad, A = some ad ∧ w.cell? ad = some (.int .i64 (rd l 0)) ∧ w.cell? ⟨ad.block, ad.off + 1, none⟩ = some (.int .i64 (rd l 1)) := by
 obtain ⟨ad, e, hx⟩ := Kd.at_int h 0 (by omega) (by omega)
 subst e
 obtain ⟨ad2, e2, hy⟩ := Kd.at_int h 1 (by omega) (by omega)
 obtain rfl := Option.some.inj e2
 have hx0 : w.cell? (ad.add 0) = some (.int .i64 (rd l 0)) := hx
 have hy0 : w.cell? (ad.add 1) = some (.int .i64 (rd l 1)) := hy
 refine ⟨ad, rfl, ?_, hy0⟩
 have e : ad.add 0 = ad := by cases ad; simp [Addr.add]
 rw [e] at hx0
 exact hx0
set_option maxHeartbeats 4000000 in
set_option maxRecDepth 100000 in
theorem impl_ValidRaga.calls (k : Nat) (a0_0 : ByteArray) (A0_1 : Option Addr) (c0_1 : Nat) (l0_1 : List Int) (A0_2 : Option Addr) (c0_2 : Nat) (l0_2 : List Int) (a0_3 : Int) (a0_4 : Int) (A0_5 : Option Addr) (c0_5 : Nat) (l0_5 : List (List Int)) (r : Bool) (w : World) (hr0_1 : Kd.C (Kd.int .i64) w A0_1 l0_1.length l0_1) (hc0_1 : l0_1.length ≤ c0_1) (hr0_2 : Kd.C (Kd.int .i64) w A0_2 l0_2.length l0_2) (hc0_2 : l0_2.length ≤ c0_2) (hr0_5 : Kd.C (Kd.slice 2 (Kd.int .i64)) w A0_5 l0_5.length l0_5) (hc0_5 : l0_5.length ≤ c0_5) (h : impl_ValidRaga.f k a0_0 l0_1 l0_2 a0_3 a0_4 l0_5 = some r) :
  Calls Try.prog 89 #[.agg #[.string a0_0, .slice A0_1 l0_1.length c0_1, .slice A0_2 l0_2.length c0_2, .int .i64 a0_3, .int .i64 a0_4, .slice A0_5 l0_5.length c0_5]] w fun e w' => e = .returned (.bool r) ∧ Below w.heap.size w w' := by
 have hu := Try.underlying58
 have HR1 := Aside0.mk hr0_1
 have HC1 := Aside0.mk hc0_1
 have HR2 := Aside0.mk hr0_2
 have HC2 := Aside0.mk hc0_2
 have HR5 := Aside0.mk hr0_5
 have HC5 := Aside0.mk hc0_5
 have HH := Aside0.mk h
 clear hr0_1 hc0_1 hr0_2 hc0_2 hr0_5 hc0_5 h
 go_enter Try.func89, Try.ntmps89
 go_upto_region 1 with fail
 refine gv_ (fun W => Fv w W #[.string a0_0, .slice A0_1 l0_1.length c0_1, .slice A0_2 l0_2.length c0_2, .int .i64 a0_3, .int .i64 a0_4, .slice A0_5 l0_5.length c0_5]) (Fv.start _ _) ?_
 intro wx fx
 have FX := Aside0.mk fx
 clear fx
 have z0 := (kC FX.out.g 0).trans (rfl : _ = some (Value.string a0_0))
 have z1 := (kC FX.out.g 1).trans (rfl : _ = some (Value.slice A0_1 l0_1.length c0_1))
 have z2 := (kC FX.out.g 2).trans (rfl : _ = some (Value.slice A0_2 l0_2.length c0_2))
 have z3 := (kC FX.out.g 3).trans (rfl : _ = some (Value.int .i64 a0_3))
 have z4 := (kC FX.out.g 4).trans (rfl : _ = some (Value.int .i64 a0_4))
 have z5 := (kC FX.out.g 5).trans (rfl : _ = some (Value.slice A0_5 l0_5.length c0_5))
 have h := HH.out
 clear HH
 unfold impl_ValidRaga.f at h
 obtain ⟨b0, x0, h⟩ := Option.bind_eq_some_iff.mp h
 have X0 := Aside0.mk x0
 clear x0
 cases b0 with
 | false =>
  have HE := Aside0.mk (impl_ValidRaga.j0_true _ _ _ _ _ _ _ _ h)
  clear h
  go_wp2_with (first | (go_at_call 116; (with_reducible refine (impl_IsName.calls _ a0_0 _ _ X0.out).mono ?_); rintro e w2 ⟨rfl, ⟨q_, rfl⟩⟩; have n0_ := FX.out.drew q_; (try simp only [World.drewN_drewN] at n0_); have n_ := Aside0.mk n0_; clear FX n0_; have FX := n_; clear n_))
  go_ret
  exact ⟨vr_ret HE.out.symm, FX.out.w⟩
 | true =>
 rw [if_pos rfl] at h
 obtain ⟨b1, x1, h⟩ := Option.bind_eq_some_iff.mp h
 have X1 := Aside0.mk x1
 clear x1
 cases b1 with
 | false =>
  have HE := Aside0.mk (impl_ValidRaga.j0_true _ _ _ _ _ _ _ _ h)
  clear h
  go_wp2_with (first | (go_at_call 116; (with_reducible refine (impl_IsName.calls _ a0_0 _ _ X0.out).mono ?_); rintro e w2 ⟨rfl, ⟨q_, rfl⟩⟩; have n0_ := FX.out.drew q_; (try simp only [World.drewN_drewN] at n0_); have n_ := Aside0.mk n0_; clear FX n0_; have FX := n_; clear n_) | (go_at_call 117; (with_reducible refine (impl_ValidScale.calls _ A0_1 c0_1 l0_1 _ _ ?s1 HC1.out X1.out).mono ?_); (case s1 => exact cB HR1.out FX.out.w); rintro e w2 ⟨rfl, ⟨q_, rfl⟩⟩; have n0_ := FX.out.drew q_; (try simp only [World.drewN_drewN] at n0_); have n_ := Aside0.mk n0_; clear FX n0_; have FX := n_; clear n_))
  go_ret
  exact ⟨vr_ret HE.out.symm, FX.out.w⟩
 | true =>
 rw [if_pos rfl] at h
 obtain ⟨b2, x2, h⟩ := Option.bind_eq_some_iff.mp h
 have X2 := Aside0.mk x2
 clear x2
 cases b2 with
 | false =>
  have HE := Aside0.mk (impl_ValidRaga.j0_true _ _ _ _ _ _ _ _ h)
  clear h
  go_wp2_with (first | (go_at_call 116; (with_reducible refine (impl_IsName.calls _ a0_0 _ _ X0.out).mono ?_); rintro e w2 ⟨rfl, ⟨q_, rfl⟩⟩; have n0_ := FX.out.drew q_; (try simp only [World.drewN_drewN] at n0_); have n_ := Aside0.mk n0_; clear FX n0_; have FX := n_; clear n_) | (go_at_call 117; (with_reducible refine (impl_ValidScale.calls _ A0_1 c0_1 l0_1 _ _ ?s1 HC1.out X1.out).mono ?_); (case s1 => exact cB HR1.out FX.out.w); rintro e w2 ⟨rfl, ⟨q_, rfl⟩⟩; have n0_ := FX.out.drew q_; (try simp only [World.drewN_drewN] at n0_); have n_ := Aside0.mk n0_; clear FX n0_; have FX := n_; clear n_) | (go_at_call 117; (with_reducible refine (impl_ValidScale.calls _ A0_2 c0_2 l0_2 _ _ ?s1 HC2.out X2.out).mono ?_); (case s1 => exact cB HR2.out FX.out.w); rintro e w2 ⟨rfl, ⟨q_, rfl⟩⟩; have n0_ := FX.out.drew q_; (try simp only [World.drewN_drewN] at n0_); have n_ := Aside0.mk n0_; clear FX n0_; have FX := n_; clear n_))
  go_ret
  exact ⟨vr_ret HE.out.symm, FX.out.w⟩
 | true =>
 rw [if_pos rfl] at h
 by_cases c3 : a0_3 = a0_4
 ·rw [if_pos c3] at h
  have HE := Aside0.mk (impl_ValidRaga.j0_true _ _ _ _ _ _ _ _ h)
  have c3b := beq_iff_eq.2 c3
  clear h c3
  go_wp2_with (first | (go_at_call 116; (with_reducible refine (impl_IsName.calls _ a0_0 _ _ X0.out).mono ?_); rintro e w2 ⟨rfl, ⟨q_, rfl⟩⟩; have n0_ := FX.out.drew q_; (try simp only [World.drewN_drewN] at n0_); have n_ := Aside0.mk n0_; clear FX n0_; have FX := n_; clear n_) | (go_at_call 117; (with_reducible refine (impl_ValidScale.calls _ A0_1 c0_1 l0_1 _ _ ?s1 HC1.out X1.out).mono ?_); (case s1 => exact cB HR1.out FX.out.w); rintro e w2 ⟨rfl, ⟨q_, rfl⟩⟩; have n0_ := FX.out.drew q_; (try simp only [World.drewN_drewN] at n0_); have n_ := Aside0.mk n0_; clear FX n0_; have FX := n_; clear n_) | (go_at_call 117; (with_reducible refine (impl_ValidScale.calls _ A0_2 c0_2 l0_2 _ _ ?s1 HC2.out X2.out).mono ?_); (case s1 => exact cB HR2.out FX.out.w); rintro e w2 ⟨rfl, ⟨q_, rfl⟩⟩; have n0_ := FX.out.drew q_; (try simp only [World.drewN_drewN] at n0_); have n_ := Aside0.mk n0_; clear FX n0_; have FX := n_; clear n_))
  go_ret
  exact ⟨vr_ret HE.out.symm, FX.out.w⟩
 rw [if_neg c3] at h
 have c3b := beq_eq_false_iff_ne.2 c3
 clear c3
 obtain ⟨b3, x3, h⟩ := Option.bind_eq_some_iff.mp h
 have X3 := Aside0.mk x3
 clear x3
 cases b3 with
 | false =>
  have HE := Aside0.mk (impl_ValidRaga.j0_true _ _ _ _ _ _ _ _ h)
  clear h
  go_wp2_with (first | (go_at_call 116; (with_reducible refine (impl_IsName.calls _ a0_0 _ _ X0.out).mono ?_); rintro e w2 ⟨rfl, ⟨q_, rfl⟩⟩; have n0_ := FX.out.drew q_; (try simp only [World.drewN_drewN] at n0_); have n_ := Aside0.mk n0_; clear FX n0_; have FX := n_; clear n_) | (go_at_call 117; (with_reducible refine (impl_ValidScale.calls _ A0_1 c0_1 l0_1 _ _ ?s1 HC1.out X1.out).mono ?_); (case s1 => exact cB HR1.out FX.out.w); rintro e w2 ⟨rfl, ⟨q_, rfl⟩⟩; have n0_ := FX.out.drew q_; (try simp only [World.drewN_drewN] at n0_); have n_ := Aside0.mk n0_; clear FX n0_; have FX := n_; clear n_) | (go_at_call 117; (with_reducible refine (impl_ValidScale.calls _ A0_2 c0_2 l0_2 _ _ ?s1 HC2.out X2.out).mono ?_); (case s1 => exact cB HR2.out FX.out.w); rintro e w2 ⟨rfl, ⟨q_, rfl⟩⟩; have n0_ := FX.out.drew q_; (try simp only [World.drewN_drewN] at n0_); have n_ := Aside0.mk n0_; clear FX n0_; have FX := n_; clear n_) | (go_at_call 95; (with_reducible refine (impl_Raga_hasTone.calls _ a0_0 A0_1 c0_1 l0_1 A0_2 c0_2 l0_2 a0_3 a0_4 A0_5 c0_5 l0_5 a0_3 _ _ ?s1 HC1.out ?s2 HC2.out ?s5 HC5.out X3.out).mono ?_); (case s1 => exact cB HR1.out FX.out.w); (case s2 => exact cB HR2.out FX.out.w); (case s5 => exact cB HR5.out FX.out.w); rintro e w2 ⟨rfl, hb⟩; have n_ := Aside0.mk (FX.out.step hb); clear FX hb z0 z1 z2 z3 z4 z5; have FX := n_; clear n_; have z0 := (kC FX.out.g 0).trans (rfl : _ = some (Value.string a0_0)); have z1 := (kC FX.out.g 1).trans (rfl : _ = some (Value.slice A0_1 l0_1.length c0_1)); have z2 := (kC FX.out.g 2).trans (rfl : _ = some (Value.slice A0_2 l0_2.length c0_2)); have z3 := (kC FX.out.g 3).trans (rfl : _ = some (Value.int .i64 a0_3)); have z4 := (kC FX.out.g 4).trans (rfl : _ = some (Value.int .i64 a0_4)); have z5 := (kC FX.out.g 5).trans (rfl : _ = some (Value.slice A0_5 l0_5.length c0_5))))
  go_ret
  exact ⟨vr_ret HE.out.symm, FX.out.w⟩
 | true =>
 rw [if_pos rfl] at h
 obtain ⟨b4, x4, h⟩ := Option.bind_eq_some_iff.mp h
 have X4 := Aside0.mk x4
 clear x4
 cases b4 with
 | false =>
  have HE := Aside0.mk (impl_ValidRaga.j0_true _ _ _ _ _ _ _ _ h)
  clear h
  go_wp2_with (first | (go_at_call 116; (with_reducible refine (impl_IsName.calls _ a0_0 _ _ X0.out).mono ?_); rintro e w2 ⟨rfl, ⟨q_, rfl⟩⟩; have n0_ := FX.out.drew q_; (try simp only [World.drewN_drewN] at n0_); have n_ := Aside0.mk n0_; clear FX n0_; have FX := n_; clear n_) | (go_at_call 117; (with_reducible refine (impl_ValidScale.calls _ A0_1 c0_1 l0_1 _ _ ?s1 HC1.out X1.out).mono ?_); (case s1 => exact cB HR1.out FX.out.w); rintro e w2 ⟨rfl, ⟨q_, rfl⟩⟩; have n0_ := FX.out.drew q_; (try simp only [World.drewN_drewN] at n0_); have n_ := Aside0.mk n0_; clear FX n0_; have FX := n_; clear n_) | (go_at_call 117; (with_reducible refine (impl_ValidScale.calls _ A0_2 c0_2 l0_2 _ _ ?s1 HC2.out X2.out).mono ?_); (case s1 => exact cB HR2.out FX.out.w); rintro e w2 ⟨rfl, ⟨q_, rfl⟩⟩; have n0_ := FX.out.drew q_; (try simp only [World.drewN_drewN] at n0_); have n_ := Aside0.mk n0_; clear FX n0_; have FX := n_; clear n_) | (go_at_call 95; (with_reducible refine (impl_Raga_hasTone.calls _ a0_0 A0_1 c0_1 l0_1 A0_2 c0_2 l0_2 a0_3 a0_4 A0_5 c0_5 l0_5 a0_3 _ _ ?s1 HC1.out ?s2 HC2.out ?s5 HC5.out X3.out).mono ?_); (case s1 => exact cB HR1.out FX.out.w); (case s2 => exact cB HR2.out FX.out.w); (case s5 => exact cB HR5.out FX.out.w); rintro e w2 ⟨rfl, hb⟩; have n_ := Aside0.mk (FX.out.step hb); clear FX hb z0 z1 z2 z3 z4 z5; have FX := n_; clear n_; have z0 := (kC FX.out.g 0).trans (rfl : _ = some (Value.string a0_0)); have z1 := (kC FX.out.g 1).trans (rfl : _ = some (Value.slice A0_1 l0_1.length c0_1)); have z2 := (kC FX.out.g 2).trans (rfl : _ = some (Value.slice A0_2 l0_2.length c0_2)); have z3 := (kC FX.out.g 3).trans (rfl : _ = some (Value.int .i64 a0_3)); have z4 := (kC FX.out.g 4).trans (rfl : _ = some (Value.int .i64 a0_4)); have z5 := (kC FX.out.g 5).trans (rfl : _ = some (Value.slice A0_5 l0_5.length c0_5))) | (go_at_call 95; (with_reducible refine (impl_Raga_hasTone.calls _ a0_0 A0_1 c0_1 l0_1 A0_2 c0_2 l0_2 a0_3 a0_4 A0_5 c0_5 l0_5 a0_4 _ _ ?s1 HC1.out ?s2 HC2.out ?s5 HC5.out X4.out).mono ?_); (case s1 => exact cB HR1.out FX.out.w); (case s2 => exact cB HR2.out FX.out.w); (case s5 => exact cB HR5.out FX.out.w); rintro e w2 ⟨rfl, hb⟩; have n_ := Aside0.mk (FX.out.step hb); clear FX hb z0 z1 z2 z3 z4 z5; have FX := n_; clear n_; have z0 := (kC FX.out.g 0).trans (rfl : _ = some (Value.string a0_0)); have z1 := (kC FX.out.g 1).trans (rfl : _ = some (Value.slice A0_1 l0_1.length c0_1)); have z2 := (kC FX.out.g 2).trans (rfl : _ = some (Value.slice A0_2 l0_2.length c0_2)); have z3 := (kC FX.out.g 3).trans (rfl : _ = some (Value.int .i64 a0_3)); have z4 := (kC FX.out.g 4).trans (rfl : _ = some (Value.int .i64 a0_4)); have z5 := (kC FX.out.g 5).trans (rfl : _ = some (Value.slice A0_5 l0_5.length c0_5))))
  go_ret
  exact ⟨vr_ret HE.out.symm, FX.out.w⟩
 | true =>
 rw [if_pos rfl] at h
 by_cases c8 : (l0_5.length : Int) > 8
 ·rw [decide_eq_true c8] at h
  have HE := Aside0.mk (impl_ValidRaga.j0_true _ _ _ _ _ _ _ _ h)
  have c8b := decide_eq_true c8
  clear h c8
  go_wp2_with (first | (go_at_call 116; (with_reducible refine (impl_IsName.calls _ a0_0 _ _ X0.out).mono ?_); rintro e w2 ⟨rfl, ⟨q_, rfl⟩⟩; have n0_ := FX.out.drew q_; (try simp only [World.drewN_drewN] at n0_); have n_ := Aside0.mk n0_; clear FX n0_; have FX := n_; clear n_) | (go_at_call 117; (with_reducible refine (impl_ValidScale.calls _ A0_1 c0_1 l0_1 _ _ ?s1 HC1.out X1.out).mono ?_); (case s1 => exact cB HR1.out FX.out.w); rintro e w2 ⟨rfl, ⟨q_, rfl⟩⟩; have n0_ := FX.out.drew q_; (try simp only [World.drewN_drewN] at n0_); have n_ := Aside0.mk n0_; clear FX n0_; have FX := n_; clear n_) | (go_at_call 117; (with_reducible refine (impl_ValidScale.calls _ A0_2 c0_2 l0_2 _ _ ?s1 HC2.out X2.out).mono ?_); (case s1 => exact cB HR2.out FX.out.w); rintro e w2 ⟨rfl, ⟨q_, rfl⟩⟩; have n0_ := FX.out.drew q_; (try simp only [World.drewN_drewN] at n0_); have n_ := Aside0.mk n0_; clear FX n0_; have FX := n_; clear n_) | (go_at_call 95; (with_reducible refine (impl_Raga_hasTone.calls _ a0_0 A0_1 c0_1 l0_1 A0_2 c0_2 l0_2 a0_3 a0_4 A0_5 c0_5 l0_5 a0_3 _ _ ?s1 HC1.out ?s2 HC2.out ?s5 HC5.out X3.out).mono ?_); (case s1 => exact cB HR1.out FX.out.w); (case s2 => exact cB HR2.out FX.out.w); (case s5 => exact cB HR5.out FX.out.w); rintro e w2 ⟨rfl, hb⟩; have n_ := Aside0.mk (FX.out.step hb); clear FX hb z0 z1 z2 z3 z4 z5; have FX := n_; clear n_; have z0 := (kC FX.out.g 0).trans (rfl : _ = some (Value.string a0_0)); have z1 := (kC FX.out.g 1).trans (rfl : _ = some (Value.slice A0_1 l0_1.length c0_1)); have z2 := (kC FX.out.g 2).trans (rfl : _ = some (Value.slice A0_2 l0_2.length c0_2)); have z3 := (kC FX.out.g 3).trans (rfl : _ = some (Value.int .i64 a0_3)); have z4 := (kC FX.out.g 4).trans (rfl : _ = some (Value.int .i64 a0_4)); have z5 := (kC FX.out.g 5).trans (rfl : _ = some (Value.slice A0_5 l0_5.length c0_5))) | (go_at_call 95; (with_reducible refine (impl_Raga_hasTone.calls _ a0_0 A0_1 c0_1 l0_1 A0_2 c0_2 l0_2 a0_3 a0_4 A0_5 c0_5 l0_5 a0_4 _ _ ?s1 HC1.out ?s2 HC2.out ?s5 HC5.out X4.out).mono ?_); (case s1 => exact cB HR1.out FX.out.w); (case s2 => exact cB HR2.out FX.out.w); (case s5 => exact cB HR5.out FX.out.w); rintro e w2 ⟨rfl, hb⟩; have n_ := Aside0.mk (FX.out.step hb); clear FX hb z0 z1 z2 z3 z4 z5; have FX := n_; clear n_; have z0 := (kC FX.out.g 0).trans (rfl : _ = some (Value.string a0_0)); have z1 := (kC FX.out.g 1).trans (rfl : _ = some (Value.slice A0_1 l0_1.length c0_1)); have z2 := (kC FX.out.g 2).trans (rfl : _ = some (Value.slice A0_2 l0_2.length c0_2)); have z3 := (kC FX.out.g 3).trans (rfl : _ = some (Value.int .i64 a0_3)); have z4 := (kC FX.out.g 4).trans (rfl : _ = some (Value.int .i64 a0_4)); have z5 := (kC FX.out.g 5).trans (rfl : _ = some (Value.slice A0_5 l0_5.length c0_5))))
  go_ret
  exact ⟨vr_ret HE.out.symm, FX.out.w⟩
 rw [decide_eq_false c8] at h
 have c8b := decide_eq_false c8
 clear c8
 cases k with
 | zero => exact absurd h (by simp [impl_ValidRaga.j0])
 | succ k =>
 rw [impl_ValidRaga.j0, if_neg (by decide)] at h
 have HH := Aside0.mk h
 clear h
 go_wp2_with (first | (go_at_call 116; (with_reducible refine (impl_IsName.calls _ a0_0 _ _ X0.out).mono ?_); rintro e w2 ⟨rfl, ⟨q_, rfl⟩⟩; have n0_ := FX.out.drew q_; (try simp only [World.drewN_drewN] at n0_); have n_ := Aside0.mk n0_; clear FX n0_; have FX := n_; clear n_) | (go_at_call 117; (with_reducible refine (impl_ValidScale.calls _ A0_1 c0_1 l0_1 _ _ ?s1 HC1.out X1.out).mono ?_); (case s1 => exact cB HR1.out FX.out.w); rintro e w2 ⟨rfl, ⟨q_, rfl⟩⟩; have n0_ := FX.out.drew q_; (try simp only [World.drewN_drewN] at n0_); have n_ := Aside0.mk n0_; clear FX n0_; have FX := n_; clear n_) | (go_at_call 117; (with_reducible refine (impl_ValidScale.calls _ A0_2 c0_2 l0_2 _ _ ?s1 HC2.out X2.out).mono ?_); (case s1 => exact cB HR2.out FX.out.w); rintro e w2 ⟨rfl, ⟨q_, rfl⟩⟩; have n0_ := FX.out.drew q_; (try simp only [World.drewN_drewN] at n0_); have n_ := Aside0.mk n0_; clear FX n0_; have FX := n_; clear n_) | (go_at_call 95; (with_reducible refine (impl_Raga_hasTone.calls _ a0_0 A0_1 c0_1 l0_1 A0_2 c0_2 l0_2 a0_3 a0_4 A0_5 c0_5 l0_5 a0_3 _ _ ?s1 HC1.out ?s2 HC2.out ?s5 HC5.out X3.out).mono ?_); (case s1 => exact cB HR1.out FX.out.w); (case s2 => exact cB HR2.out FX.out.w); (case s5 => exact cB HR5.out FX.out.w); rintro e w2 ⟨rfl, hb⟩; have n_ := Aside0.mk (FX.out.step hb); clear FX hb z0 z1 z2 z3 z4 z5; have FX := n_; clear n_; have z0 := (kC FX.out.g 0).trans (rfl : _ = some (Value.string a0_0)); have z1 := (kC FX.out.g 1).trans (rfl : _ = some (Value.slice A0_1 l0_1.length c0_1)); have z2 := (kC FX.out.g 2).trans (rfl : _ = some (Value.slice A0_2 l0_2.length c0_2)); have z3 := (kC FX.out.g 3).trans (rfl : _ = some (Value.int .i64 a0_3)); have z4 := (kC FX.out.g 4).trans (rfl : _ = some (Value.int .i64 a0_4)); have z5 := (kC FX.out.g 5).trans (rfl : _ = some (Value.slice A0_5 l0_5.length c0_5))) | (go_at_call 95; (with_reducible refine (impl_Raga_hasTone.calls _ a0_0 A0_1 c0_1 l0_1 A0_2 c0_2 l0_2 a0_3 a0_4 A0_5 c0_5 l0_5 a0_4 _ _ ?s1 HC1.out ?s2 HC2.out ?s5 HC5.out X4.out).mono ?_); (case s1 => exact cB HR1.out FX.out.w); (case s2 => exact cB HR2.out FX.out.w); (case s5 => exact cB HR5.out FX.out.w); rintro e w2 ⟨rfl, hb⟩; have n_ := Aside0.mk (FX.out.step hb); clear FX hb z0 z1 z2 z3 z4 z5; have FX := n_; clear n_; have z0 := (kC FX.out.g 0).trans (rfl : _ = some (Value.string a0_0)); have z1 := (kC FX.out.g 1).trans (rfl : _ = some (Value.slice A0_1 l0_1.length c0_1)); have z2 := (kC FX.out.g 2).trans (rfl : _ = some (Value.slice A0_2 l0_2.length c0_2)); have z3 := (kC FX.out.g 3).trans (rfl : _ = some (Value.int .i64 a0_3)); have z4 := (kC FX.out.g 4).trans (rfl : _ = some (Value.int .i64 a0_4)); have z5 := (kC FX.out.g 5).trans (rfl : _ = some (Value.slice A0_5 l0_5.length c0_5))))
 go_loopg [51] k (fun kq v51 w' => ∃ i : Nat, v51 = .int .i64 (i : Int) ∧ i ≤ l0_5.length ∧ Aside0 (impl_ValidRaga.l0 kq l0_5 (l0_5.length : Int) (i : Int) a0_0 l0_1 l0_2 a0_3 a0_4 l0_5 = some r) ∧ Aside0 (kq ≤ k) ∧ Aside0 (Fv w w' #[.string a0_0, .slice A0_1 l0_1.length c0_1, .slice A0_2 l0_2.length c0_2, .int .i64 a0_3, .int .i64 a0_4, .slice A0_5 l0_5.length c0_5]))
 case atStart => exact ⟨0, rfl, Nat.zero_le _, HH, ⟨Nat.le_refl _⟩, FX⟩
 case round =>
  clear z0 z1 z2 z3 z4 z5 FX HH
  obtain ⟨i, rfl, hi, HA, HK, FX⟩ := hrel
  cases gk with
  | zero => exact absurd HA.out (by simp [impl_ValidRaga.l0])
  | succ k1 =>
   have h := HA.out
   clear HA
   rw [impl_ValidRaga.l0] at h
   have hn : l0_5.length ≤ 9223372036854775807 := HR5.out.2.1
   have z0 := (kC FX.out.g 0).trans (rfl : _ = some (Value.string a0_0))
   have z1 := (kC FX.out.g 1).trans (rfl : _ = some (Value.slice A0_1 l0_1.length c0_1))
   have z2 := (kC FX.out.g 2).trans (rfl : _ = some (Value.slice A0_2 l0_2.length c0_2))
   have z3 := (kC FX.out.g 3).trans (rfl : _ = some (Value.int .i64 a0_3))
   have z4 := (kC FX.out.g 4).trans (rfl : _ = some (Value.int .i64 a0_4))
   have z5 := (kC FX.out.g 5).trans (rfl : _ = some (Value.slice A0_5 l0_5.length c0_5))
   by_cases hlt : i < l0_5.length
   ·rw [if_pos (by omega), if_pos (by omega), if_pos (by omega)] at h
    obtain ⟨ad, A1, c1, e, hx, hc1, hk1⟩ := at_L2 HR5.out (i : Int) (by omega) (by omega)
    subst e
    rw [Int.toNat_natCast] at hx
    have hy := (FX.out.w.cell (World.block_lt_of_cell? w _ hx)).trans hx
    have HK1 := Aside0.mk (cB hk1 FX.out.w)
    have HCR := Aside0.mk hc1
    clear hx hk1 hc1
    by_cases h2 : ((rd_L2 l0_5 (i : Int)).length : Int) = 2
    ·rw [if_pos h2, if_pos (by omega)] at h
     have hl2 : (rd_L2 l0_5 (i : Int)).length = 2 := by omega
     obtain ⟨ad2, e2, u0, u1⟩ := two_cells HK1.out hl2
     subst e2
     rw [hl2] at hy
     clear h2
     obtain ⟨t0, y0, h⟩ := Option.bind_eq_some_iff.mp h
     have Y0 := Aside0.mk y0
     clear y0
     cases t0 with
     | false =>
      have HE := Aside0.mk (Option.some.inj h)
      clear h
      go_wp2
      go_quiet (first | (go_at_call 118; (try simp only [iW]); (with_reducible refine (impl_toneOk.calls (rd (rd_L2 l0_5 (i : Int)) 0) _ _ Y0.out).mono ?_); rintro e w' ⟨rfl, ⟨nd, rfl⟩⟩; (try first | exact ⟨rfl, _, dN⟩ | exact ⟨rfl, _, dM⟩)))
      go_wp2
      go_ret
      exact ⟨vr_ret HE.out, by first | exact FX.out.w | exact bN FX.out.w _⟩
     | true =>
     rw [if_pos rfl, if_pos (by omega)] at h
     obtain ⟨t1, y1, h⟩ := Option.bind_eq_some_iff.mp h
     have Y1 := Aside0.mk y1
     clear y1
     cases t1 with
     | false =>
      have HE := Aside0.mk (Option.some.inj h)
      clear h
      go_wp2
      go_quiet (first | (go_at_call 118; (try simp only [iW]); (with_reducible refine (impl_toneOk.calls (rd (rd_L2 l0_5 (i : Int)) 0) _ _ Y0.out).mono ?_); rintro e w' ⟨rfl, ⟨nd, rfl⟩⟩; (try first | exact ⟨rfl, _, dN⟩ | exact ⟨rfl, _, dM⟩)) | (go_at_call 118; (try simp only [iW]); (with_reducible refine (impl_toneOk.calls (rd (rd_L2 l0_5 (i : Int)) 1) _ _ Y1.out).mono ?_); rintro e w' ⟨rfl, ⟨nd, rfl⟩⟩; (try first | exact ⟨rfl, _, dN⟩ | exact ⟨rfl, _, dM⟩)))
      go_wp2
      go_ret
      exact ⟨vr_ret HE.out, by first | exact FX.out.w | exact bN FX.out.w _⟩
     | true =>
     rw [if_pos rfl] at h
     by_cases c5 : rd (rd_L2 l0_5 (i : Int)) 0 = rd (rd_L2 l0_5 (i : Int)) 1
     ·rw [if_pos c5] at h
      have HE := Aside0.mk (Option.some.inj h)
      have c5b := beq_iff_eq.2 c5
      clear h c5
      go_wp2
      go_quiet (first | (go_at_call 118; (try simp only [iW]); (with_reducible refine (impl_toneOk.calls (rd (rd_L2 l0_5 (i : Int)) 0) _ _ Y0.out).mono ?_); rintro e w' ⟨rfl, ⟨nd, rfl⟩⟩; (try first | exact ⟨rfl, _, dN⟩ | exact ⟨rfl, _, dM⟩)) | (go_at_call 118; (try simp only [iW]); (with_reducible refine (impl_toneOk.calls (rd (rd_L2 l0_5 (i : Int)) 1) _ _ Y1.out).mono ?_); rintro e w' ⟨rfl, ⟨nd, rfl⟩⟩; (try first | exact ⟨rfl, _, dN⟩ | exact ⟨rfl, _, dM⟩)))
      go_wp2
      go_ret
      exact ⟨vr_ret HE.out, by first | exact FX.out.w | exact bN FX.out.w _⟩
     ·rw [if_neg c5] at h
      have c5b := beq_eq_false_iff_ne.2 c5
      clear c5
      have ew : wrap64 ((i : Int) + 1) = ((i + 1 : Nat) : Int) := by unfold wrap64; omega
      rw [ew] at h
      clear ew
      by_cases c6 : i = 0
      ·rw [if_neg (by omega)] at h
       have HH := Aside0.mk h
       have e6 : decide ((i : Int) > 0) = false := decide_eq_false (by omega)
       have e6b : decide (0 < (i : Int)) = false := decide_eq_false (by omega)
       have e6c : decide (0 < i) = false := decide_eq_false (by omega)
       clear h c6
       go_wp2
       go_quiet (first | (go_at_call 118; (try simp only [iW]); (with_reducible refine (impl_toneOk.calls (rd (rd_L2 l0_5 (i : Int)) 0) _ _ Y0.out).mono ?_); rintro e w' ⟨rfl, ⟨nd, rfl⟩⟩; (try first | exact ⟨rfl, _, dN⟩ | exact ⟨rfl, _, dM⟩)) | (go_at_call 118; (try simp only [iW]); (with_reducible refine (impl_toneOk.calls (rd (rd_L2 l0_5 (i : Int)) 1) _ _ Y1.out).mono ?_); rintro e w' ⟨rfl, ⟨nd, rfl⟩⟩; (try first | exact ⟨rfl, _, dN⟩ | exact ⟨rfl, _, dM⟩)))
       go_wp2
       go_roundg k1
       case measure => have := HK.out; omega
       case rel => exact ⟨i + 1, by go_num, by omega, HH, ⟨by have := HK.out; omega⟩, ⟨by first | exact FX.out | exact FX.out.drew _⟩⟩
      ·have ep : wrap64 ((i : Int) - 1) = ((i - 1 : Nat) : Int) := by unfold wrap64; omega
       rw [if_pos (by omega), ep, if_pos (by omega), if_pos (by omega)] at h
       obtain ⟨t, yt, h⟩ := Option.bind_eq_some_iff.mp h
       have YT := Aside0.mk yt
       clear yt
       obtain ⟨ad3, A3, c3, e3, hx3, hc3, hk3⟩ := at_L2 HR5.out ((i - 1 : Nat) : Int) (by omega) (by omega)
       obtain rfl := Option.some.inj e3
       clear e3
       rw [Int.toNat_natCast] at hx3
       have hy3 := (FX.out.w.cell (World.block_lt_of_cell? w _ hx3)).trans hx3
       have HKP := Aside0.mk (cB hk3 FX.out.w)
       have HCP := Aside0.mk hc3
       clear hx3 hk3 hc3
       have hk2 := HK1.out
       rw [hl2] at hk2
       have HK2 := Aside0.mk hk2
       clear hk2
       have CC : ∀ W : World, Kd.C (Kd.int .i64) W A3 (rd_L2 l0_5 ((i - 1 : Nat) : Int)).length (rd_L2 l0_5 ((i - 1 : Nat) : Int)) → Kd.C (Kd.int .i64) W (some ad2) 2 (rd_L2 l0_5 (i : Int)) → Calls Try.prog 119 #[.slice A3 (rd_L2 l0_5 ((i - 1 : Nat) : Int)).length c3, .slice (some ad2) 2 c1] W (fun e w' => e = .returned (.int .i64 t) ∧ Drawn0 W w') := fun W q1 q2 => by
        have q3 := slices_Compare_int64_int64.calls k1 A3 c3 (rd_L2 l0_5 ((i - 1 : Nat) : Int)) (some ad2) c1 (rd_L2 l0_5 (i : Int)) t W q1 HCP.out (by rw [hl2]; exact q2) HCR.out YT.out
        rwa [hl2] at q3
       have eW : IntKind.i64.wrap ((i : Int) - 1) = ((i - 1 : Nat) : Int) := (iW _).trans ep
       clear ep
       have e6 : decide ((i : Int) > 0) = true := decide_eq_true (by omega)
       have e6b : decide (0 < (i : Int)) = true := decide_eq_true (by omega)
       have e6c : decide (0 < i) = true := decide_eq_true (by omega)
       have e7 : ((i - 1 : Nat) : Int) < (l0_5.length : Int) := by omega
       have e8 : (0 : Int) ≤ ((i - 1 : Nat) : Int) := by omega
       have e9 : i - 1 < l0_5.length := by omega
       by_cases c7 : t ≥ 0
       ·rw [if_pos c7] at h
        have HE := Aside0.mk (Option.some.inj h)
        have c7b := decide_eq_true c7
        clear h c7
        go_wp2
        go_quiet (first | (go_at_call 118; (try simp only [iW]); (with_reducible refine (impl_toneOk.calls (rd (rd_L2 l0_5 (i : Int)) 0) _ _ Y0.out).mono ?_); rintro e w' ⟨rfl, ⟨nd, rfl⟩⟩; (try first | exact ⟨rfl, _, dN⟩ | exact ⟨rfl, _, dM⟩)) | (go_at_call 118; (try simp only [iW]); (with_reducible refine (impl_toneOk.calls (rd (rd_L2 l0_5 (i : Int)) 1) _ _ Y1.out).mono ?_); rintro e w' ⟨rfl, ⟨nd, rfl⟩⟩; (try first | exact ⟨rfl, _, dN⟩ | exact ⟨rfl, _, dM⟩)) | (go_at_call 119; (try simp only [iW]); (with_reducible refine (CC _ ?s1 ?s3).mono ?_); (case s1 => repeat (first | exact HKP.out | (with_reducible refine cN ?_ _) | (with_reducible refine cD ?_))); (case s3 => repeat (first | exact HK2.out | (with_reducible refine cN ?_ _) | (with_reducible refine cD ?_))); rintro e w' ⟨rfl, ⟨nd, rfl⟩⟩; (try first | exact ⟨rfl, _, dN⟩ | exact ⟨rfl, _, dM⟩)))
        go_wp2
        go_ret
        exact ⟨vr_ret HE.out, by first | exact FX.out.w | exact bN FX.out.w _⟩
       ·rw [if_neg c7] at h
        have HH := Aside0.mk h
        have c7b := decide_eq_false c7
        clear h c7
        go_wp2
        go_quiet (first | (go_at_call 118; (try simp only [iW]); (with_reducible refine (impl_toneOk.calls (rd (rd_L2 l0_5 (i : Int)) 0) _ _ Y0.out).mono ?_); rintro e w' ⟨rfl, ⟨nd, rfl⟩⟩; (try first | exact ⟨rfl, _, dN⟩ | exact ⟨rfl, _, dM⟩)) | (go_at_call 118; (try simp only [iW]); (with_reducible refine (impl_toneOk.calls (rd (rd_L2 l0_5 (i : Int)) 1) _ _ Y1.out).mono ?_); rintro e w' ⟨rfl, ⟨nd, rfl⟩⟩; (try first | exact ⟨rfl, _, dN⟩ | exact ⟨rfl, _, dM⟩)) | (go_at_call 119; (try simp only [iW]); (with_reducible refine (CC _ ?s1 ?s3).mono ?_); (case s1 => repeat (first | exact HKP.out | (with_reducible refine cN ?_ _) | (with_reducible refine cD ?_))); (case s3 => repeat (first | exact HK2.out | (with_reducible refine cN ?_ _) | (with_reducible refine cD ?_))); rintro e w' ⟨rfl, ⟨nd, rfl⟩⟩; (try first | exact ⟨rfl, _, dN⟩ | exact ⟨rfl, _, dM⟩)))
        go_wp2
        go_roundg k1
        case measure => have := HK.out; omega
        case rel => exact ⟨i + 1, by go_num, by omega, HH, ⟨by have := HK.out; omega⟩, ⟨by first | exact FX.out | exact FX.out.drew _⟩⟩
    ·rw [if_neg h2] at h
     have HE := Aside0.mk (Option.some.inj h)
     have h2b := bne_iff_ne.2 h2
     have h2c := beq_eq_false_iff_ne.2 h2
     clear h h2
     go_wp2
     go_quiet (fail)
     go_wp2
     go_ret
     exact ⟨vr_ret HE.out, by first | exact FX.out.w | exact bN FX.out.w _⟩
   ·rw [if_neg (by omega)] at h
    have HE := Aside0.mk (Option.some.inj h)
    clear h
    go_wp2
    go_ret
    exact ⟨vr_ret HE.out, FX.out.w⟩


/-! ### impl_ToneOf: function 96 -/
def impl_ToneOf.f (a0 : Int) : Option (Int) := some (Int.tmod (wrap64 ((Int.tmod a0 12) + 12)) 12)
set_option maxHeartbeats 8000000 in
set_option maxRecDepth 100000 in
theorem impl_ToneOf.calls (a0 : Int) (r : Int) (w : World) (h : impl_ToneOf.f a0 = some r) :
  Calls Try.prog 96 #[.int .i64 a0] w fun e w' => e = .returned (.int .i64 r) ∧ Drawn0 w w' := by
 have H : (some (Int.tmod (wrap64 ((Int.tmod a0 12) + 12)) 12)) = some r := h
 clear h
 obtain rfl := Option.some.inj H
 go_enter Try.func96, Try.ntmps96
 go_wp2
 go_ret
 exact ⟨eT, dR⟩

/-! ### impl_abs: function 122 -/
def impl_abs.f (a0 : Int) : Option (Int) := some (mx a0 (wrap64 (-a0)))
set_option maxHeartbeats 8000000 in
set_option maxRecDepth 100000 in
theorem impl_abs.calls (a0 : Int) (r : Int) (w : World) (h : impl_abs.f a0 = some r) :
  Calls Try.prog 122 #[.int .i64 a0] w fun e w' => e = .returned (.int .i64 r) ∧ Below w.heap.size w w' := by
 have HB := Aside0.mk (Below.refl w.heap.size w)
 have H : (some (mx a0 (wrap64 (-a0)))) = some r := h
 clear h
 obtain ⟨ji2, hji2⟩ : ∃ j_ : Int, (mx a0 (wrap64 (-a0))) = j_ := ⟨_, rfl⟩
 replace H : (some ji2) = some r := by first | (rw [hji2] at H; exact H) | (simp only [hji2] at H ⊢; exact H)
 have hji2_ : (if a0 < (wrap64 (-a0)) then (wrap64 (-a0)) else a0) = ji2 := hji2
 obtain rfl := Option.some.inj H
 go_enter Try.func122, Try.ntmps122
 go_wp2
 go_ret
 exact ⟨by first | rfl | (simp [errW_none, errW_some] <;> rfl) | (simp only [← hji2]; first | rfl | (simp [errW_none, errW_some] <;> rfl)) | (simp [*, errW_none, errW_some] <;> rfl), by repeat (first | (with_reducible first | exact HB.out | apply below_alloc | apply pw_below_drewN | apply below_drew1) | exact HB.out)⟩

-- NOT PRINTED: function 133 (slices_IndexFunc_int64_int64)

-- NOT PRINTED: function 123 (slices_ContainsFunc_int64_int64)


/-! ### impl_Raga_reason: function 97 -/
def nIn (a b : Int) (p : List Int) : Bool := !(rd p 0 == a && rd p 1 == b)
def two (l : List (List Int)) : Bool := l.all fun p => p.length == 2
theorem rret_b {a b : Bool} (h : a = b) : Ending.returned (.bool a) = .returned (.bool b) := by rw [h]
theorem rall_take {α : Type} (l : List α) (p : α → Bool) (z : α) (k : Nat) (h : k < l.length) (h1 : (l.take k).all p = true) (h2 : p (l.getD k z) = true) : (l.take (k + 1)).all p = true := by
 rw [List.take_succ_eq_append_getElem h, List.all_append, h1]
 simp only [List.all_cons, List.all_nil, Bool.and_true, Bool.true_and]
 rwa [List.getD_eq_getElem?_getD, List.getElem?_eq_getElem h] at h2
theorem rall_no {α : Type} (l : List α) (p : α → Bool) (z : α) (k : Nat) (h : k < l.length) (h2 : p (l.getD k z) = false) : l.all p = false := by
 rw [List.all_eq_false]
 rw [List.getD_eq_getElem?_getD, List.getElem?_eq_getElem h] at h2
 exact ⟨_, List.getElem_mem h, by simpa using h2⟩
theorem two_at {l : List (List Int)} (h : two l = true) (k : Nat) (hk : k < l.length) : (rd_L2 l (k : Int)).length = 2 := by
 have := List.all_eq_true.1 h (l[k]) (List.getElem_mem hk)
 simp only [rd_L2, Int.toNat_natCast, List.getD_eq_getElem?_getD, List.getElem?_eq_getElem hk, Option.getD_some]
 exact beq_iff_eq.1 this
set_option maxHeartbeats 1600000 in
set_option maxRecDepth 100000 in
theorem rclo (a b : Int) (ga gb : Nat) (A0 : Option Addr) (c0 : Nat) (l : List Int) (q : Bool) (h2 : l.length = 2) (hq : (!nIn a b l) = q) (w : World) (ha : w.heap[ga]? = some (.cells #[.int .i64 a] 2 (0, 0))) (hb : w.heap[gb]? = some (.cells #[.int .i64 b] 2 (0, 0))) (hr0 : Kd.C (Kd.int .i64) w A0 l.length l) :
  Calls Try.prog 124 #[.slice A0 l.length c0, .pointer (some ⟨ga, 0, none⟩), .pointer (some ⟨gb, 0, none⟩)] w fun e w' => e = .returned (.bool q) ∧ Drawn0 w w' := by
 have h1 : w.cell? ⟨ga, 0, none⟩ = some (.int .i64 a) := (kC ha 0).trans rfl
 have h3 : w.cell? ⟨gb, 0, none⟩ = some (.int .i64 b) := (kC hb 0).trans rfl
 obtain ⟨ad, e, hx⟩ := Kd.at_int hr0 0 (by omega) (by omega)
 subst e
 obtain ⟨ad2, e2, hy⟩ := Kd.at_int hr0 1 (by omega) (by omega)
 obtain rfl := Option.some.inj e2
 clear e2
 have hx0 : w.cell? (ad.add 0) = some (.int .i64 (rd l 0)) := hx
 have hx1 : w.cell? ad = some (.int .i64 (rd l 0)) := by
  have e : ad.add 0 = ad := by cases ad; simp [Addr.add]
  rw [e] at hx0
  exact hx0
 have hy0 : w.cell? (ad.add 1) = some (.int .i64 (rd l 1)) := hy
 have hy2 : w.cell? ⟨ad.block, ad.off + 1, none⟩ = some (.int .i64 (rd l 1)) := hy0
 have HQ := Aside0.mk hq
 rw [h2]
 clear hx hy hr0 ha hb hq h2
 go_enter Try.func124, Try.ntmps124
 cases d1 : (rd l 0 == a) <;> cases d2 : (rd l 1 == b)
 all_goals
  have D1 := Aside0.mk d1
  have D2 := Aside0.mk d2
  go_wp2
  go_quiet (fail)
  go_wp2
  go_ret
  exact ⟨rret_b (by rw [← HQ.out]; simp [nIn, D1.out, D2.out]), ⟨_, rfl⟩⟩
def FoundL (l : List (List Int)) (p : List Int → Bool) (w : World) (e : Ending) (w' : World) : Prop := (∃ n : Int, e = .returned (.int .i64 n) ∧ (decide (n ≥ 0) = !l.all p)) ∧ Drawn0 w w'
set_option maxHeartbeats 1600000 in
set_option maxRecDepth 100000 in
theorem rixf (a b : Int) (ga gb : Nat) (A0 : Option Addr) (c0 : Nat) (l0 : List (List Int)) (ht : two l0 = true) (w : World) (ha : w.heap[ga]? = some (.cells #[.int .i64 a] 2 (0, 0))) (hb : w.heap[gb]? = some (.cells #[.int .i64 b] 2 (0, 0))) (hr0 : Kd.C (Kd.slice 2 (Kd.int .i64)) w A0 l0.length l0) :
  Calls Try.prog 133 #[.slice A0 l0.length c0, .func (.func 124) #[] #[.pointer (some ⟨ga, 0, none⟩), .pointer (some ⟨gb, 0, none⟩)]] w (FoundL l0 (nIn a b) w) := by
 have HR0 := Aside0.mk hr0
 have HA := Aside0.mk ha
 have HB := Aside0.mk hb
 have HT := Aside0.mk ht
 clear hr0 ha hb ht
 go_enter Try.func133, Try.ntmps133
 go_wp2
 go_loopw [8] (fun i wr => ∃ k : Nat, k ≤ l0.length ∧ i = .int .i64 k ∧ Aside0 ((l0.take k).all (nIn a b) = true) ∧ Aside0 (∃ n, wr = w.drewN n)) (fun i _ => l0.length - (intOf i).toNat)
 case atStart => exact ⟨0, Nat.zero_le _, rfl, ⟨rfl⟩, ⟨0, rfl⟩⟩
 case round =>
  obtain ⟨k, hk, rfl, HALL, ⟨⟨n, rfl⟩⟩⟩ := hrel
  have hn : l0.length ≤ 9223372036854775807 := HR0.out.2.1
  by_cases hlt : k < l0.length
  ·obtain ⟨ad, A1, c1, e, hx, hc1, hk1⟩ := at_L2 HR0.out (k : Int) (by omega) (by omega)
   subst e
   have hx' : (w.drewN n).cell? (ad.add k) = some (.slice A1 (rd_L2 l0 k).length c1) := hx
   have HK1 := Aside0.mk hk1
   have H2 := Aside0.mk (two_at HT.out k hlt)
   clear hx hk1
   cases hp : nIn a b (rd_L2 l0 k)
   ·have HP := Aside0.mk hp
    clear hp
    go_wp2_with (go_at_call 124; refine (rclo a b ga gb A1 c1 (rd_L2 l0 k) true H2.out (by rw [HP.out]; rfl) (w.drewN n) HA.out HB.out (cN HK1.out _)).mono ?_; rintro e w' ⟨rfl, ⟨q, rfl⟩⟩)
    go_ret
    exact ⟨⟨k, rfl, by rw [rall_no l0 (nIn a b) ([] : List Int) k hlt HP.out]; exact decide_eq_true (Int.natCast_nonneg k)⟩, ⟨_, rfl⟩⟩
   ·have HP := Aside0.mk hp
    clear hp
    go_wp2_with (go_at_call 124; refine (rclo a b ga gb A1 c1 (rd_L2 l0 k) false H2.out (by rw [HP.out]; rfl) (w.drewN n) HA.out HB.out (cN HK1.out _)).mono ?_; rintro e w' ⟨rfl, ⟨q, rfl⟩⟩)
    go_roundw
    case rel => exact ⟨k + 1, by omega, by go_num, ⟨rall_take l0 _ ([] : List Int) k hlt HALL.out HP.out⟩, ⟨_, rfl⟩⟩
    case measure => simp [intOf]; omega
  ·go_wp2
   go_ret
   exact ⟨⟨-1, rfl, by
    have := HALL.out
    rw [List.take_of_length_le (by omega)] at this
    rw [this]
    rfl⟩, ⟨_, rfl⟩⟩
set_option maxHeartbeats 800000 in
theorem rcnf (a b : Int) (ga gb : Nat) (A0 : Option Addr) (c0 : Nat) (l0 : List (List Int)) (ht : two l0 = true) (w : World) (ha : w.heap[ga]? = some (.cells #[.int .i64 a] 2 (0, 0))) (hb : w.heap[gb]? = some (.cells #[.int .i64 b] 2 (0, 0))) (hr0 : Kd.C (Kd.slice 2 (Kd.int .i64)) w A0 l0.length l0) :
  Calls Try.prog 123 #[.slice A0 l0.length c0, .func (.func 124) #[] #[.pointer (some ⟨ga, 0, none⟩), .pointer (some ⟨gb, 0, none⟩)]] w fun e w' => e = .returned (.bool (!l0.all (nIn a b))) ∧ Drawn0 w w' := by
 have HR0 := Aside0.mk hr0
 have HA := Aside0.mk ha
 have HB := Aside0.mk hb
 have HT := Aside0.mk ht
 clear hr0 ha hb ht
 go_enter Try.func123, Try.ntmps123
 go_wp2_with (go_at_call 133; refine (rixf a b ga gb A0 c0 l0 HT.out _ HA.out HB.out HR0.out).mono ?_; rintro e w' ⟨⟨n, rfl, hn⟩, ⟨q, rfl⟩⟩; have HN := Aside0.mk hn; clear hn)
 all_goals
  go_ret
  refine ⟨rret_b ?_, ⟨_, rfl⟩⟩
  rw [← HN.out]
  try first | rfl | simp | (simp; omega)
structure Fx (w W : World) (G : Array Value) (a b : Int) : Prop where
 g : W.heap[w.heap.size]? = some (.cells G 58 (0, 0))
 a : W.heap[w.heap.size + 1]? = some (.cells #[.int .i64 a] 2 (0, 0))
 b : W.heap[w.heap.size + 1 + 1]? = some (.cells #[.int .i64 b] 2 (0, 0))
 w : Below w.heap.size w W
theorem Fx.step {w W W' : World} {G : Array Value} {a b : Int} (h : Fx w W G a b) (hb : Below W.heap.size W W') : Fx w W' G a b where
 g := (hb.block _ (Array.getElem?_eq_some_iff.1 h.g).1).trans h.g
 a := (hb.block _ (Array.getElem?_eq_some_iff.1 h.a).1).trans h.a
 b := (hb.block _ (Array.getElem?_eq_some_iff.1 h.b).1).trans h.b
 w := bP h.w hb
theorem Fx.start (w : World) (G : Array Value) (a b : Int) (n : Nat) : Fx w ((((w.alloc (.cells G 58)).drewN n).alloc (.cells #[.int .i64 a] 2)).alloc (.cells #[.int .i64 b] 2)) G a b where
 g := kA (kA (w := (w.alloc (.cells G 58)).drewN n) (heap_alloc_new w _) _) _
 a := kA (by simpa using heap_alloc_new ((w.alloc (.cells G 58)).drewN n) (.cells #[.int .i64 a] 2)) _
 b := by simpa using heap_alloc_new (((w.alloc (.cells G 58)).drewN n).alloc (.cells #[.int .i64 a] 2)) (.cells #[.int .i64 b] 2)
 w := bA (bA (bN (bA (Below.refl _ _) _) _) _) _
theorem Fx.drew {w W : World} {G : Array Value} {a b : Int} (h : Fx w W G a b) (n : Nat) : Fx w (W.drewN n) G a b := ⟨h.g, h.a, h.b, bN h.w _⟩
theorem gw_ {P : Program} {c : Code} {Q : Exit → Act → World → Prop} {a : Act} {W : World} (F : World → Prop) (h : F W) (H : ∀ W', F W' → Code.wp P c Q a W') : Code.wp P c Q a W := H W h
def wrOne (a b from_ to_ : Int) (ub db ha hb pf : Bool) : Int := if ha = false ∨ hb = false then 1 else if mx (wrap64 (from_ - to_)) (wrap64 (-(wrap64 (from_ - to_)))) > 12 then 2 else if to_ > from_ ∧ ub = false then 3 else if to_ < from_ ∧ db = false then 4 else if pf = false then 5 else 0
def tn (x : Int) : Int := Int.tmod (wrap64 (Int.tmod x 12 + 12)) 12
def impl_Raga_reason.f (k : Nat) (a0_0 : ByteArray) (l0_1 : List Int) (l0_2 : List Int) (a0_3 : Int) (a0_4 : Int) (l0_5 : List (List Int)) (a1 : Int) (a2 : Int) : Option (Int) := if two l0_5 = true then (impl_Raga_hasTone.f k a0_0 l0_1 l0_2 a0_3 a0_4 l0_5 (tn a1)).bind fun ha => (impl_Raga_hasTone.f k a0_0 l0_1 l0_2 a0_3 a0_4 l0_5 (tn a2)).bind fun hb => (slices_Contains_int64_int64.f k l0_1 (tn a2)).bind fun ub => (slices_Contains_int64_int64.f k l0_2 (tn a2)).bind fun db => some (wrOne (tn a1) (tn a2) a1 a2 ub db ha hb (l0_5.all (nIn (tn a1) (tn a2)))) else none
theorem impl_Raga_reason.mono : ∀ a0 a1 a2 a3 a4 a5 a6 a7 k, LeO (impl_Raga_reason.f k a0 a1 a2 a3 a4 a5 a6 a7) (impl_Raga_reason.f (k + 1) a0 a1 a2 a3 a4 a5 a6 a7) := fun _ _ _ _ _ _ _ _ _ => LeO.ite (LeO.bind (impl_Raga_hasTone.mono _ _ _ _ _ _ _ _) fun _ => LeO.bind (impl_Raga_hasTone.mono _ _ _ _ _ _ _ _) fun _ => LeO.bind (slices_Contains_int64_int64.mono _ _ _) fun _ => LeO.bind (slices_Contains_int64_int64.mono _ _ _) fun _ => LeO.refl _) (LeO.refl _)
set_option maxHeartbeats 1000000 in
set_option maxRecDepth 100000 in
theorem impl_Raga_reason.calls (k : Nat) (a0_0 : ByteArray) (A0_1 : Option Addr) (c0_1 : Nat) (l0_1 : List Int) (A0_2 : Option Addr) (c0_2 : Nat) (l0_2 : List Int) (a0_3 : Int) (a0_4 : Int) (A0_5 : Option Addr) (c0_5 : Nat) (l0_5 : List (List Int)) (a1 : Int) (a2 : Int) (r : Int) (w : World) (hr0_1 : Kd.C (Kd.int .i64) w A0_1 l0_1.length l0_1) (hc0_1 : l0_1.length ≤ c0_1) (hr0_2 : Kd.C (Kd.int .i64) w A0_2 l0_2.length l0_2) (hc0_2 : l0_2.length ≤ c0_2) (hr0_5 : Kd.C (Kd.slice 2 (Kd.int .i64)) w A0_5 l0_5.length l0_5) (hc0_5 : l0_5.length ≤ c0_5) (h : impl_Raga_reason.f k a0_0 l0_1 l0_2 a0_3 a0_4 l0_5 a1 a2 = some r) :
  Calls Try.prog 97 #[.agg #[.string a0_0, .slice A0_1 l0_1.length c0_1, .slice A0_2 l0_2.length c0_2, .int .i64 a0_3, .int .i64 a0_4, .slice A0_5 l0_5.length c0_5], .int .i64 a1, .int .i64 a2] w fun e w' => e = .returned (.int .i64 r) ∧ Below w.heap.size w w' := by
 have hu := Try.underlying58
 have HR1 := Aside0.mk hr0_1
 have HC1 := Aside0.mk hc0_1
 have HR2 := Aside0.mk hr0_2
 have HC2 := Aside0.mk hc0_2
 have HR5 := Aside0.mk hr0_5
 have HC5 := Aside0.mk hc0_5
 unfold impl_Raga_reason.f at h
 split at h
 case isFalse => exact absurd h (by simp)
 rename_i ht
 have HT := Aside0.mk ht
 obtain ⟨ha, xa, h⟩ := Option.bind_eq_some_iff.mp h
 obtain ⟨hb, xb, h⟩ := Option.bind_eq_some_iff.mp h
 obtain ⟨ub, xu, h⟩ := Option.bind_eq_some_iff.mp h
 obtain ⟨db, xd, h⟩ := Option.bind_eq_some_iff.mp h
 have XA := Aside0.mk xa
 have XB := Aside0.mk xb
 have XU := Aside0.mk xu
 have XD := Aside0.mk xd
 have HE := Aside0.mk (Option.some.inj h)
 clear hr0_1 hc0_1 hr0_2 hc0_2 hr0_5 hc0_5 h ht xa xb xu xd
 go_enter Try.func97, Try.ntmps97
 go_upto_region 2 with (go_at_call 96; refine (impl_ToneOf.calls _ _ _ rfl).mono ?_; rintro e w' ⟨rfl, ⟨q, rfl⟩⟩)
 refine gw_ (fun W => Fx w W #[.string a0_0, .slice A0_1 l0_1.length c0_1, .slice A0_2 l0_2.length c0_2, .int .i64 a0_3, .int .i64 a0_4, .slice A0_5 l0_5.length c0_5] (tn a1) (tn a2)) (Fx.start _ _ _ _ _) ?_
 intro wx fx
 have FX := Aside0.mk fx
 clear fx
 have z0 := (kC FX.out.g 0).trans (rfl : _ = some (Value.string a0_0))
 have z1 := (kC FX.out.g 1).trans (rfl : _ = some (Value.slice A0_1 l0_1.length c0_1))
 have z2 := (kC FX.out.g 2).trans (rfl : _ = some (Value.slice A0_2 l0_2.length c0_2))
 have z3 := (kC FX.out.g 3).trans (rfl : _ = some (Value.int .i64 a0_3))
 have z4 := (kC FX.out.g 4).trans (rfl : _ = some (Value.int .i64 a0_4))
 have z5 := (kC FX.out.g 5).trans (rfl : _ = some (Value.slice A0_5 l0_5.length c0_5))
 have z6 := (kC FX.out.a 0).trans (rfl : _ = some (Value.int .i64 (tn a1)))
 have z7 := (kC FX.out.b 0).trans (rfl : _ = some (Value.int .i64 (tn a2)))
 cases ha with
 | false =>
  go_wp2_with (first
   | (go_at_call 95; (with_reducible refine (impl_Raga_hasTone.calls k a0_0 A0_1 c0_1 l0_1 A0_2 c0_2 l0_2 a0_3 a0_4 A0_5 c0_5 l0_5 (tn a1) _ _ ?s1 HC1.out ?s2 HC2.out ?s5 HC5.out XA.out).mono ?_); (case s1 => exact cB HR1.out FX.out.w); (case s2 => exact cB HR2.out FX.out.w); (case s5 => exact cB HR5.out FX.out.w); rintro e w2 ⟨rfl, hb⟩; have n_ := Aside0.mk (FX.out.step hb); clear FX hb z0 z1 z2 z3 z4 z5 z6 z7; have FX := n_; clear n_; have z0 := (kC FX.out.g 0).trans (rfl : _ = some (Value.string a0_0)); have z1 := (kC FX.out.g 1).trans (rfl : _ = some (Value.slice A0_1 l0_1.length c0_1)); have z2 := (kC FX.out.g 2).trans (rfl : _ = some (Value.slice A0_2 l0_2.length c0_2)); have z3 := (kC FX.out.g 3).trans (rfl : _ = some (Value.int .i64 a0_3)); have z4 := (kC FX.out.g 4).trans (rfl : _ = some (Value.int .i64 a0_4)); have z5 := (kC FX.out.g 5).trans (rfl : _ = some (Value.slice A0_5 l0_5.length c0_5)); have z6 := (kC FX.out.a 0).trans (rfl : _ = some (Value.int .i64 (tn a1))); have z7 := (kC FX.out.b 0).trans (rfl : _ = some (Value.int .i64 (tn a2))))
   | (go_at_call 95; (with_reducible refine (impl_Raga_hasTone.calls k a0_0 A0_1 c0_1 l0_1 A0_2 c0_2 l0_2 a0_3 a0_4 A0_5 c0_5 l0_5 (tn a2) _ _ ?s1 HC1.out ?s2 HC2.out ?s5 HC5.out XB.out).mono ?_); (case s1 => exact cB HR1.out FX.out.w); (case s2 => exact cB HR2.out FX.out.w); (case s5 => exact cB HR5.out FX.out.w); rintro e w2 ⟨rfl, hb⟩; have n_ := Aside0.mk (FX.out.step hb); clear FX hb z0 z1 z2 z3 z4 z5 z6 z7; have FX := n_; clear n_; have z0 := (kC FX.out.g 0).trans (rfl : _ = some (Value.string a0_0)); have z1 := (kC FX.out.g 1).trans (rfl : _ = some (Value.slice A0_1 l0_1.length c0_1)); have z2 := (kC FX.out.g 2).trans (rfl : _ = some (Value.slice A0_2 l0_2.length c0_2)); have z3 := (kC FX.out.g 3).trans (rfl : _ = some (Value.int .i64 a0_3)); have z4 := (kC FX.out.g 4).trans (rfl : _ = some (Value.int .i64 a0_4)); have z5 := (kC FX.out.g 5).trans (rfl : _ = some (Value.slice A0_5 l0_5.length c0_5)); have z6 := (kC FX.out.a 0).trans (rfl : _ = some (Value.int .i64 (tn a1))); have z7 := (kC FX.out.b 0).trans (rfl : _ = some (Value.int .i64 (tn a2))))
   | (go_at_call 122; (with_reducible refine (impl_abs.calls _ _ _ rfl).mono ?_); rintro e w2 ⟨rfl, hb⟩; have n_ := Aside0.mk (FX.out.step hb); clear FX hb z0 z1 z2 z3 z4 z5 z6 z7; have FX := n_; clear n_; have z0 := (kC FX.out.g 0).trans (rfl : _ = some (Value.string a0_0)); have z1 := (kC FX.out.g 1).trans (rfl : _ = some (Value.slice A0_1 l0_1.length c0_1)); have z2 := (kC FX.out.g 2).trans (rfl : _ = some (Value.slice A0_2 l0_2.length c0_2)); have z3 := (kC FX.out.g 3).trans (rfl : _ = some (Value.int .i64 a0_3)); have z4 := (kC FX.out.g 4).trans (rfl : _ = some (Value.int .i64 a0_4)); have z5 := (kC FX.out.g 5).trans (rfl : _ = some (Value.slice A0_5 l0_5.length c0_5)); have z6 := (kC FX.out.a 0).trans (rfl : _ = some (Value.int .i64 (tn a1))); have z7 := (kC FX.out.b 0).trans (rfl : _ = some (Value.int .i64 (tn a2))))
   | (go_at_call 108; (with_reducible refine (slices_Contains_int64_int64.calls k A0_1 c0_1 l0_1 (tn a2) _ _ ?s1 HC1.out XU.out).mono ?_); (case s1 => exact cB HR1.out FX.out.w); rintro e w2 ⟨rfl, ⟨q_, rfl⟩⟩; have n_ := Aside0.mk (FX.out.drew q_); clear FX; have FX := n_; clear n_)
   | (go_at_call 108; (with_reducible refine (slices_Contains_int64_int64.calls k A0_2 c0_2 l0_2 (tn a2) _ _ ?s1 HC2.out XD.out).mono ?_); (case s1 => exact cB HR2.out FX.out.w); rintro e w2 ⟨rfl, ⟨q_, rfl⟩⟩; have n_ := Aside0.mk (FX.out.drew q_); clear FX; have FX := n_; clear n_)
   | (go_at_call 123; (with_reducible refine (rcnf (tn a1) (tn a2) _ _ A0_5 c0_5 l0_5 HT.out _ FX.out.a FX.out.b (cB HR5.out FX.out.w)).mono ?_); rintro e w2 ⟨rfl, ⟨q_, rfl⟩⟩; have n_ := Aside0.mk (FX.out.drew q_); clear FX; have FX := n_; clear n_))
  go_ret
  exact ⟨by rw [← HE.out]; simp [wrOne], by first | exact FX.out.w | (have z := FX.out.w; simp only [World.drewN_drewN] at z; exact z)⟩
 | true =>
 cases hb with
 | false =>
  go_wp2_with (first
   | (go_at_call 95; (with_reducible refine (impl_Raga_hasTone.calls k a0_0 A0_1 c0_1 l0_1 A0_2 c0_2 l0_2 a0_3 a0_4 A0_5 c0_5 l0_5 (tn a1) _ _ ?s1 HC1.out ?s2 HC2.out ?s5 HC5.out XA.out).mono ?_); (case s1 => exact cB HR1.out FX.out.w); (case s2 => exact cB HR2.out FX.out.w); (case s5 => exact cB HR5.out FX.out.w); rintro e w2 ⟨rfl, hb⟩; have n_ := Aside0.mk (FX.out.step hb); clear FX hb z0 z1 z2 z3 z4 z5 z6 z7; have FX := n_; clear n_; have z0 := (kC FX.out.g 0).trans (rfl : _ = some (Value.string a0_0)); have z1 := (kC FX.out.g 1).trans (rfl : _ = some (Value.slice A0_1 l0_1.length c0_1)); have z2 := (kC FX.out.g 2).trans (rfl : _ = some (Value.slice A0_2 l0_2.length c0_2)); have z3 := (kC FX.out.g 3).trans (rfl : _ = some (Value.int .i64 a0_3)); have z4 := (kC FX.out.g 4).trans (rfl : _ = some (Value.int .i64 a0_4)); have z5 := (kC FX.out.g 5).trans (rfl : _ = some (Value.slice A0_5 l0_5.length c0_5)); have z6 := (kC FX.out.a 0).trans (rfl : _ = some (Value.int .i64 (tn a1))); have z7 := (kC FX.out.b 0).trans (rfl : _ = some (Value.int .i64 (tn a2))))
   | (go_at_call 95; (with_reducible refine (impl_Raga_hasTone.calls k a0_0 A0_1 c0_1 l0_1 A0_2 c0_2 l0_2 a0_3 a0_4 A0_5 c0_5 l0_5 (tn a2) _ _ ?s1 HC1.out ?s2 HC2.out ?s5 HC5.out XB.out).mono ?_); (case s1 => exact cB HR1.out FX.out.w); (case s2 => exact cB HR2.out FX.out.w); (case s5 => exact cB HR5.out FX.out.w); rintro e w2 ⟨rfl, hb⟩; have n_ := Aside0.mk (FX.out.step hb); clear FX hb z0 z1 z2 z3 z4 z5 z6 z7; have FX := n_; clear n_; have z0 := (kC FX.out.g 0).trans (rfl : _ = some (Value.string a0_0)); have z1 := (kC FX.out.g 1).trans (rfl : _ = some (Value.slice A0_1 l0_1.length c0_1)); have z2 := (kC FX.out.g 2).trans (rfl : _ = some (Value.slice A0_2 l0_2.length c0_2)); have z3 := (kC FX.out.g 3).trans (rfl : _ = some (Value.int .i64 a0_3)); have z4 := (kC FX.out.g 4).trans (rfl : _ = some (Value.int .i64 a0_4)); have z5 := (kC FX.out.g 5).trans (rfl : _ = some (Value.slice A0_5 l0_5.length c0_5)); have z6 := (kC FX.out.a 0).trans (rfl : _ = some (Value.int .i64 (tn a1))); have z7 := (kC FX.out.b 0).trans (rfl : _ = some (Value.int .i64 (tn a2))))
   | (go_at_call 122; (with_reducible refine (impl_abs.calls _ _ _ rfl).mono ?_); rintro e w2 ⟨rfl, hb⟩; have n_ := Aside0.mk (FX.out.step hb); clear FX hb z0 z1 z2 z3 z4 z5 z6 z7; have FX := n_; clear n_; have z0 := (kC FX.out.g 0).trans (rfl : _ = some (Value.string a0_0)); have z1 := (kC FX.out.g 1).trans (rfl : _ = some (Value.slice A0_1 l0_1.length c0_1)); have z2 := (kC FX.out.g 2).trans (rfl : _ = some (Value.slice A0_2 l0_2.length c0_2)); have z3 := (kC FX.out.g 3).trans (rfl : _ = some (Value.int .i64 a0_3)); have z4 := (kC FX.out.g 4).trans (rfl : _ = some (Value.int .i64 a0_4)); have z5 := (kC FX.out.g 5).trans (rfl : _ = some (Value.slice A0_5 l0_5.length c0_5)); have z6 := (kC FX.out.a 0).trans (rfl : _ = some (Value.int .i64 (tn a1))); have z7 := (kC FX.out.b 0).trans (rfl : _ = some (Value.int .i64 (tn a2))))
   | (go_at_call 108; (with_reducible refine (slices_Contains_int64_int64.calls k A0_1 c0_1 l0_1 (tn a2) _ _ ?s1 HC1.out XU.out).mono ?_); (case s1 => exact cB HR1.out FX.out.w); rintro e w2 ⟨rfl, ⟨q_, rfl⟩⟩; have n_ := Aside0.mk (FX.out.drew q_); clear FX; have FX := n_; clear n_)
   | (go_at_call 108; (with_reducible refine (slices_Contains_int64_int64.calls k A0_2 c0_2 l0_2 (tn a2) _ _ ?s1 HC2.out XD.out).mono ?_); (case s1 => exact cB HR2.out FX.out.w); rintro e w2 ⟨rfl, ⟨q_, rfl⟩⟩; have n_ := Aside0.mk (FX.out.drew q_); clear FX; have FX := n_; clear n_)
   | (go_at_call 123; (with_reducible refine (rcnf (tn a1) (tn a2) _ _ A0_5 c0_5 l0_5 HT.out _ FX.out.a FX.out.b (cB HR5.out FX.out.w)).mono ?_); rintro e w2 ⟨rfl, ⟨q_, rfl⟩⟩; have n_ := Aside0.mk (FX.out.drew q_); clear FX; have FX := n_; clear n_))
  go_ret
  exact ⟨by rw [← HE.out]; simp [wrOne], by first | exact FX.out.w | (have z := FX.out.w; simp only [World.drewN_drewN] at z; exact z)⟩
 | true =>
 by_cases hl : mx (wrap64 (a1 - a2)) (wrap64 (-(wrap64 (a1 - a2)))) > 12
 ·have hl1 := decide_eq_true hl
  have HL := Aside0.mk hl
  go_wp2_with (first
   | (go_at_call 95; (with_reducible refine (impl_Raga_hasTone.calls k a0_0 A0_1 c0_1 l0_1 A0_2 c0_2 l0_2 a0_3 a0_4 A0_5 c0_5 l0_5 (tn a1) _ _ ?s1 HC1.out ?s2 HC2.out ?s5 HC5.out XA.out).mono ?_); (case s1 => exact cB HR1.out FX.out.w); (case s2 => exact cB HR2.out FX.out.w); (case s5 => exact cB HR5.out FX.out.w); rintro e w2 ⟨rfl, hb⟩; have n_ := Aside0.mk (FX.out.step hb); clear FX hb z0 z1 z2 z3 z4 z5 z6 z7; have FX := n_; clear n_; have z0 := (kC FX.out.g 0).trans (rfl : _ = some (Value.string a0_0)); have z1 := (kC FX.out.g 1).trans (rfl : _ = some (Value.slice A0_1 l0_1.length c0_1)); have z2 := (kC FX.out.g 2).trans (rfl : _ = some (Value.slice A0_2 l0_2.length c0_2)); have z3 := (kC FX.out.g 3).trans (rfl : _ = some (Value.int .i64 a0_3)); have z4 := (kC FX.out.g 4).trans (rfl : _ = some (Value.int .i64 a0_4)); have z5 := (kC FX.out.g 5).trans (rfl : _ = some (Value.slice A0_5 l0_5.length c0_5)); have z6 := (kC FX.out.a 0).trans (rfl : _ = some (Value.int .i64 (tn a1))); have z7 := (kC FX.out.b 0).trans (rfl : _ = some (Value.int .i64 (tn a2))))
   | (go_at_call 95; (with_reducible refine (impl_Raga_hasTone.calls k a0_0 A0_1 c0_1 l0_1 A0_2 c0_2 l0_2 a0_3 a0_4 A0_5 c0_5 l0_5 (tn a2) _ _ ?s1 HC1.out ?s2 HC2.out ?s5 HC5.out XB.out).mono ?_); (case s1 => exact cB HR1.out FX.out.w); (case s2 => exact cB HR2.out FX.out.w); (case s5 => exact cB HR5.out FX.out.w); rintro e w2 ⟨rfl, hb⟩; have n_ := Aside0.mk (FX.out.step hb); clear FX hb z0 z1 z2 z3 z4 z5 z6 z7; have FX := n_; clear n_; have z0 := (kC FX.out.g 0).trans (rfl : _ = some (Value.string a0_0)); have z1 := (kC FX.out.g 1).trans (rfl : _ = some (Value.slice A0_1 l0_1.length c0_1)); have z2 := (kC FX.out.g 2).trans (rfl : _ = some (Value.slice A0_2 l0_2.length c0_2)); have z3 := (kC FX.out.g 3).trans (rfl : _ = some (Value.int .i64 a0_3)); have z4 := (kC FX.out.g 4).trans (rfl : _ = some (Value.int .i64 a0_4)); have z5 := (kC FX.out.g 5).trans (rfl : _ = some (Value.slice A0_5 l0_5.length c0_5)); have z6 := (kC FX.out.a 0).trans (rfl : _ = some (Value.int .i64 (tn a1))); have z7 := (kC FX.out.b 0).trans (rfl : _ = some (Value.int .i64 (tn a2))))
   | (go_at_call 122; (with_reducible refine (impl_abs.calls _ _ _ rfl).mono ?_); rintro e w2 ⟨rfl, hb⟩; have n_ := Aside0.mk (FX.out.step hb); clear FX hb z0 z1 z2 z3 z4 z5 z6 z7; have FX := n_; clear n_; have z0 := (kC FX.out.g 0).trans (rfl : _ = some (Value.string a0_0)); have z1 := (kC FX.out.g 1).trans (rfl : _ = some (Value.slice A0_1 l0_1.length c0_1)); have z2 := (kC FX.out.g 2).trans (rfl : _ = some (Value.slice A0_2 l0_2.length c0_2)); have z3 := (kC FX.out.g 3).trans (rfl : _ = some (Value.int .i64 a0_3)); have z4 := (kC FX.out.g 4).trans (rfl : _ = some (Value.int .i64 a0_4)); have z5 := (kC FX.out.g 5).trans (rfl : _ = some (Value.slice A0_5 l0_5.length c0_5)); have z6 := (kC FX.out.a 0).trans (rfl : _ = some (Value.int .i64 (tn a1))); have z7 := (kC FX.out.b 0).trans (rfl : _ = some (Value.int .i64 (tn a2))))
   | (go_at_call 108; (with_reducible refine (slices_Contains_int64_int64.calls k A0_1 c0_1 l0_1 (tn a2) _ _ ?s1 HC1.out XU.out).mono ?_); (case s1 => exact cB HR1.out FX.out.w); rintro e w2 ⟨rfl, ⟨q_, rfl⟩⟩; have n_ := Aside0.mk (FX.out.drew q_); clear FX; have FX := n_; clear n_)
   | (go_at_call 108; (with_reducible refine (slices_Contains_int64_int64.calls k A0_2 c0_2 l0_2 (tn a2) _ _ ?s1 HC2.out XD.out).mono ?_); (case s1 => exact cB HR2.out FX.out.w); rintro e w2 ⟨rfl, ⟨q_, rfl⟩⟩; have n_ := Aside0.mk (FX.out.drew q_); clear FX; have FX := n_; clear n_)
   | (go_at_call 123; (with_reducible refine (rcnf (tn a1) (tn a2) _ _ A0_5 c0_5 l0_5 HT.out _ FX.out.a FX.out.b (cB HR5.out FX.out.w)).mono ?_); rintro e w2 ⟨rfl, ⟨q_, rfl⟩⟩; have n_ := Aside0.mk (FX.out.drew q_); clear FX; have FX := n_; clear n_))
  go_ret
  exact ⟨by rw [← HE.out]; have h_HL := HL.out; simp [wrOne] <;> (repeat' split) <;> first | rfl | omega | simp_all, by first | exact FX.out.w | (have z := FX.out.w; simp only [World.drewN_drewN] at z; exact z)⟩
 ·have hl1 := decide_eq_false hl
  have HL := Aside0.mk hl
  by_cases hg : a2 > a1
  ·have hg1 := decide_eq_true hg
   have hg2 : ¬ a2 < a1 := by omega
   have hg3 := decide_eq_false hg2
   have HG := Aside0.mk hg
   have HG2 := Aside0.mk hg2
   cases ub with
   | false =>
    go_wp2_with (first
   | (go_at_call 95; (with_reducible refine (impl_Raga_hasTone.calls k a0_0 A0_1 c0_1 l0_1 A0_2 c0_2 l0_2 a0_3 a0_4 A0_5 c0_5 l0_5 (tn a1) _ _ ?s1 HC1.out ?s2 HC2.out ?s5 HC5.out XA.out).mono ?_); (case s1 => exact cB HR1.out FX.out.w); (case s2 => exact cB HR2.out FX.out.w); (case s5 => exact cB HR5.out FX.out.w); rintro e w2 ⟨rfl, hb⟩; have n_ := Aside0.mk (FX.out.step hb); clear FX hb z0 z1 z2 z3 z4 z5 z6 z7; have FX := n_; clear n_; have z0 := (kC FX.out.g 0).trans (rfl : _ = some (Value.string a0_0)); have z1 := (kC FX.out.g 1).trans (rfl : _ = some (Value.slice A0_1 l0_1.length c0_1)); have z2 := (kC FX.out.g 2).trans (rfl : _ = some (Value.slice A0_2 l0_2.length c0_2)); have z3 := (kC FX.out.g 3).trans (rfl : _ = some (Value.int .i64 a0_3)); have z4 := (kC FX.out.g 4).trans (rfl : _ = some (Value.int .i64 a0_4)); have z5 := (kC FX.out.g 5).trans (rfl : _ = some (Value.slice A0_5 l0_5.length c0_5)); have z6 := (kC FX.out.a 0).trans (rfl : _ = some (Value.int .i64 (tn a1))); have z7 := (kC FX.out.b 0).trans (rfl : _ = some (Value.int .i64 (tn a2))))
   | (go_at_call 95; (with_reducible refine (impl_Raga_hasTone.calls k a0_0 A0_1 c0_1 l0_1 A0_2 c0_2 l0_2 a0_3 a0_4 A0_5 c0_5 l0_5 (tn a2) _ _ ?s1 HC1.out ?s2 HC2.out ?s5 HC5.out XB.out).mono ?_); (case s1 => exact cB HR1.out FX.out.w); (case s2 => exact cB HR2.out FX.out.w); (case s5 => exact cB HR5.out FX.out.w); rintro e w2 ⟨rfl, hb⟩; have n_ := Aside0.mk (FX.out.step hb); clear FX hb z0 z1 z2 z3 z4 z5 z6 z7; have FX := n_; clear n_; have z0 := (kC FX.out.g 0).trans (rfl : _ = some (Value.string a0_0)); have z1 := (kC FX.out.g 1).trans (rfl : _ = some (Value.slice A0_1 l0_1.length c0_1)); have z2 := (kC FX.out.g 2).trans (rfl : _ = some (Value.slice A0_2 l0_2.length c0_2)); have z3 := (kC FX.out.g 3).trans (rfl : _ = some (Value.int .i64 a0_3)); have z4 := (kC FX.out.g 4).trans (rfl : _ = some (Value.int .i64 a0_4)); have z5 := (kC FX.out.g 5).trans (rfl : _ = some (Value.slice A0_5 l0_5.length c0_5)); have z6 := (kC FX.out.a 0).trans (rfl : _ = some (Value.int .i64 (tn a1))); have z7 := (kC FX.out.b 0).trans (rfl : _ = some (Value.int .i64 (tn a2))))
   | (go_at_call 122; (with_reducible refine (impl_abs.calls _ _ _ rfl).mono ?_); rintro e w2 ⟨rfl, hb⟩; have n_ := Aside0.mk (FX.out.step hb); clear FX hb z0 z1 z2 z3 z4 z5 z6 z7; have FX := n_; clear n_; have z0 := (kC FX.out.g 0).trans (rfl : _ = some (Value.string a0_0)); have z1 := (kC FX.out.g 1).trans (rfl : _ = some (Value.slice A0_1 l0_1.length c0_1)); have z2 := (kC FX.out.g 2).trans (rfl : _ = some (Value.slice A0_2 l0_2.length c0_2)); have z3 := (kC FX.out.g 3).trans (rfl : _ = some (Value.int .i64 a0_3)); have z4 := (kC FX.out.g 4).trans (rfl : _ = some (Value.int .i64 a0_4)); have z5 := (kC FX.out.g 5).trans (rfl : _ = some (Value.slice A0_5 l0_5.length c0_5)); have z6 := (kC FX.out.a 0).trans (rfl : _ = some (Value.int .i64 (tn a1))); have z7 := (kC FX.out.b 0).trans (rfl : _ = some (Value.int .i64 (tn a2))))
   | (go_at_call 108; (with_reducible refine (slices_Contains_int64_int64.calls k A0_1 c0_1 l0_1 (tn a2) _ _ ?s1 HC1.out XU.out).mono ?_); (case s1 => exact cB HR1.out FX.out.w); rintro e w2 ⟨rfl, ⟨q_, rfl⟩⟩; have n_ := Aside0.mk (FX.out.drew q_); clear FX; have FX := n_; clear n_)
   | (go_at_call 108; (with_reducible refine (slices_Contains_int64_int64.calls k A0_2 c0_2 l0_2 (tn a2) _ _ ?s1 HC2.out XD.out).mono ?_); (case s1 => exact cB HR2.out FX.out.w); rintro e w2 ⟨rfl, ⟨q_, rfl⟩⟩; have n_ := Aside0.mk (FX.out.drew q_); clear FX; have FX := n_; clear n_)
   | (go_at_call 123; (with_reducible refine (rcnf (tn a1) (tn a2) _ _ A0_5 c0_5 l0_5 HT.out _ FX.out.a FX.out.b (cB HR5.out FX.out.w)).mono ?_); rintro e w2 ⟨rfl, ⟨q_, rfl⟩⟩; have n_ := Aside0.mk (FX.out.drew q_); clear FX; have FX := n_; clear n_))
    go_ret
    exact ⟨by rw [← HE.out]; have h_HL := HL.out; have h_HG := HG.out; have h_HG2 := HG2.out; simp [wrOne] <;> (repeat' split) <;> first | rfl | omega | simp_all, by first | exact FX.out.w | (have z := FX.out.w; simp only [World.drewN_drewN] at z; exact z)⟩
   | true =>
   cases hp : l0_5.all (nIn (tn a1) (tn a2))
   all_goals
    have HP := Aside0.mk hp
    rw [hp] at HE
    go_wp2_with (first
   | (go_at_call 95; (with_reducible refine (impl_Raga_hasTone.calls k a0_0 A0_1 c0_1 l0_1 A0_2 c0_2 l0_2 a0_3 a0_4 A0_5 c0_5 l0_5 (tn a1) _ _ ?s1 HC1.out ?s2 HC2.out ?s5 HC5.out XA.out).mono ?_); (case s1 => exact cB HR1.out FX.out.w); (case s2 => exact cB HR2.out FX.out.w); (case s5 => exact cB HR5.out FX.out.w); rintro e w2 ⟨rfl, hb⟩; have n_ := Aside0.mk (FX.out.step hb); clear FX hb z0 z1 z2 z3 z4 z5 z6 z7; have FX := n_; clear n_; have z0 := (kC FX.out.g 0).trans (rfl : _ = some (Value.string a0_0)); have z1 := (kC FX.out.g 1).trans (rfl : _ = some (Value.slice A0_1 l0_1.length c0_1)); have z2 := (kC FX.out.g 2).trans (rfl : _ = some (Value.slice A0_2 l0_2.length c0_2)); have z3 := (kC FX.out.g 3).trans (rfl : _ = some (Value.int .i64 a0_3)); have z4 := (kC FX.out.g 4).trans (rfl : _ = some (Value.int .i64 a0_4)); have z5 := (kC FX.out.g 5).trans (rfl : _ = some (Value.slice A0_5 l0_5.length c0_5)); have z6 := (kC FX.out.a 0).trans (rfl : _ = some (Value.int .i64 (tn a1))); have z7 := (kC FX.out.b 0).trans (rfl : _ = some (Value.int .i64 (tn a2))))
   | (go_at_call 95; (with_reducible refine (impl_Raga_hasTone.calls k a0_0 A0_1 c0_1 l0_1 A0_2 c0_2 l0_2 a0_3 a0_4 A0_5 c0_5 l0_5 (tn a2) _ _ ?s1 HC1.out ?s2 HC2.out ?s5 HC5.out XB.out).mono ?_); (case s1 => exact cB HR1.out FX.out.w); (case s2 => exact cB HR2.out FX.out.w); (case s5 => exact cB HR5.out FX.out.w); rintro e w2 ⟨rfl, hb⟩; have n_ := Aside0.mk (FX.out.step hb); clear FX hb z0 z1 z2 z3 z4 z5 z6 z7; have FX := n_; clear n_; have z0 := (kC FX.out.g 0).trans (rfl : _ = some (Value.string a0_0)); have z1 := (kC FX.out.g 1).trans (rfl : _ = some (Value.slice A0_1 l0_1.length c0_1)); have z2 := (kC FX.out.g 2).trans (rfl : _ = some (Value.slice A0_2 l0_2.length c0_2)); have z3 := (kC FX.out.g 3).trans (rfl : _ = some (Value.int .i64 a0_3)); have z4 := (kC FX.out.g 4).trans (rfl : _ = some (Value.int .i64 a0_4)); have z5 := (kC FX.out.g 5).trans (rfl : _ = some (Value.slice A0_5 l0_5.length c0_5)); have z6 := (kC FX.out.a 0).trans (rfl : _ = some (Value.int .i64 (tn a1))); have z7 := (kC FX.out.b 0).trans (rfl : _ = some (Value.int .i64 (tn a2))))
   | (go_at_call 122; (with_reducible refine (impl_abs.calls _ _ _ rfl).mono ?_); rintro e w2 ⟨rfl, hb⟩; have n_ := Aside0.mk (FX.out.step hb); clear FX hb z0 z1 z2 z3 z4 z5 z6 z7; have FX := n_; clear n_; have z0 := (kC FX.out.g 0).trans (rfl : _ = some (Value.string a0_0)); have z1 := (kC FX.out.g 1).trans (rfl : _ = some (Value.slice A0_1 l0_1.length c0_1)); have z2 := (kC FX.out.g 2).trans (rfl : _ = some (Value.slice A0_2 l0_2.length c0_2)); have z3 := (kC FX.out.g 3).trans (rfl : _ = some (Value.int .i64 a0_3)); have z4 := (kC FX.out.g 4).trans (rfl : _ = some (Value.int .i64 a0_4)); have z5 := (kC FX.out.g 5).trans (rfl : _ = some (Value.slice A0_5 l0_5.length c0_5)); have z6 := (kC FX.out.a 0).trans (rfl : _ = some (Value.int .i64 (tn a1))); have z7 := (kC FX.out.b 0).trans (rfl : _ = some (Value.int .i64 (tn a2))))
   | (go_at_call 108; (with_reducible refine (slices_Contains_int64_int64.calls k A0_1 c0_1 l0_1 (tn a2) _ _ ?s1 HC1.out XU.out).mono ?_); (case s1 => exact cB HR1.out FX.out.w); rintro e w2 ⟨rfl, ⟨q_, rfl⟩⟩; have n_ := Aside0.mk (FX.out.drew q_); clear FX; have FX := n_; clear n_)
   | (go_at_call 108; (with_reducible refine (slices_Contains_int64_int64.calls k A0_2 c0_2 l0_2 (tn a2) _ _ ?s1 HC2.out XD.out).mono ?_); (case s1 => exact cB HR2.out FX.out.w); rintro e w2 ⟨rfl, ⟨q_, rfl⟩⟩; have n_ := Aside0.mk (FX.out.drew q_); clear FX; have FX := n_; clear n_)
   | (go_at_call 123; (with_reducible refine (rcnf (tn a1) (tn a2) _ _ A0_5 c0_5 l0_5 HT.out _ FX.out.a FX.out.b (cB HR5.out FX.out.w)).mono ?_); rintro e w2 ⟨rfl, ⟨q_, rfl⟩⟩; have n_ := Aside0.mk (FX.out.drew q_); clear FX; have FX := n_; clear n_))
    go_ret
    exact ⟨by rw [← HE.out]; have h_HL := HL.out; have h_HG := HG.out; have h_HG2 := HG2.out; have h_P := HP.out; simp [wrOne] <;> (repeat' split) <;> first | rfl | omega | simp_all, by first | exact FX.out.w | (have z := FX.out.w; simp only [World.drewN_drewN] at z; exact z)⟩
  ·have hg1 := decide_eq_false hg
   have HG := Aside0.mk hg
   by_cases hk : a2 < a1
   ·have hk1 := decide_eq_true hk
    have HK := Aside0.mk hk
    cases db with
    | false =>
     go_wp2_with (first
   | (go_at_call 95; (with_reducible refine (impl_Raga_hasTone.calls k a0_0 A0_1 c0_1 l0_1 A0_2 c0_2 l0_2 a0_3 a0_4 A0_5 c0_5 l0_5 (tn a1) _ _ ?s1 HC1.out ?s2 HC2.out ?s5 HC5.out XA.out).mono ?_); (case s1 => exact cB HR1.out FX.out.w); (case s2 => exact cB HR2.out FX.out.w); (case s5 => exact cB HR5.out FX.out.w); rintro e w2 ⟨rfl, hb⟩; have n_ := Aside0.mk (FX.out.step hb); clear FX hb z0 z1 z2 z3 z4 z5 z6 z7; have FX := n_; clear n_; have z0 := (kC FX.out.g 0).trans (rfl : _ = some (Value.string a0_0)); have z1 := (kC FX.out.g 1).trans (rfl : _ = some (Value.slice A0_1 l0_1.length c0_1)); have z2 := (kC FX.out.g 2).trans (rfl : _ = some (Value.slice A0_2 l0_2.length c0_2)); have z3 := (kC FX.out.g 3).trans (rfl : _ = some (Value.int .i64 a0_3)); have z4 := (kC FX.out.g 4).trans (rfl : _ = some (Value.int .i64 a0_4)); have z5 := (kC FX.out.g 5).trans (rfl : _ = some (Value.slice A0_5 l0_5.length c0_5)); have z6 := (kC FX.out.a 0).trans (rfl : _ = some (Value.int .i64 (tn a1))); have z7 := (kC FX.out.b 0).trans (rfl : _ = some (Value.int .i64 (tn a2))))
   | (go_at_call 95; (with_reducible refine (impl_Raga_hasTone.calls k a0_0 A0_1 c0_1 l0_1 A0_2 c0_2 l0_2 a0_3 a0_4 A0_5 c0_5 l0_5 (tn a2) _ _ ?s1 HC1.out ?s2 HC2.out ?s5 HC5.out XB.out).mono ?_); (case s1 => exact cB HR1.out FX.out.w); (case s2 => exact cB HR2.out FX.out.w); (case s5 => exact cB HR5.out FX.out.w); rintro e w2 ⟨rfl, hb⟩; have n_ := Aside0.mk (FX.out.step hb); clear FX hb z0 z1 z2 z3 z4 z5 z6 z7; have FX := n_; clear n_; have z0 := (kC FX.out.g 0).trans (rfl : _ = some (Value.string a0_0)); have z1 := (kC FX.out.g 1).trans (rfl : _ = some (Value.slice A0_1 l0_1.length c0_1)); have z2 := (kC FX.out.g 2).trans (rfl : _ = some (Value.slice A0_2 l0_2.length c0_2)); have z3 := (kC FX.out.g 3).trans (rfl : _ = some (Value.int .i64 a0_3)); have z4 := (kC FX.out.g 4).trans (rfl : _ = some (Value.int .i64 a0_4)); have z5 := (kC FX.out.g 5).trans (rfl : _ = some (Value.slice A0_5 l0_5.length c0_5)); have z6 := (kC FX.out.a 0).trans (rfl : _ = some (Value.int .i64 (tn a1))); have z7 := (kC FX.out.b 0).trans (rfl : _ = some (Value.int .i64 (tn a2))))
   | (go_at_call 122; (with_reducible refine (impl_abs.calls _ _ _ rfl).mono ?_); rintro e w2 ⟨rfl, hb⟩; have n_ := Aside0.mk (FX.out.step hb); clear FX hb z0 z1 z2 z3 z4 z5 z6 z7; have FX := n_; clear n_; have z0 := (kC FX.out.g 0).trans (rfl : _ = some (Value.string a0_0)); have z1 := (kC FX.out.g 1).trans (rfl : _ = some (Value.slice A0_1 l0_1.length c0_1)); have z2 := (kC FX.out.g 2).trans (rfl : _ = some (Value.slice A0_2 l0_2.length c0_2)); have z3 := (kC FX.out.g 3).trans (rfl : _ = some (Value.int .i64 a0_3)); have z4 := (kC FX.out.g 4).trans (rfl : _ = some (Value.int .i64 a0_4)); have z5 := (kC FX.out.g 5).trans (rfl : _ = some (Value.slice A0_5 l0_5.length c0_5)); have z6 := (kC FX.out.a 0).trans (rfl : _ = some (Value.int .i64 (tn a1))); have z7 := (kC FX.out.b 0).trans (rfl : _ = some (Value.int .i64 (tn a2))))
   | (go_at_call 108; (with_reducible refine (slices_Contains_int64_int64.calls k A0_1 c0_1 l0_1 (tn a2) _ _ ?s1 HC1.out XU.out).mono ?_); (case s1 => exact cB HR1.out FX.out.w); rintro e w2 ⟨rfl, ⟨q_, rfl⟩⟩; have n_ := Aside0.mk (FX.out.drew q_); clear FX; have FX := n_; clear n_)
   | (go_at_call 108; (with_reducible refine (slices_Contains_int64_int64.calls k A0_2 c0_2 l0_2 (tn a2) _ _ ?s1 HC2.out XD.out).mono ?_); (case s1 => exact cB HR2.out FX.out.w); rintro e w2 ⟨rfl, ⟨q_, rfl⟩⟩; have n_ := Aside0.mk (FX.out.drew q_); clear FX; have FX := n_; clear n_)
   | (go_at_call 123; (with_reducible refine (rcnf (tn a1) (tn a2) _ _ A0_5 c0_5 l0_5 HT.out _ FX.out.a FX.out.b (cB HR5.out FX.out.w)).mono ?_); rintro e w2 ⟨rfl, ⟨q_, rfl⟩⟩; have n_ := Aside0.mk (FX.out.drew q_); clear FX; have FX := n_; clear n_))
     go_ret
     exact ⟨by rw [← HE.out]; have h_HL := HL.out; have h_HG := HG.out; have h_HK := HK.out; simp [wrOne] <;> (repeat' split) <;> first | rfl | omega | simp_all, by first | exact FX.out.w | (have z := FX.out.w; simp only [World.drewN_drewN] at z; exact z)⟩
    | true =>
    cases hp : l0_5.all (nIn (tn a1) (tn a2))
    all_goals
     have HP := Aside0.mk hp
     rw [hp] at HE
     go_wp2_with (first
   | (go_at_call 95; (with_reducible refine (impl_Raga_hasTone.calls k a0_0 A0_1 c0_1 l0_1 A0_2 c0_2 l0_2 a0_3 a0_4 A0_5 c0_5 l0_5 (tn a1) _ _ ?s1 HC1.out ?s2 HC2.out ?s5 HC5.out XA.out).mono ?_); (case s1 => exact cB HR1.out FX.out.w); (case s2 => exact cB HR2.out FX.out.w); (case s5 => exact cB HR5.out FX.out.w); rintro e w2 ⟨rfl, hb⟩; have n_ := Aside0.mk (FX.out.step hb); clear FX hb z0 z1 z2 z3 z4 z5 z6 z7; have FX := n_; clear n_; have z0 := (kC FX.out.g 0).trans (rfl : _ = some (Value.string a0_0)); have z1 := (kC FX.out.g 1).trans (rfl : _ = some (Value.slice A0_1 l0_1.length c0_1)); have z2 := (kC FX.out.g 2).trans (rfl : _ = some (Value.slice A0_2 l0_2.length c0_2)); have z3 := (kC FX.out.g 3).trans (rfl : _ = some (Value.int .i64 a0_3)); have z4 := (kC FX.out.g 4).trans (rfl : _ = some (Value.int .i64 a0_4)); have z5 := (kC FX.out.g 5).trans (rfl : _ = some (Value.slice A0_5 l0_5.length c0_5)); have z6 := (kC FX.out.a 0).trans (rfl : _ = some (Value.int .i64 (tn a1))); have z7 := (kC FX.out.b 0).trans (rfl : _ = some (Value.int .i64 (tn a2))))
   | (go_at_call 95; (with_reducible refine (impl_Raga_hasTone.calls k a0_0 A0_1 c0_1 l0_1 A0_2 c0_2 l0_2 a0_3 a0_4 A0_5 c0_5 l0_5 (tn a2) _ _ ?s1 HC1.out ?s2 HC2.out ?s5 HC5.out XB.out).mono ?_); (case s1 => exact cB HR1.out FX.out.w); (case s2 => exact cB HR2.out FX.out.w); (case s5 => exact cB HR5.out FX.out.w); rintro e w2 ⟨rfl, hb⟩; have n_ := Aside0.mk (FX.out.step hb); clear FX hb z0 z1 z2 z3 z4 z5 z6 z7; have FX := n_; clear n_; have z0 := (kC FX.out.g 0).trans (rfl : _ = some (Value.string a0_0)); have z1 := (kC FX.out.g 1).trans (rfl : _ = some (Value.slice A0_1 l0_1.length c0_1)); have z2 := (kC FX.out.g 2).trans (rfl : _ = some (Value.slice A0_2 l0_2.length c0_2)); have z3 := (kC FX.out.g 3).trans (rfl : _ = some (Value.int .i64 a0_3)); have z4 := (kC FX.out.g 4).trans (rfl : _ = some (Value.int .i64 a0_4)); have z5 := (kC FX.out.g 5).trans (rfl : _ = some (Value.slice A0_5 l0_5.length c0_5)); have z6 := (kC FX.out.a 0).trans (rfl : _ = some (Value.int .i64 (tn a1))); have z7 := (kC FX.out.b 0).trans (rfl : _ = some (Value.int .i64 (tn a2))))
   | (go_at_call 122; (with_reducible refine (impl_abs.calls _ _ _ rfl).mono ?_); rintro e w2 ⟨rfl, hb⟩; have n_ := Aside0.mk (FX.out.step hb); clear FX hb z0 z1 z2 z3 z4 z5 z6 z7; have FX := n_; clear n_; have z0 := (kC FX.out.g 0).trans (rfl : _ = some (Value.string a0_0)); have z1 := (kC FX.out.g 1).trans (rfl : _ = some (Value.slice A0_1 l0_1.length c0_1)); have z2 := (kC FX.out.g 2).trans (rfl : _ = some (Value.slice A0_2 l0_2.length c0_2)); have z3 := (kC FX.out.g 3).trans (rfl : _ = some (Value.int .i64 a0_3)); have z4 := (kC FX.out.g 4).trans (rfl : _ = some (Value.int .i64 a0_4)); have z5 := (kC FX.out.g 5).trans (rfl : _ = some (Value.slice A0_5 l0_5.length c0_5)); have z6 := (kC FX.out.a 0).trans (rfl : _ = some (Value.int .i64 (tn a1))); have z7 := (kC FX.out.b 0).trans (rfl : _ = some (Value.int .i64 (tn a2))))
   | (go_at_call 108; (with_reducible refine (slices_Contains_int64_int64.calls k A0_1 c0_1 l0_1 (tn a2) _ _ ?s1 HC1.out XU.out).mono ?_); (case s1 => exact cB HR1.out FX.out.w); rintro e w2 ⟨rfl, ⟨q_, rfl⟩⟩; have n_ := Aside0.mk (FX.out.drew q_); clear FX; have FX := n_; clear n_)
   | (go_at_call 108; (with_reducible refine (slices_Contains_int64_int64.calls k A0_2 c0_2 l0_2 (tn a2) _ _ ?s1 HC2.out XD.out).mono ?_); (case s1 => exact cB HR2.out FX.out.w); rintro e w2 ⟨rfl, ⟨q_, rfl⟩⟩; have n_ := Aside0.mk (FX.out.drew q_); clear FX; have FX := n_; clear n_)
   | (go_at_call 123; (with_reducible refine (rcnf (tn a1) (tn a2) _ _ A0_5 c0_5 l0_5 HT.out _ FX.out.a FX.out.b (cB HR5.out FX.out.w)).mono ?_); rintro e w2 ⟨rfl, ⟨q_, rfl⟩⟩; have n_ := Aside0.mk (FX.out.drew q_); clear FX; have FX := n_; clear n_))
     go_ret
     exact ⟨by rw [← HE.out]; have h_HL := HL.out; have h_HG := HG.out; have h_HK := HK.out; have h_P := HP.out; simp [wrOne] <;> (repeat' split) <;> first | rfl | omega | simp_all, by first | exact FX.out.w | (have z := FX.out.w; simp only [World.drewN_drewN] at z; exact z)⟩
   ·have hk1 := decide_eq_false hk
    have HK := Aside0.mk hk
    have hg4 := Int.not_lt.1 hg
    have hk4 := Int.not_lt.1 hk
    have he : a1 = a2 := by omega
    have HQ := Aside0.mk he
    clear he hg hk hg4 hk4
    cases hp : l0_5.all (nIn (tn a1) (tn a2))
    all_goals
     have HP := Aside0.mk hp
     rw [hp] at HE
     go_wp2_with (first
   | (go_at_call 95; (with_reducible refine (impl_Raga_hasTone.calls k a0_0 A0_1 c0_1 l0_1 A0_2 c0_2 l0_2 a0_3 a0_4 A0_5 c0_5 l0_5 (tn a1) _ _ ?s1 HC1.out ?s2 HC2.out ?s5 HC5.out XA.out).mono ?_); (case s1 => exact cB HR1.out FX.out.w); (case s2 => exact cB HR2.out FX.out.w); (case s5 => exact cB HR5.out FX.out.w); rintro e w2 ⟨rfl, hb⟩; have n_ := Aside0.mk (FX.out.step hb); clear FX hb z0 z1 z2 z3 z4 z5 z6 z7; have FX := n_; clear n_; have z0 := (kC FX.out.g 0).trans (rfl : _ = some (Value.string a0_0)); have z1 := (kC FX.out.g 1).trans (rfl : _ = some (Value.slice A0_1 l0_1.length c0_1)); have z2 := (kC FX.out.g 2).trans (rfl : _ = some (Value.slice A0_2 l0_2.length c0_2)); have z3 := (kC FX.out.g 3).trans (rfl : _ = some (Value.int .i64 a0_3)); have z4 := (kC FX.out.g 4).trans (rfl : _ = some (Value.int .i64 a0_4)); have z5 := (kC FX.out.g 5).trans (rfl : _ = some (Value.slice A0_5 l0_5.length c0_5)); have z6 := (kC FX.out.a 0).trans (rfl : _ = some (Value.int .i64 (tn a1))); have z7 := (kC FX.out.b 0).trans (rfl : _ = some (Value.int .i64 (tn a2))))
   | (go_at_call 95; (with_reducible refine (impl_Raga_hasTone.calls k a0_0 A0_1 c0_1 l0_1 A0_2 c0_2 l0_2 a0_3 a0_4 A0_5 c0_5 l0_5 (tn a2) _ _ ?s1 HC1.out ?s2 HC2.out ?s5 HC5.out XB.out).mono ?_); (case s1 => exact cB HR1.out FX.out.w); (case s2 => exact cB HR2.out FX.out.w); (case s5 => exact cB HR5.out FX.out.w); rintro e w2 ⟨rfl, hb⟩; have n_ := Aside0.mk (FX.out.step hb); clear FX hb z0 z1 z2 z3 z4 z5 z6 z7; have FX := n_; clear n_; have z0 := (kC FX.out.g 0).trans (rfl : _ = some (Value.string a0_0)); have z1 := (kC FX.out.g 1).trans (rfl : _ = some (Value.slice A0_1 l0_1.length c0_1)); have z2 := (kC FX.out.g 2).trans (rfl : _ = some (Value.slice A0_2 l0_2.length c0_2)); have z3 := (kC FX.out.g 3).trans (rfl : _ = some (Value.int .i64 a0_3)); have z4 := (kC FX.out.g 4).trans (rfl : _ = some (Value.int .i64 a0_4)); have z5 := (kC FX.out.g 5).trans (rfl : _ = some (Value.slice A0_5 l0_5.length c0_5)); have z6 := (kC FX.out.a 0).trans (rfl : _ = some (Value.int .i64 (tn a1))); have z7 := (kC FX.out.b 0).trans (rfl : _ = some (Value.int .i64 (tn a2))))
   | (go_at_call 122; (with_reducible refine (impl_abs.calls _ _ _ rfl).mono ?_); rintro e w2 ⟨rfl, hb⟩; have n_ := Aside0.mk (FX.out.step hb); clear FX hb z0 z1 z2 z3 z4 z5 z6 z7; have FX := n_; clear n_; have z0 := (kC FX.out.g 0).trans (rfl : _ = some (Value.string a0_0)); have z1 := (kC FX.out.g 1).trans (rfl : _ = some (Value.slice A0_1 l0_1.length c0_1)); have z2 := (kC FX.out.g 2).trans (rfl : _ = some (Value.slice A0_2 l0_2.length c0_2)); have z3 := (kC FX.out.g 3).trans (rfl : _ = some (Value.int .i64 a0_3)); have z4 := (kC FX.out.g 4).trans (rfl : _ = some (Value.int .i64 a0_4)); have z5 := (kC FX.out.g 5).trans (rfl : _ = some (Value.slice A0_5 l0_5.length c0_5)); have z6 := (kC FX.out.a 0).trans (rfl : _ = some (Value.int .i64 (tn a1))); have z7 := (kC FX.out.b 0).trans (rfl : _ = some (Value.int .i64 (tn a2))))
   | (go_at_call 108; (with_reducible refine (slices_Contains_int64_int64.calls k A0_1 c0_1 l0_1 (tn a2) _ _ ?s1 HC1.out XU.out).mono ?_); (case s1 => exact cB HR1.out FX.out.w); rintro e w2 ⟨rfl, ⟨q_, rfl⟩⟩; have n_ := Aside0.mk (FX.out.drew q_); clear FX; have FX := n_; clear n_)
   | (go_at_call 108; (with_reducible refine (slices_Contains_int64_int64.calls k A0_2 c0_2 l0_2 (tn a2) _ _ ?s1 HC2.out XD.out).mono ?_); (case s1 => exact cB HR2.out FX.out.w); rintro e w2 ⟨rfl, ⟨q_, rfl⟩⟩; have n_ := Aside0.mk (FX.out.drew q_); clear FX; have FX := n_; clear n_)
   | (go_at_call 123; (with_reducible refine (rcnf (tn a1) (tn a2) _ _ A0_5 c0_5 l0_5 HT.out _ FX.out.a FX.out.b (cB HR5.out FX.out.w)).mono ?_); rintro e w2 ⟨rfl, ⟨q_, rfl⟩⟩; have n_ := Aside0.mk (FX.out.drew q_); clear FX; have FX := n_; clear n_))
     go_ret
     exact ⟨by rw [← HE.out]; have h_HL := HL.out; have h_HG := HG.out; have h_HK := HK.out; have h_P := HP.out; simp [wrOne] <;> (repeat' split) <;> first | rfl | omega | simp_all, by first | exact FX.out.w | (have z := FX.out.w; simp only [World.drewN_drewN] at z; exact z)⟩

end Go.Proofs.Ytijbhcalknfijaa.M7
-- shrunk
-- tight
