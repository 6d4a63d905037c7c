/- What functions of the given program compute, as plain Lean functions, and that the code comes to just that; by a program of this session over the kit's print. No condition. -/
import Derived.Test.YtlmeijlandogaaaDoorTight
import Derived.Test.YtlmeijlandogaaaDoorMakeC
import Derived.Test.YtlmeijlandogaaaDoorRx0
import Derived.Test.YtlmeijlandogaaaDoorRx7
import Derived.Test.YtlmeijlandogaaaDoorRx10
namespace Go.Proofs.YtlmeijlandogaaaDoor.R
open Go.RowKit Go.Proofs.YtlmeijlandogaaaDoorW.PrintWords Go.Proofs.YtlmeijlandogaaaDoorW.PrintLast Go.Proofs.YtlmeijlandogaaaDoorW.PrintMore
open Go.Proofs.YtlmeijlandogaaaDoorW.PrintWords renaming below_alloc → bA, pw_below_drewN → bN, below_drew1 → bD, below_size → bZ, below_step → bP, gate_callee → gC, below_set → bS, blk_drewN → kN, blk_drew → kD, blk_alloc → kA, blk_below → kB, blk_far → kF, blk_lt → kL, box_event → bE, blk_cell → kC
open Go.Proofs.YtlmeijlandogaaaDoorW.PrintWords.Kd renaming R_alloc → rA, R_drewN → rN, R_drew → rD, C_alloc → cA, C_drewN → cN, C_drew → cD, R_lower → rL, R_below → rB, C_below → cB, R_mono → rM, R_elder' → rE, R_new' → rW, R_lt → rT
open Go.Proofs.YtlmeijlandogaaaDoorW.PrintLast renaming take_ofW → tW, one_of → oO, i64_w → iW, i32_w → jW
open List renaming setIfInBounds_toArray → sI, set_cons_zero → sZ, set_cons_succ → sS
open Bool renaming true → T, false → F
attribute [local go_sem] max2_int min2_int max_two min_two max_three min_three max_four min_four   -- for this text's walks alone
set_option linter.unusedVariables false
set_option linter.unusedSimpArgs false

/-! ### strings_Join: function 52 -/
def strings_Join.f (l0 : List ByteArray) (a1 : ByteArray) : Option ByteArray := if l0.length ≤ 140737488355328 ∧ (Lib.join (l0.map (·.data.toList)) a1.data.toList).length ≤ 140737488355328 then some ⟨(Lib.join (l0.map (·.data.toList)) a1.data.toList).toArray⟩ else none
theorem strings_Join.spot_ {w : World} {a : Addr} {v : Value} (h : w.cell? a = some v) : a.spot = none := by
 unfold World.cell? at h
 split at h
 ·split at h
  ·cases h
  ·rename_i hs
   simpa using hs
 ·cases h
set_option maxHeartbeats 4000000 in
set_option maxRecDepth 100000 in
theorem strings_Join.calls (A0 : Option Addr) (c0 : Nat) (l0 : List ByteArray) (a1 : ByteArray) (r : ByteArray) (w : World) (hr0 : Kd.C Kd.string w A0 l0.length l0) (hc0 : l0.length ≤ c0) (h : strings_Join.f l0 a1 = some r) :
  Calls Tryd.prog 52 #[.slice A0 l0.length c0, .string a1] w fun e w' => e = .returned (.string r) ∧ Below w.heap.size w w' := by
 by_cases c : l0.length ≤ 140737488355328 ∧ (Lib.join (l0.map (·.data.toList)) a1.data.toList).length ≤ 140737488355328
 ·have hr : r = ⟨(Lib.join (l0.map (·.data.toList)) a1.data.toList).toArray⟩ := by unfold strings_Join.f at h; rw [if_pos c] at h; exact (Option.some.inj h).symm
  subst hr
  cases l0 with
  | nil => exact (Tryd.strings_Join_none A0 c0 a1 w).mono fun e w' ⟨he, hw⟩ => ⟨he, hw ▸ Below.refl _ _⟩
  | cons x xs =>
   obtain ⟨ad, rfl, hx⟩ := Kd.at_string hr0 0 (by omega) (by simp)
   have hs : ad.spot = none := strings_Join.spot_ hx
   obtain ⟨bk, o, sp⟩ := ad
   obtain rfl : sp = none := hs
   refine Tryd.strings_Join bk o c0 (x :: xs) a1 w ?_ (World.block_lt_of_cell? _ _ hx) c.1 hc0 c.2
   intro j y hy
   have hj : j < (x :: xs).length := by
    rcases Nat.lt_or_ge j (x :: xs).length with q | q
    ·exact q
    ·rw [List.getElem?_eq_none q] at hy; cases hy
   obtain ⟨ad', e', hx'⟩ := Kd.at_string hr0 (j : Int) (by omega) (by omega)
   obtain rfl := (Option.some.inj e').symm
   have e2 : rdOf ByteArray.empty (x :: xs) (j : Int) = y := by
    unfold rdOf
    rw [List.getD_eq_getElem?_getD, Int.toNat_natCast, hy]
    rfl
   rw [e2] at hx'
   rcases Nat.eq_zero_or_pos j with c0 | c0
   ·subst c0; simpa [Addr.add] using hx'
   ·simpa [Addr.add, Nat.ne_of_gt c0] using hx'
 ·unfold strings_Join.f at h
  rw [if_neg c] at h
  cases h

/-! ### impl_Decimal: function 78 -/
def impl_Decimal.f (a0 : Int) : Option ByteArray := if -9223372036854775808 ≤ a0 ∧ a0 ≤ 9223372036854775807 then some ⟨(Lib.itoa a0).toArray⟩ else none
set_option maxHeartbeats 4000000 in
set_option maxRecDepth 100000 in
theorem impl_Decimal.calls (a0 : Int) (r : ByteArray) (w : World) (hT : TabR w) (h : impl_Decimal.f a0 = some r) :
  Calls Tryd.prog 78 #[.int .i64 a0] w fun e w' => e = .returned (.string r) ∧ Below w.heap.size w w' := by
 by_cases c : -9223372036854775808 ≤ a0 ∧ a0 ≤ 9223372036854775807
 ·have hr : r = ⟨(Lib.itoa a0).toArray⟩ := by unfold impl_Decimal.f at h; rw [if_pos c] at h; exact (Option.some.inj h).symm
  obtain ⟨h0, h1⟩ := c
  clear h
  subst hr
  go_enter Tryd.func78, Tryd.ntmps78
  go_wp2_with (go_at_call 108; refine (Tryd.strconv_FormatInt_10 a0 h0 h1 _ hT.pow).mono ?_; rintro e w' ⟨rfl, kd, os, rfl⟩)
  go_ret
  exact ⟨rfl, below_drewgrow _ kd os⟩
 ·unfold impl_Decimal.f at h
  rw [if_neg c] at h
  cases h

/-! ### impl_ListText: function 51 -/
def impl_ListText.l0 : Nat → List ByteArray → List Int → Int → Int → Option (ByteArray)
 | 0, _, _, _, _ => none
 | k + 1, x3, x15, x16, x17 => if x17 < x16 then (if 0 ≤ x17 then (if x17 < (x15.length : Int) then ((impl_within.f (rd x15 x17) (-1000000000000) 1000000000000).bind fun t208 => (if t208 = true then ((impl_Decimal.f (rd x15 x17)).bind fun t209 => (if x3.length < 8796093022208 then (impl_ListText.l0 k (x3 ++ [t209]) x15 x16 (wrap64 (x17 + 1))) else (none))) else (some (⟨#[]⟩ : ByteArray)))) else (none)) else (none)) else ((strings_Join.f x3 (⟨#[44]⟩ : ByteArray)).bind fun t206 => (some t206))
def impl_ListText.f (k : Nat) (l0 : List Int) : Option (ByteArray) := if (l0.length : Int) > 64 then (some (⟨#[]⟩ : ByteArray)) else (if (l0.length : Int) = 0 then (some (⟨#[45]⟩ : ByteArray)) else (if 0 ≤ (l0.length : Int) then (if ((l0.length : Int) : Int).toNat ≤ 17592186044416 then (impl_ListText.l0 k (List.replicate 0 (⟨#[]⟩ : ByteArray)) l0 (l0.length : Int) 0) else (none)) else (none)))
theorem impl_ListText.mono_l : ∀ k, (∀ y0 y1 y2 y3, LeO (impl_ListText.l0 k y0 y1 y2 y3) (impl_ListText.l0 (k + 1) y0 y1 y2 y3))
 | 0 => fun _ _ _ _ r h => by simp [impl_ListText.l0] at h
 | k + 1 => by
  have ih0 := impl_ListText.mono_l k
  ·intro y0 y1 y2 y3
   unfold impl_ListText.l0
   repeat' first
   | (with_reducible exact ih0 _ _ _ _)
   | (with_reducible exact LeO.refl _)
   | (with_reducible exact LeO.none _)
   | (with_reducible refine LeO.ite ?_ ?_)
   | (with_reducible refine LeO.bind ?_ (fun _ => ?_))
   | exact ih0 _ _ _ _
   | exact LeO.none _
   | refine LeO.ite ?_ ?_
   | refine LeO.bind ?_ (fun _ => ?_)
theorem impl_ListText.mono : ∀ a0 k, LeO (impl_ListText.f k a0) (impl_ListText.f (k + 1) a0) := by
 intro a0 k
 have ih0 := impl_ListText.mono_l k
 unfold impl_ListText.f
 repeat' first
   | (with_reducible exact ih0 _ _ _ _)
   | (with_reducible exact LeO.refl _)
   | (with_reducible exact LeO.none _)
   | (with_reducible refine LeO.ite ?_ ?_)
   | (with_reducible refine LeO.bind ?_ (fun _ => ?_))
   | exact ih0 _ _ _ _
   | exact LeO.none _
   | refine LeO.ite ?_ ?_
   | refine LeO.bind ?_ (fun _ => ?_)
set_option maxHeartbeats 8000000 in
set_option maxRecDepth 100000 in
theorem impl_ListText.calls (k : Nat) (A0 : Option Addr) (c0 : Nat) (l0 : List Int) (r : ByteArray) (w : World) (hr0 : Kd.C (Kd.int .i64) w A0 l0.length l0) (hc0 : l0.length ≤ c0) (hT : TabR w) (h : impl_ListText.f k l0 = some r) :
  Calls Tryd.prog 51 #[.slice A0 l0.length c0] w fun e w' => e = .returned (.string r) ∧ Below w.heap.size w w' := by
 have HR0 := Aside0.mk hr0
 have HC0 := Aside0.mk hc0
 clear hr0 hc0
 have HB := Aside0.mk (Below.refl w.heap.size w)
 have H : (if (l0.length : Int) > 64 then (some (⟨#[]⟩ : ByteArray)) else (if (l0.length : Int) = 0 then (some (⟨#[45]⟩ : ByteArray)) else (if 0 ≤ (l0.length : Int) then (if ((l0.length : Int) : Int).toNat ≤ 17592186044416 then (impl_ListText.l0 k (List.replicate 0 (⟨#[]⟩ : ByteArray)) l0 (l0.length : Int) 0) else (none)) else (none)))) = some r := h
 clear h
 by_cases c2 : (l0.length : Int) > 64
 ·rw [if_pos c2] at H
  have c2b0 : decide (64 < (l0.length : Int)) = true := decide_eq_true c2
  have c2b1 : decide (64 < l0.length) = true := decide_eq_true (by omega)
  clear c2
  obtain rfl := Option.some.inj H
  go_enter Tryd.func51, Tryd.ntmps51
  go_wp2
  go_ret
  exact ⟨by first | rfl | (simp [errW_none, errW_some] <;> rfl) | (simp [*, errW_none, errW_some] <;> rfl), hQ HB⟩
 ·rw [if_neg c2] at H
  have c2b0 : decide (64 < (l0.length : Int)) = false := decide_eq_false c2
  have c2b1 : decide (64 < l0.length) = false := decide_eq_false (by omega)
  clear c2
  by_cases c3 : (l0.length : Int) = 0
  ·rw [if_pos c3] at H
   have c3b0 : ((l0.length : Int) == 0) = true := beq_iff_eq.mpr c3
   have c3b1 : ((l0.length : Int) != 0) = false := bne_eq_false_iff_eq.mpr c3
   clear c3
   obtain rfl := Option.some.inj H
   go_enter Tryd.func51, Tryd.ntmps51
   go_wp2
   go_ret
   exact ⟨by first | rfl | (simp [errW_none, errW_some] <;> rfl) | (simp [*, errW_none, errW_some] <;> rfl), hQ HB⟩
  ·rw [if_neg c3] at H
   have c3b0 : ((l0.length : Int) == 0) = false := beq_eq_false_iff_ne.mpr c3
   have c3b1 : ((l0.length : Int) != 0) = true := bne_iff_ne.mpr c3
   have c3b2 : ¬ (l0 = []) := fun h_ => c3 (by rw [h_]; rfl)
   by_cases c4 : 0 ≤ (l0.length : Int)
   ·rw [if_pos c4] at H
    have c4b0 := eq_true c4
    have c4b1 : decide (0 ≤ (l0.length : Int)) = true := decide_eq_true c4
    clear c4
    by_cases c5 : ((l0.length : Int) : Int).toNat ≤ 17592186044416
    ·rw [if_pos c5] at H
     have c5b0 := eq_true c5
     have c5b1 : decide (((l0.length : Int) : Int).toNat ≤ 17592186044416) = true := decide_eq_true c5
     clear c5
     obtain ⟨y203, hy203⟩ : ∃ y_ : List ByteArray, y_ = (List.replicate 0 (⟨#[]⟩ : ByteArray)) := ⟨_, rfl⟩
     replace H : (impl_ListText.l0 k y203 l0 (l0.length : Int) 0) = some r := by first | (rw [hy203]; with_reducible exact H) | (have H2_ := (Option.bind_some _ _).symm.trans H; rw [hy203]; with_reducible exact H2_) | (have H2_ := (Option.bind_some _ _).symm.trans H; with_reducible exact H2_) | with_reducible exact H | (rw [hy203]; exact H) | exact H
     have Ny203 := Aside0.mk hy203
     clear hy203
     have H' := Aside0.mk H
     clear H
     go_enter Tryd.func51, Tryd.ntmps51
     go_wp2_with (first | ((with_reducible refine gate_dst (N := 14) rfl ?_); refine Kd.R_makeC Kd.string _ 9 rfl (N := 14) rfl 54 _ _ rfl (l0.length : Int) rfl rfl Tryd.underlying54 (.string ⟨#[]⟩) 16 info9 rfl (by decide) (by omega) (⟨#[]⟩ : ByteArray) (ok := fun _ => True) (okp := fun _ => True) rfl (fun _ hk => hk) trivial (oT) (Nat.le_trans (Nat.mul_le_mul_right _ (oT : (l0.length : Int).toNat ≤ 17592186044416)) (by omega)) (Below.refl _ _) (Nat.le_refl _) ?_; intro v204 w6 ho7 hb hg_ hnew_; clear hg_ hnew_; (first | rw [← Ny203.out] at ho7 | (simp only [Int.reduceToNat] at ho7; rw [← Ny203.out] at ho7)); have z_ := bX hb (hQ HB); have n0_ := Aside0.mk (rL ho7 (bZ z_)); have n1_ := Aside0.mk (bP z_ hb); clear HB; have HO205 := n0_; have HB := n1_; clear z_ n0_ n1_; clear hb ho7))
     go_loopg [3, 17] k (fun kq v3 v17 w' => ∃ (x3_1 : List ByteArray) (x17_1 : Int), v17 = .int .i64 x17_1 ∧ Aside0 (impl_ListText.l0 kq x3_1 l0 (l0.length : Int) x17_1 = some r) ∧ Aside0 (kq ≤ k) ∧ Aside0 (Kd.R Kd.string 9 w' w.heap.size (fun _ => True) v3 x3_1) ∧ Aside0 (Below w.heap.size w w'))
     case atStart => exact ⟨(y203), (0), eT, H', ⟨Nat.le_refl _⟩, ⟨rQ HO205⟩, ⟨hQ HB⟩⟩
     case round =>
      clear H'
      try clear c2
      try clear c2b0
      try clear c2b1
      try clear p2
      try clear c3
      try clear c3b0
      try clear c3b1
      try clear c3b2
      try clear c4
      try clear c4b0
      try clear c4b1
      try clear c5
      try clear c5b0
      try clear c5b1
      obtain ⟨x3_1, x17_1, rfl, HA, HK1, HO_3, HB⟩ := hrel
      cases gk with
      | zero => exact absurd HA.out (by simp [impl_ListText.l0])
      | succ k1 =>
       have H := HA.out
       clear HA
       simp only [impl_ListText.l0] at H
       by_cases c8 : x17_1 < (l0.length : Int)
       ·rw [if_pos c8] at H
        have c8b0 : decide (x17_1 < (l0.length : Int)) = true := decide_eq_true c8
        clear c8
        by_cases c9 : 0 ≤ x17_1
        ·rw [if_pos c9] at H
         have c9b0 : decide (0 ≤ x17_1) = true := decide_eq_true c9
         clear c9
         by_cases c10 : x17_1 < (l0.length : Int)
         ·rw [if_pos c10] at H
          have c10b0 : decide (x17_1 < (l0.length : Int)) = true := decide_eq_true c10
          clear c10
          replace H := Option.bind_eq_some_iff.mp H
          obtain ⟨t208, A110, H⟩ := H
          replace H : (if t208 = true then ((impl_Decimal.f (rd l0 x17_1)).bind fun t209 => (if x3_1.length < 8796093022208 then (impl_ListText.l0 k1 (x3_1 ++ [t209]) l0 (l0.length : Int) (wrap64 (x17_1 + 1))) else (none))) else (some (⟨#[]⟩ : ByteArray))) = some r := H
          have A11 := Aside0.mk A110
          clear A110
          by_cases c12 : t208 = true
          ·subst c12
           have H1 : ((impl_Decimal.f (rd l0 x17_1)).bind fun t209 => (if x3_1.length < 8796093022208 then (impl_ListText.l0 k1 (x3_1 ++ [t209]) l0 (l0.length : Int) (wrap64 (x17_1 + 1))) else (none))) = some r := by rw [if_pos rfl] at H; exact H
           clear H
           have H := H1
           clear H1
           replace H := Option.bind_eq_some_iff.mp H
           obtain ⟨t209, A130, H⟩ := H
           replace H : (if x3_1.length < 8796093022208 then (impl_ListText.l0 k1 (x3_1 ++ [t209]) l0 (l0.length : Int) (wrap64 (x17_1 + 1))) else (none)) = some r := H
           have A13 := Aside0.mk A130
           clear A130
           by_cases c14 : x3_1.length < 8796093022208
           ·rw [if_pos c14] at H
            have LMc14 := Aside0.mk c14
            clear c14
            obtain ⟨y210, hy210⟩ : ∃ y_ : List ByteArray, y_ = (x3_1 ++ [t209]) := ⟨_, rfl⟩
            replace H : (impl_ListText.l0 k1 y210 l0 (l0.length : Int) (wrap64 (x17_1 + 1))) = some r := by first | (rw [hy210]; with_reducible exact H) | (have H2_ := (Option.bind_some _ _).symm.trans H; rw [hy210]; with_reducible exact H2_) | (have H2_ := (Option.bind_some _ _).symm.trans H; with_reducible exact H2_) | with_reducible exact H | (rw [hy210]; exact H) | exact H
            have Ny210 := Aside0.mk hy210
            clear hy210
            have H' := Aside0.mk H
            clear H
            have p207 : 0 ≤ (x17_1 : Int) := oT
            have q207 : x17_1 < (l0.length : Int) := oT
            obtain ⟨ad207, e207, hx207_0⟩ := Kd.at_int HR0.out x17_1 p207 q207
            cases e207
            replace hx207_0 := (HB.out.cell (World.block_lt_of_cell? w _ hx207_0)).trans hx207_0
            replace p207 := eq_true p207
            replace q207 := eq_true q207
            go_wp2_with (first | ((with_reducible refine gC (f := 72) rfl ?_); refine goesL_ (some 22) rfl rfl Tryd.func72 (by kernel_rfl) rfl #[.int .i64 (rd l0 x17_1), .int .i64 (-1000000000000), .int .i64 1000000000000] rfl lQ ?_; (with_reducible refine (impl_within.calls (rd l0 x17_1) (-1000000000000) 1000000000000 true _ A11.out).mono ?_); rintro e w' ⟨rfl, ⟨nd, rfl⟩⟩; refine ⟨_, rfl, ?_⟩) | ((with_reducible refine gC (f := 78) rfl ?_); refine goesL_ (some 26) rfl rfl Tryd.func78 (by kernel_rfl) rfl #[.int .i64 (rd l0 x17_1)] rfl lQ ?_; (with_reducible refine (impl_Decimal.calls (rd l0 x17_1) t209 _ (by first | exact hT | exact TabR.below hT HB.out | exact TabR.below hT (hQ HB) | exact TabR.below hT (Below.refl _ _)) A13.out).mono ?_); rintro e w15 ⟨rfl, hb⟩; refine ⟨_, rfl, ?_⟩; have n0_ := Aside0.mk (rB (rQ HO_3) hb); have n1_ := Aside0.mk (bP (hQ HB) hb); clear HO_3; clear HB; have HO_3 := n0_; have HB := n1_; clear n0_ n1_; (try clear hb); (try clear hb2); (try clear hk); (try clear hi)) | ((with_reducible refine gate_builtin (b := .append) (xs := #[.tmp 24, .tmp 27]) rfl ?_); at_builtin; refine Kd.R_append Kd.string (w0 := w) w.heap.size rfl (.tmp 24) (.tmp 27) 54 9 (.string ⟨#[]⟩) 16 rfl Tryd.underlying54 info9 rfl (by decide) (by omega) u3 x3_1 t209 [.string t209] (fun _ => True) (fun _ => False) rfl rfl ?aP (fun _ hk => hk.elim) ?aF ?aO ?aB ?aS ?aL ?_; (case aP => exact rfl); (case aB => exact (hQ HB)); (case aF => exact (fun _ _ => trivial)); (case aO => exact (rQ HO_3)); (case aS => exact (bZ (hQ HB))); (case aL => have := LMc14.out; omega); intro v211 w16 ho hb hg hat; rw [← Ny210.out] at ho; have n0_ := Aside0.mk (hb); have n1_ := Aside0.mk (ho); clear HB; clear HO_3; have HB := n0_; have HO212 := n1_; clear n0_ n1_; clear ho hb hg hat))
            go_roundg k1
            case measure => have := HK1.out; omega
            case rel => exact ⟨(y210), (wrap64 (x17_1 + 1)), eT, H', ⟨by have := HK1.out; omega⟩, ⟨rQ HO212⟩, ⟨hQ HB⟩⟩
           ·rw [if_neg c14] at H
            exact absurd H (by simp)
          ·replace c12 := Bool.eq_false_iff.mpr c12
           subst c12
           have H1 : (some (⟨#[]⟩ : ByteArray)) = some r := by rw [if_neg (show ¬ (false = true) by decide)] at H; exact H
           clear H
           have H := H1
           clear H1
           obtain rfl := Option.some.inj H
           have p207 : 0 ≤ (x17_1 : Int) := oT
           have q207 : x17_1 < (l0.length : Int) := oT
           obtain ⟨ad207, e207, hx207_0⟩ := Kd.at_int HR0.out x17_1 p207 q207
           cases e207
           replace hx207_0 := (HB.out.cell (World.block_lt_of_cell? w _ hx207_0)).trans hx207_0
           replace p207 := eq_true p207
           replace q207 := eq_true q207
           go_wp2_with (first | ((with_reducible refine gC (f := 72) rfl ?_); refine goesL_ (some 22) rfl rfl Tryd.func72 (by kernel_rfl) rfl #[.int .i64 (rd l0 x17_1), .int .i64 (-1000000000000), .int .i64 1000000000000] rfl lQ ?_; (with_reducible refine (impl_within.calls (rd l0 x17_1) (-1000000000000) 1000000000000 false _ A11.out).mono ?_); rintro e w' ⟨rfl, ⟨nd, rfl⟩⟩; refine ⟨_, rfl, ?_⟩))
           go_ret
           exact ⟨by first | rfl | (simp [errW_none, errW_some] <;> rfl) | (simp [*, errW_none, errW_some] <;> rfl), hQ HB⟩
         ·rw [if_neg c10] at H
          exact absurd H (by simp)
        ·rw [if_neg c9] at H
         exact absurd H (by simp)
       ·rw [if_neg c8] at H
        have c8b0 : decide (x17_1 < (l0.length : Int)) = false := decide_eq_false c8
        clear c8
        replace H := Option.bind_eq_some_iff.mp H
        obtain ⟨t206, A170, H⟩ := H
        replace H : (some t206) = some r := H
        have A17 := Aside0.mk A170
        clear A170
        obtain rfl := Option.some.inj H
        obtain ⟨Ao18, co18, eo18⟩ := Kd.R_slice HO_3.out
        subst eo18
        go_wp2_with (first | ((with_reducible refine gC (f := 52) rfl ?_); refine goesL_ (some 31) rfl rfl Tryd.func52 (by kernel_rfl) rfl #[.slice Ao18 x3_1.length co18, .string (⟨#[44]⟩ : ByteArray)] rfl lQ ?_; (with_reducible refine (strings_Join.calls _ _ x3_1 (⟨#[44]⟩ : ByteArray) t206 _ ?side1 ?side2 A17.out).mono ?_); (case side1 => exact cP (Kd.R_reads' HO_3.out).2.2); (case side2 => exact (Kd.R_reads' HO_3.out).2.1); rintro e w19 ⟨rfl, hb⟩; refine ⟨_, rfl, ?_⟩; have n0_ := Aside0.mk (rB (rQ HO_3) hb); have n1_ := Aside0.mk (bP (hQ HB) hb); clear HO_3; clear HB; have HO_3 := n0_; have HB := n1_; clear n0_ n1_; (try clear hb); (try clear hb2); (try clear hk); (try clear hi)))
        go_ret
        exact ⟨by first | rfl | (simp [errW_none, errW_some] <;> rfl) | (simp [*, errW_none, errW_some] <;> rfl), hQ HB⟩
    ·rw [if_neg c5] at H
     exact absurd H (by simp)
   ·rw [if_neg c4] at H
    exact absurd H (by simp)


/-! ### impl_GrammarText: function 21 -/
def impl_GrammarText.l0 : Nat → List ByteArray → List (S63) → Int → Int → Option (ByteArray)
 | 0, _, _, _, _ => none
 | k + 1, x3, x20, x21, x22 => if x22 < x21 then (if 0 ≤ x22 then (if x22 < (x20.length : Int) then ((impl_ListText.f k (([(rd_T63 x20 x22).f0, (rd_T63 x20 x22).f1, (rd_T63 x20 x22).f2] : List Int))).bind fun t228 => (if x3.length < 8796093022208 then (impl_GrammarText.l0 k (x3 ++ [t228]) x20 x21 (wrap64 (x22 + 1))) else (none))) else (none)) else (none)) else ((strings_Join.f x3 (⟨#[59]⟩ : ByteArray)).bind fun t232 => (some t232))
def impl_GrammarText.f (k : Nat) (a0_0 : Int) (a0_1 : Int) (l0_2 : List Int) (l0_3 : List (S63)) : Option (ByteArray) := (impl_ValidGrammar.f k a0_0 a0_1 l0_2 l0_3).bind fun t214 => (if t214 = true then ((impl_ListText.f k (([a0_0, a0_1] : List Int))).bind fun t218 => ((impl_ListText.f k l0_2).bind fun t219 => (impl_GrammarText.l0 k (([t218, t219] : List ByteArray)) l0_3 (l0_3.length : Int) 0))) else (some (⟨#[]⟩ : ByteArray)))
theorem impl_GrammarText.mono_l : ∀ k, (∀ y0 y1 y2 y3, LeO (impl_GrammarText.l0 k y0 y1 y2 y3) (impl_GrammarText.l0 (k + 1) y0 y1 y2 y3))
 | 0 => fun _ _ _ _ r h => by simp [impl_GrammarText.l0] at h
 | k + 1 => by
  have ih0 := impl_GrammarText.mono_l k
  ·intro y0 y1 y2 y3
   unfold impl_GrammarText.l0
   repeat' first
   | (with_reducible exact ih0 _ _ _ _)
   | (with_reducible exact impl_ListText.mono _ _)
   | (with_reducible exact impl_ValidGrammar.mono _ _ _ _ _)
   | (with_reducible exact LeO.refl _)
   | (with_reducible exact LeO.none _)
   | (with_reducible refine LeO.ite ?_ ?_)
   | (with_reducible refine LeO.bind ?_ (fun _ => ?_))
   | exact ih0 _ _ _ _
   | exact impl_ListText.mono _ _
   | exact impl_ValidGrammar.mono _ _ _ _ _
   | exact LeO.none _
   | refine LeO.ite ?_ ?_
   | refine LeO.bind ?_ (fun _ => ?_)
theorem impl_GrammarText.mono : ∀ a0 a1 a2 a3 k, LeO (impl_GrammarText.f k a0 a1 a2 a3) (impl_GrammarText.f (k + 1) a0 a1 a2 a3) := by
 intro a0 a1 a2 a3 k
 have ih0 := impl_GrammarText.mono_l k
 unfold impl_GrammarText.f
 repeat' first
   | (with_reducible exact ih0 _ _ _ _)
   | (with_reducible exact impl_ListText.mono _ _)
   | (with_reducible exact impl_ValidGrammar.mono _ _ _ _ _)
   | (with_reducible exact LeO.refl _)
   | (with_reducible exact LeO.none _)
   | (with_reducible refine LeO.ite ?_ ?_)
   | (with_reducible refine LeO.bind ?_ (fun _ => ?_))
   | exact ih0 _ _ _ _
   | exact impl_ListText.mono _ _
   | exact impl_ValidGrammar.mono _ _ _ _ _
   | exact LeO.none _
   | refine LeO.ite ?_ ?_
   | refine LeO.bind ?_ (fun _ => ?_)
def impl_GrammarText.T3 : Bool × List (List Nat × List Nat) := (true, [([], []), ([0], [0]), ([], []), ([2], [2]), ([1, 3], [1, 3]), ([4], [4]), ([], []), ([6], [6]), ([7, 5], [7]), ([5, 8], [5, 8]), ([9, 8, 0, 1, 2, 3, 4, 5, 6, 7, 8, 9], [9])])
def impl_GrammarText.B3 : List Nat := [0, 1, 0, 4, 15, 31, 0, 64, 255, 511, 1023]
theorem impl_GrammarText.tab3 : rtab .any (opsOf Tryd.f21 3) = impl_GrammarText.T3 := by kernel_rfl
theorem impl_GrammarText.bits3 : waitsOk impl_GrammarText.T3.2 impl_GrammarText.B3 = true := by kernel_rfl
set_option maxHeartbeats 8000000 in
set_option maxRecDepth 100000 in
theorem impl_GrammarText.calls (k : Nat) (a0_0 : Int) (a0_1 : Int) (A0_2 : Option Addr) (c0_2 : Nat) (l0_2 : List Int) (A0_3 : Option Addr) (c0_3 : Nat) (l0_3 : List (S63)) (r : ByteArray) (w : World) (hr0_2 : Kd.C (Kd.int .i64) w A0_2 l0_2.length l0_2) (hc0_2 : l0_2.length ≤ c0_2) (hr0_3 : Kd.C k63 w A0_3 l0_3.length l0_3) (hc0_3 : l0_3.length ≤ c0_3) (hT : TabR w) (h : impl_GrammarText.f k a0_0 a0_1 l0_2 l0_3 = some r) :
  Calls Tryd.prog 21 #[.agg #[.int .i64 a0_0, .int .i64 a0_1, .slice A0_2 l0_2.length c0_2, .slice A0_3 l0_3.length c0_3]] w fun e w' => e = .returned (.string r) ∧ Below w.heap.size w w' := by
 have hu31 := Tryd.underlying31
 have hu63 := Tryd.underlying63
 have HR0_2 := Aside0.mk hr0_2
 have HC0_2 := Aside0.mk hc0_2
 clear hr0_2 hc0_2
 have HR0_3 := Aside0.mk hr0_3
 have HC0_3 := Aside0.mk hc0_3
 clear hr0_3 hc0_3
 have HB := Aside0.mk (Below.refl w.heap.size w)
 have H : ((impl_ValidGrammar.f k a0_0 a0_1 l0_2 l0_3).bind fun t214 => (if t214 = true then ((impl_ListText.f k (([a0_0, a0_1] : List Int))).bind fun t218 => ((impl_ListText.f k l0_2).bind fun t219 => (impl_GrammarText.l0 k (([t218, t219] : List ByteArray)) l0_3 (l0_3.length : Int) 0))) else (some (⟨#[]⟩ : ByteArray)))) = some r := h
 clear h
 replace H := Option.bind_eq_some_iff.mp H
 obtain ⟨t214, A20, H⟩ := H
 replace H : (if t214 = true then ((impl_ListText.f k (([a0_0, a0_1] : List Int))).bind fun t218 => ((impl_ListText.f k l0_2).bind fun t219 => (impl_GrammarText.l0 k (([t218, t219] : List ByteArray)) l0_3 (l0_3.length : Int) 0))) else (some (⟨#[]⟩ : ByteArray))) = some r := H
 have A2 := Aside0.mk A20
 clear A20
 by_cases c3 : t214 = true
 ·subst c3
  have H1 : ((impl_ListText.f k (([a0_0, a0_1] : List Int))).bind fun t218 => ((impl_ListText.f k l0_2).bind fun t219 => (impl_GrammarText.l0 k (([t218, t219] : List ByteArray)) l0_3 (l0_3.length : Int) 0))) = some r := by rw [if_pos rfl] at H; exact H
  clear H
  have H := H1
  clear H1
  obtain ⟨y215, hy215⟩ : ∃ y_ : List Int, y_ = (([a0_0, a0_1] : List Int)) := ⟨_, rfl⟩
  replace H : ((impl_ListText.f k y215).bind fun t218 => ((impl_ListText.f k l0_2).bind fun t219 => (impl_GrammarText.l0 k (([t218, t219] : List ByteArray)) l0_3 (l0_3.length : Int) 0))) = some r := by first | (rw [hy215]; with_reducible exact H) | (have H2_ := (Option.bind_some _ _).symm.trans H; rw [hy215]; with_reducible exact H2_) | (have H2_ := (Option.bind_some _ _).symm.trans H; with_reducible exact H2_) | with_reducible exact H | (rw [hy215]; exact H) | exact H
  have Ny215 := Aside0.mk hy215
  clear hy215
  replace H := Option.bind_eq_some_iff.mp H
  obtain ⟨t218, A40, H⟩ := H
  replace H : ((impl_ListText.f k l0_2).bind fun t219 => (impl_GrammarText.l0 k (([t218, t219] : List ByteArray)) l0_3 (l0_3.length : Int) 0)) = some r := H
  have A4 := Aside0.mk A40
  clear A40
  replace H := Option.bind_eq_some_iff.mp H
  obtain ⟨t219, A50, H⟩ := H
  replace H : (impl_GrammarText.l0 k (([t218, t219] : List ByteArray)) l0_3 (l0_3.length : Int) 0) = some r := H
  have A5 := Aside0.mk A50
  clear A50
  obtain ⟨y220, hy220⟩ : ∃ y_ : List ByteArray, y_ = (([t218, t219] : List ByteArray)) := ⟨_, rfl⟩
  replace H : (impl_GrammarText.l0 k y220 l0_3 (l0_3.length : Int) 0) = some r := by first | (rw [hy220]; with_reducible exact H) | (have H2_ := (Option.bind_some _ _).symm.trans H; rw [hy220]; with_reducible exact H2_) | (have H2_ := (Option.bind_some _ _).symm.trans H; with_reducible exact H2_) | with_reducible exact H | (rw [hy220]; exact H) | exact H
  have Ny220 := Aside0.mk hy220
  clear hy220
  have H' := Aside0.mk H
  clear H
  go_enter Tryd.func21, Tryd.ntmps21
  try go_wp2_with (first | ((with_reducible refine gate_dst (N := 1) rfl ?_); refine bE ?hg (N := 1) ?hd (cs := #[.int .i64 a0_0, .int .i64 a0_1, .slice A0_2 l0_2.length c0_2, .slice A0_3 l0_3.length c0_3]) (t := 31) ?hr ?_; (case hd => rfl); (case hg => rfl); (case hr => first | (go_simp; done) | (go_simp; rfl)); intro gb213 hg w6 hbox hb; have z_ := bX hb (hQ HB); have n0_ := Aside0.mk (bP z_ hb); have n1_ := Aside0.mk (hbox); have n2_ := Aside0.mk ((by rw [hg]; exact (bZ z_) : w.heap.size ≤ gb213)); have n3_ := Aside0.mk ((by rw [hg]; exact (bZ z_) : w.heap.size ≤ gb213)); clear HB; have HB := n0_; have BK213 := n1_; have GW213 := n2_; have GE213 := n3_; clear z_ n0_ n1_ n2_ n3_; clear hb hbox hg; obtain ⟨hcz7_0, hcz7_1, hcz7_2, hcz7_3⟩ := cZ4 BK213.out; obtain ⟨hfz7_0, hfz7_1, hfz7_2, hfz7_3⟩ := fZ4 BK213.out) | ((with_reducible refine gC (f := 50) rfl ?_); refine goesL_ (some 7) rfl rfl Tryd.func50 (by kernel_rfl) rfl #[.agg #[.int .i64 a0_0, .int .i64 a0_1, .slice A0_2 l0_2.length c0_2, .slice A0_3 l0_3.length c0_3]] rfl lQ ?_; (with_reducible refine (impl_ValidGrammar.calls k a0_0 a0_1 _ _ l0_2 _ _ l0_3 true _ ?side1 ?side2 ?side3 ?side4 A2.out).mono ?_); (case side1 => exact cP (cB HR0_2.out HB.out)); (case side2 => exact HC0_2.out); (case side3 => exact cP (cB HR0_3.out HB.out)); (case side4 => exact HC0_3.out); rintro e w8 ⟨rfl, hb⟩; refine ⟨_, rfl, ?_⟩; have n0_ := Aside0.mk (kB (kQ BK213) hb); have n1_ := Aside0.mk (bP (by repeat (first | (with_reducible first | exact HB.out | apply bA | apply bN | apply bD | refine bS ?_ GE213.out) | exact HB.out)) hb); clear BK213; clear HB; have BK213 := n0_; have HB := n1_; clear n0_ n1_; (try clear hb); (try clear hb2); (try clear hk); (try clear hi)))
  have n0_ := Aside0.mk (kD BK213.out)
  have n1_ := Aside0.mk (bD HB.out)
  clear BK213
  clear HB
  have BK213 := n0_
  have HB := n1_
  clear n0_ n1_
  refine start_ (n := 11) (S := fun w' => w'.cell? ⟨gb213, 0, none⟩ = some (.int .i64 a0_0) ∧ w'.cell? ⟨gb213, 1, none⟩ = some (.int .i64 a0_1) ∧ w'.cell? ⟨gb213, 2, none⟩ = some (.slice A0_2 l0_2.length c0_2) ∧ w'.cell? ⟨gb213, 3, none⟩ = some (.slice A0_3 l0_3.length c0_3)) (ds := []) #[F,F,F,F,F,F,F,F,F,F,F] (by kernel_rfl) rfl rfl ⟨(kC BK213.out 0).trans rfl, (kC BK213.out 1).trans rfl, (kC BK213.out 2).trans rfl, (kC BK213.out 3).trans rfl⟩ (fun hHeld => ?_); refine with_tabW impl_GrammarText.tab3 impl_GrammarText.bits3 (fun HT_ HW_ => ?_)
  generalize w8.drew = w9 at BK213 HB hHeld ⊢
  refine pure_ (i := 0) (N := some 9) (v := ?_) (a' := ?_) #[T,F,F,F,F,F,F,F,F,F,F] rfl rfl (any_of HT_.out (by kernel_rfl)) (fun _ _ _ h => h) (Or.inl ⟨by rfl, ?_⟩) ?_ ?_; rotate_left; (·intro w'; go_simp; with_reducible rfl); rotate_left; (·simp only [Act.put, sI, sZ, sS, iW, jW]; rfl)
  refine pure_ (i := 2) (N := some 11) (v := ?_) (a' := ?_) #[T,F,T,F,F,F,F,F,F,F,F] rfl rfl (any_of HT_.out (by kernel_rfl)) (fun _ _ _ h => h) (Or.inl ⟨by rfl, ?_⟩) ?_ ?_; rotate_left; (·intro w'; go_simp; with_reducible rfl); rotate_left; (·simp only [Act.put, sI, sZ, sS, iW, jW]; rfl)
  refine pure_ (i := 6) (N := some 15) (v := ?_) (a' := ?_) #[T,F,T,F,F,F,T,F,F,F,F] rfl rfl (any_of HT_.out (by kernel_rfl)) (fun _ _ _ h => h) (Or.inl ⟨by rfl, ?_⟩) ?_ ?_; rotate_left; (·intro w'; go_simp; with_reducible rfl); rotate_left; (·simp only [Act.put, sI, sZ, sS, iW, jW]; rfl)
  refine take_ (i := 1) (N := some 10) (v := ?_) (a' := ?_) #[T,T,T,F,F,F,T,F,F,F,F] rfl rfl (tW HT_.out HW_.out (by kernel_rfl)) (fun _ _ _ h => h) (Or.inl ⟨by rfl, ?_⟩) hHeld ?_ ?_; rotate_left; (·rintro w' ⟨s0, s1, s2, s3⟩; go_simp; with_reducible rfl); rotate_left; (·simp only [Act.put, sI, sZ, sS, iW, jW]; rfl)
  refine take_ (i := 3) (N := some 12) (v := ?_) (a' := ?_) #[T,T,T,T,F,F,T,F,F,F,F] rfl rfl (tW HT_.out HW_.out (by kernel_rfl)) (fun _ _ _ h => h) (Or.inl ⟨by rfl, ?_⟩) hHeld ?_ ?_; rotate_left; (·rintro w' ⟨s0, s1, s2, s3⟩; go_simp; with_reducible rfl); rotate_left; (·simp only [Act.put, sI, sZ, sS, iW, jW]; rfl)
  refine take_ (i := 7) (N := some 16) (v := ?_) (a' := ?_) #[T,T,T,T,F,F,T,T,F,F,F] rfl rfl (tW HT_.out HW_.out (by kernel_rfl)) (fun _ _ _ h => h) (Or.inl ⟨by rfl, ?_⟩) hHeld ?_ ?_; rotate_left; (·rintro w' ⟨s0, s1, s2, s3⟩; go_simp; with_reducible rfl); rotate_left; (·simp only [Act.put, sI, sZ, sS, iW, jW]; rfl)
  refine one_ (i := 4) (N := some 13) #[T,T,T,T,T,F,T,T,F,F,F] rfl rfl (oO HT_.out (by kernel_rfl)) (by decide) (fun K hK => ?_)
  refine Kd.R_lit_step (Kd.int .i64) _ 2 ?hg (N := 13) ?hd (xs := ([a0_0, a0_1] : List Int)) (inner := [.int .i64 a0_0, .int .i64 a0_1]) (ok := fun _ => True) (okp := fun _ => True) ?hr ?hp (fun _ hk => hk) trivial (Below.refl _ _) (Nat.le_refl _) (by simp) ?_; (case hd => rfl); (case hg => rfl); (case hr => first | (go_simp; done) | (go_simp; rfl)); (case hp => exact (Reps.one (show Kd.M (Kd.int .i64) _ _ _ a0_0 [.int .i64 a0_0] from rfl) (Reps.one (show Kd.M (Kd.int .i64) _ _ _ a0_1 [.int .i64 a0_1] from rfl) (Reps.none _ _))))
  intro v216 w10 ho11 hb hg_ hnew_
  clear hg_ hnew_
  (first | rw [← Ny215.out] at ho11 | (simp only [Int.reduceToNat] at ho11; rw [← Ny215.out] at ho11))
  have z_ := bX hb (by repeat (first | (with_reducible first | exact HB.out | apply bA | apply bN | apply bD | refine bS ?_ GE213.out) | exact HB.out))
  have n0_ := Aside0.mk (rL ho11 (bZ z_))
  have n1_ := Aside0.mk (kB (kQ BK213) hb)
  have n2_ := Aside0.mk (bP z_ hb)
  clear BK213
  clear HB
  have HO217 := n0_
  have BK213 := n1_
  have HB := n2_
  clear z_ n0_ n1_ n2_
  clear hb ho11
  obtain ⟨Ao12, co12, eo12⟩ := Kd.R_slice HO217.out
  (first | subst eo12 | (injection eo12 with f1_ f2_ f3_; have f4_ := f1_.symm; have f5_ := f3_.symm; clear f1_ f2_ f3_; subst f4_; subst f5_))
  refine hK.out _ _ ⟨(kC BK213.out 0).trans rfl, (kC BK213.out 1).trans rfl, (kC BK213.out 2).trans rfl, (kC BK213.out 3).trans rfl⟩ (fun hHeld => ?_)
  clear hK K
  refine norm_ (a' := ?_) ?_ ?_
  rotate_left
  ·show Act.put _ (some 13) _ = _
   simp only [Act.put, sI, sZ, sS, iW, jW]
   rfl
  refine one_ (i := 5) (N := some 14) #[T,T,T,T,T,T,T,T,F,F,F] rfl rfl (oO HT_.out (by kernel_rfl)) (by decide) (fun K hK => ?_)
  refine goes_ Tryd.func51 (by kernel_rfl) rfl #[.slice Ao12 y215.length co12] (by rfl) rfl rfl lQ ?_
  with_reducible refine (impl_ListText.calls k _ _ y215 t218 _ ?side1 ?side2 (by first | exact hT | exact TabR.below hT HB.out | exact TabR.below hT (by repeat (first | (with_reducible first | exact HB.out | apply bA | apply bN | apply bD | refine bS ?_ GE213.out | refine bS ?_ GE224.out) | exact HB.out)) | exact TabR.below hT (Below.refl _ _)) A4.out).mono ?_
  (case side1 => exact cP (Kd.R_reads' HO217.out).2.2)
  (case side2 => exact (Kd.R_reads' HO217.out).2.1)
  rintro e w13 ⟨rfl, hb⟩
  refine ⟨_, rfl, ?_⟩
  have n0_ := Aside0.mk (rB (rQ HO217) hb)
  have n1_ := Aside0.mk (kB (kQ BK213) hb)
  have n2_ := Aside0.mk (bP (by repeat (first | (with_reducible first | exact HB.out | apply bA | apply bN | apply bD | refine bS ?_ GE213.out) | exact HB.out)) hb)
  clear HO217
  clear BK213
  clear HB
  have HO217 := n0_
  have BK213 := n1_
  have HB := n2_
  clear n0_ n1_ n2_
  (try clear hb)
  (try clear hb2)
  (try clear hk)
  (try clear hi)
  refine hK.out _ _ ⟨(kC BK213.out 0).trans rfl, (kC BK213.out 1).trans rfl, (kC BK213.out 2).trans rfl, (kC BK213.out 3).trans rfl⟩ (fun hHeld => ?_)
  clear hK K
  refine norm_ (a' := ?_) ?_ ?_
  rotate_left
  ·show Act.put _ (some 14) _ = _
   simp only [Act.put, sI, sZ, sS, iW, jW]
   rfl
  refine one_ (i := 8) (N := some 17) #[T,T,T,T,T,T,T,T,T,F,F] rfl rfl (oO HT_.out (by kernel_rfl)) (by decide) (fun K hK => ?_)
  refine goes_ Tryd.func51 (by kernel_rfl) rfl #[.slice A0_2 l0_2.length c0_2] (by rfl) rfl rfl lQ ?_
  with_reducible refine (impl_ListText.calls k _ _ l0_2 t219 _ ?side1 ?side2 (by first | exact hT | exact TabR.below hT HB.out | exact TabR.below hT (by repeat (first | (with_reducible first | exact HB.out | apply bA | apply bN | apply bD | refine bS ?_ GE213.out | refine bS ?_ GE224.out) | exact HB.out)) | exact TabR.below hT (Below.refl _ _)) A5.out).mono ?_
  (case side1 => exact cP (cB HR0_2.out HB.out))
  (case side2 => exact HC0_2.out)
  rintro e w14 ⟨rfl, hb⟩
  refine ⟨_, rfl, ?_⟩
  have n0_ := Aside0.mk (rB (rQ HO217) hb)
  have n1_ := Aside0.mk (kB (kQ BK213) hb)
  have n2_ := Aside0.mk (bP (by repeat (first | (with_reducible first | exact HB.out | apply bA | apply bN | apply bD | refine bS ?_ GE213.out) | exact HB.out)) hb)
  clear HO217
  clear BK213
  clear HB
  have HO217 := n0_
  have BK213 := n1_
  have HB := n2_
  clear n0_ n1_ n2_
  (try clear hb)
  (try clear hb2)
  (try clear hk)
  (try clear hi)
  refine hK.out _ _ ⟨(kC BK213.out 0).trans rfl, (kC BK213.out 1).trans rfl, (kC BK213.out 2).trans rfl, (kC BK213.out 3).trans rfl⟩ (fun hHeld => ?_)
  clear hK K
  refine norm_ (a' := ?_) ?_ ?_
  rotate_left
  ·show Act.put _ (some 17) _ = _
   simp only [Act.put, sI, sZ, sS, iW, jW]
   rfl
  refine one_ (i := 9) (N := some 18) #[T,T,T,T,T,T,T,T,T,T,F] rfl rfl (oO HT_.out (by kernel_rfl)) (by decide) (fun K hK => ?_)
  refine Kd.R_lit_step Kd.string _ 9 ?hg (N := 18) ?hd (xs := ([t218, t219] : List ByteArray)) (inner := [.string t218, .string t219]) (ok := fun _ => True) (okp := fun _ => True) ?hr ?hp (fun _ hk => hk) trivial (Below.refl _ _) (Nat.le_refl _) (by simp) ?_; (case hd => rfl); (case hg => rfl); (case hr => first | (go_simp; done) | (go_simp; rfl)); (case hp => exact (Reps.one (show Kd.M Kd.string _ _ _ t218 [.string t218] from rfl) (Reps.one (show Kd.M Kd.string _ _ _ t219 [.string t219] from rfl) (Reps.none _ _))))
  intro v221 w15 ho16 hb hg_ hnew_
  clear hg_ hnew_
  (first | rw [← Ny220.out] at ho16 | (simp only [Int.reduceToNat] at ho16; rw [← Ny220.out] at ho16))
  have z_ := bX hb (by repeat (first | (with_reducible first | exact HB.out | apply bA | apply bN | apply bD | refine bS ?_ GE213.out) | exact HB.out))
  have n0_ := Aside0.mk (rB (rQ HO217) hb)
  have n1_ := Aside0.mk (rL ho16 (bZ z_))
  have n2_ := Aside0.mk (kB (kQ BK213) hb)
  have n3_ := Aside0.mk (bP z_ hb)
  clear HO217
  clear BK213
  clear HB
  have HO217 := n0_
  have HO222 := n1_
  have BK213 := n2_
  have HB := n3_
  clear z_ n0_ n1_ n2_ n3_
  clear hb ho16
  refine hK.out _ _ ⟨(kC BK213.out 0).trans rfl, (kC BK213.out 1).trans rfl, (kC BK213.out 2).trans rfl, (kC BK213.out 3).trans rfl⟩ (fun hHeld => ?_)
  clear hK K
  refine norm_ (a' := ?_) ?_ ?_
  rotate_left
  ·show Act.put _ (some 18) _ = _
   simp only [Act.put, sI, sZ, sS, iW, jW]
   rfl
  refine pure_ (i := 10) (N := some 3) (v := ?_) (a' := ?_) #[T,T,T,T,T,T,T,T,T,T,T] rfl rfl (any_of HT_.out (by kernel_rfl)) (fun _ _ _ h => h) (Or.inl ⟨by rfl, ?_⟩) ?_ ?_; rotate_left; (·intro w'; go_simp; with_reducible rfl); rotate_left; (·simp only [Act.put, sI, sZ, sS, iW, jW]; rfl)
  refine done_ (done_of HT_.out (by kernel_rfl)) ?_
  obtain ⟨hcz17_0, hcz17_1, hcz17_2, hcz17_3⟩ := cZ4 BK213.out
  obtain ⟨hfz17_0, hfz17_1, hfz17_2, hfz17_3⟩ := fZ4 BK213.out
  try go_wp2
  go_loopg [3, 22] k (fun kq v3 v22 w' => ∃ (x3_1 : List ByteArray) (x22_1 : Int), v22 = .int .i64 x22_1 ∧ Aside0 (impl_GrammarText.l0 kq x3_1 l0_3 (l0_3.length : Int) x22_1 = some r) ∧ Aside0 (kq ≤ k) ∧ Aside0 (Kd.R Kd.string 9 w' w.heap.size (fun _ => True) v3 x3_1) ∧ Aside0 (w'.heap[gb213]? = some (.cells #[.int .i64 a0_0, .int .i64 a0_1, (.slice A0_2 l0_2.length c0_2), (.slice A0_3 l0_3.length c0_3)] 31 (0, 0))) ∧ Aside0 (Below w.heap.size w w'))
  case atStart => exact ⟨(y220), (0), eT, H', ⟨Nat.le_refl _⟩, ⟨rQ HO222⟩, ⟨kQ BK213⟩, ⟨by repeat (first | (with_reducible first | exact HB.out | apply bA | apply bN | apply bD | refine bS ?_ GE213.out) | exact HB.out)⟩⟩
  case round =>
   clear H'
   try clear c2
   try clear p2
   try clear c3
   try clear c5
   try clear hcz17_0
   try clear hcz17_1
   try clear hcz17_2
   try clear hcz17_3
   try clear hcz7_0
   try clear hcz7_1
   try clear hcz7_2
   try clear hcz7_3
   try clear hfz17_0
   try clear hfz17_1
   try clear hfz17_2
   try clear hfz17_3
   try clear hfz7_0
   try clear hfz7_1
   try clear hfz7_2
   try clear hfz7_3
   obtain ⟨x3_1, x22_1, rfl, HA, HK1, HO_3, BK213, HB⟩ := hrel
   cases gk with
   | zero => exact absurd HA.out (by simp [impl_GrammarText.l0])
   | succ k1 =>
    have H := HA.out
    clear HA
    simp only [impl_GrammarText.l0] at H
    by_cases c18 : x22_1 < (l0_3.length : Int)
    ·rw [if_pos c18] at H
     have c18b0 : decide (x22_1 < (l0_3.length : Int)) = true := decide_eq_true c18
     clear c18
     by_cases c19 : 0 ≤ x22_1
     ·rw [if_pos c19] at H
      have c19b0 : decide (0 ≤ x22_1) = true := decide_eq_true c19
      clear c19
      by_cases c20 : x22_1 < (l0_3.length : Int)
      ·rw [if_pos c20] at H
       have c20b0 : decide (x22_1 < (l0_3.length : Int)) = true := decide_eq_true c20
       clear c20
       obtain ⟨y225, hy225⟩ : ∃ y_ : List Int, y_ = (([(rd_T63 l0_3 x22_1).f0, (rd_T63 l0_3 x22_1).f1, (rd_T63 l0_3 x22_1).f2] : List Int)) := ⟨_, rfl⟩
       replace H : ((impl_ListText.f k1 y225).bind fun t228 => (if x3_1.length < 8796093022208 then (impl_GrammarText.l0 k1 (x3_1 ++ [t228]) l0_3 (l0_3.length : Int) (wrap64 (x22_1 + 1))) else (none))) = some r := by first | (rw [hy225]; with_reducible exact H) | (have H2_ := (Option.bind_some _ _).symm.trans H; rw [hy225]; with_reducible exact H2_) | (have H2_ := (Option.bind_some _ _).symm.trans H; with_reducible exact H2_) | with_reducible exact H | (rw [hy225]; exact H) | exact H
       have Ny225 := Aside0.mk hy225
       clear hy225
       replace H := Option.bind_eq_some_iff.mp H
       obtain ⟨t228, A210, H⟩ := H
       replace H : (if x3_1.length < 8796093022208 then (impl_GrammarText.l0 k1 (x3_1 ++ [t228]) l0_3 (l0_3.length : Int) (wrap64 (x22_1 + 1))) else (none)) = some r := H
       have A21 := Aside0.mk A210
       clear A210
       by_cases c22 : x3_1.length < 8796093022208
       ·rw [if_pos c22] at H
        have LMc22 := Aside0.mk c22
        clear c22
        obtain ⟨y229, hy229⟩ : ∃ y_ : List ByteArray, y_ = (x3_1 ++ [t228]) := ⟨_, rfl⟩
        replace H : (impl_GrammarText.l0 k1 y229 l0_3 (l0_3.length : Int) (wrap64 (x22_1 + 1))) = some r := by first | (rw [hy229]; with_reducible exact H) | (have H2_ := (Option.bind_some _ _).symm.trans H; rw [hy229]; with_reducible exact H2_) | (have H2_ := (Option.bind_some _ _).symm.trans H; with_reducible exact H2_) | with_reducible exact H | (rw [hy229]; exact H) | exact H
        have Ny229 := Aside0.mk hy229
        clear hy229
        have H' := Aside0.mk H
        clear H
        have p223 : 0 ≤ (x22_1 : Int) := oT
        have q223 : x22_1 < (l0_3.length : Int) := oT
        obtain ⟨ad223, e223, hx223_0, hx223_1, hx223_2⟩ := at_T63 HR0_3.out x22_1 p223 q223
        cases e223
        replace hx223_0 := (HB.out.cell (World.block_lt_of_cell? w _ hx223_0)).trans hx223_0
        replace hx223_1 := (HB.out.cell (World.block_lt_of_cell? w _ hx223_1)).trans hx223_1
        replace hx223_2 := (HB.out.cell (World.block_lt_of_cell? w _ hx223_2)).trans hx223_2
        replace p223 := eq_true p223
        replace q223 := eq_true q223
        go_wp2_with (first | ((with_reducible refine gate_dst (N := 5) rfl ?_); refine bE ?hg (N := 5) ?hd (cs := #[.int .i64 0, .int .i64 0, .int .i64 0]) (t := 63) ?hr ?_; (case hd => rfl); (case hg => rfl); (case hr => first | (go_simp; done) | (go_simp; rfl)); intro gb224 hg w23 hbox hb; have z_ := bX hb (by repeat (first | (with_reducible first | exact HB.out | apply bA | apply bN | apply bD | refine bS ?_ GE213.out) | exact HB.out)); have n0_ := Aside0.mk (rB (rQ HO_3) hb); have n1_ := Aside0.mk (kB (kQ BK213) hb); have n2_ := Aside0.mk (bP z_ hb); have n3_ := Aside0.mk (hbox); have n4_ := Aside0.mk ((by rw [hg]; exact (bZ z_) : w.heap.size ≤ gb224)); have n5_ := Aside0.mk ((by rw [hg]; exact (bZ z_) : w.heap.size ≤ gb224)); have n6_ := Aside0.mk ((by rw [hg]; exact Nat.ne_of_lt (kL (kQ BK213)) : gb213 ≠ gb224)); have n7_ := Aside0.mk ((by rw [hg]; exact Nat.ne_of_gt (kL (kQ BK213)) : gb224 ≠ gb213)); clear HO_3; clear BK213; clear HB; have HO_3 := n0_; have BK213 := n1_; have HB := n2_; have BK224 := n3_; have GW224 := n4_; have GE224 := n5_; have NB213_224 := n6_; have NB224_213 := n7_; clear z_ n0_ n1_ n2_ n3_ n4_ n5_ n6_ n7_; clear hb hbox hg; have hnb24 := NB224_213.out; have hnc24 := NB213_224.out; obtain ⟨hcz25_0, hcz25_1, hcz25_2⟩ := cZ3 BK224.out; obtain ⟨hfz25_0, hfz25_1, hfz25_2⟩ := fZ3 BK224.out) | ((with_reducible refine gate_dst (N := 33) rfl ?_); refine Kd.R_lit (Kd.int .i64) _ 2 ?hg (N := 33) ?hd (xs := ([(rd_T63 l0_3 x22_1).f0, (rd_T63 l0_3 x22_1).f1, (rd_T63 l0_3 x22_1).f2] : List Int)) (inner := [.int .i64 ((rd_T63 l0_3 x22_1).f0), .int .i64 ((rd_T63 l0_3 x22_1).f1), .int .i64 ((rd_T63 l0_3 x22_1).f2)]) (ok := fun _ => True) (okp := fun _ => True) ?hr ?hp (fun _ hk => hk) trivial (Below.refl _ _) (Nat.le_refl _) (by simp) ?_; (case hd => rfl); (case hg => rfl); (case hr => first | (go_simp; done) | (go_simp; rfl)); (case hp => exact (Reps.one (show Kd.M (Kd.int .i64) _ _ _ ((rd_T63 l0_3 x22_1).f0) [.int .i64 ((rd_T63 l0_3 x22_1).f0)] from rfl) (Reps.one (show Kd.M (Kd.int .i64) _ _ _ ((rd_T63 l0_3 x22_1).f1) [.int .i64 ((rd_T63 l0_3 x22_1).f1)] from rfl) (Reps.one (show Kd.M (Kd.int .i64) _ _ _ ((rd_T63 l0_3 x22_1).f2) [.int .i64 ((rd_T63 l0_3 x22_1).f2)] from rfl) (Reps.none _ _))))); intro v226 w26 ho27 hb hg_ hnew_; clear hg_ hnew_; (first | rw [← Ny225.out] at ho27 | (simp only [Int.reduceToNat] at ho27; rw [← Ny225.out] at ho27)); have z_ := bX hb (by repeat (first | (with_reducible first | exact HB.out | apply bA | apply bN | apply bD | refine bS ?_ GE213.out | refine bS ?_ GE224.out) | exact HB.out)); have n0_ := Aside0.mk (rB (by (with_reducible repeat (first | apply rA | apply rN | apply rD)); exact (rM (Kd.R_far (p := ⟨gb224, 2, none⟩) (Kd.R_far (p := ⟨gb224, 1, none⟩) (Kd.R_far (p := ⟨gb224, 0, none⟩) (Kd.R_types HO_3.out BK224.out (by decide)) (fun _ hk => hk.2) (.int .i64 ((rd_T63 l0_3 x22_1).f0))) (fun _ hk => hk.2) (.int .i64 ((rd_T63 l0_3 x22_1).f1))) (fun _ hk => hk.2) (.int .i64 ((rd_T63 l0_3 x22_1).f2))) (fun _ h_ => h_.1))) hb); have n1_ := Aside0.mk (rL ho27 (bZ z_)); have n2_ := Aside0.mk (kB (g := gb213) (o := .cells #[.int .i64 a0_0, .int .i64 a0_1, .slice A0_2 l0_2.length c0_2, .slice (some ad223) l0_3.length c0_3] 31 (0, 0)) (by (with_reducible repeat (first | refine kN ?_ _ | refine kD ?_ | refine kA ?_ _)); refine kF ?_ NB213_224.out _; (with_reducible repeat (first | refine kN ?_ _ | refine kD ?_ | refine kA ?_ _)); refine kF ?_ NB213_224.out _; (with_reducible repeat (first | refine kN ?_ _ | refine kD ?_ | refine kA ?_ _)); refine kF ?_ NB213_224.out _; (with_reducible repeat (first | refine kN ?_ _ | refine kD ?_ | refine kA ?_ _)); exact BK213.out) hb); have n3_ := Aside0.mk (kB (g := gb224) (o := .cells #[.int .i64 ((rd_T63 l0_3 x22_1).f0), .int .i64 ((rd_T63 l0_3 x22_1).f1), .int .i64 ((rd_T63 l0_3 x22_1).f2)] 63 (0, 0)) (by (with_reducible repeat (first | refine kN ?_ _ | refine kD ?_ | refine kA ?_ _)); refine blk_put (cs := #[.int .i64 ((rd_T63 l0_3 x22_1).f0), .int .i64 ((rd_T63 l0_3 x22_1).f1), .int .i64 0]) ?_ 2 _ rfl; (with_reducible repeat (first | refine kN ?_ _ | refine kD ?_ | refine kA ?_ _)); refine blk_put (cs := #[.int .i64 ((rd_T63 l0_3 x22_1).f0), .int .i64 0, .int .i64 0]) ?_ 1 _ rfl; (with_reducible repeat (first | refine kN ?_ _ | refine kD ?_ | refine kA ?_ _)); refine blk_put (cs := #[.int .i64 0, .int .i64 0, .int .i64 0]) ?_ 0 _ rfl; (with_reducible repeat (first | refine kN ?_ _ | refine kD ?_ | refine kA ?_ _)); exact BK224.out) hb); have n4_ := Aside0.mk (bP z_ hb); clear HO_3; clear BK213; clear BK224; clear HB; have HO_3 := n0_; have HO227 := n1_; have BK213 := n2_; have BK224 := n3_; have HB := n4_; clear z_ n0_ n1_ n2_ n3_ n4_; clear hb ho27; obtain ⟨Ao28, co28, eo28⟩ := Kd.R_slice HO227.out; subst eo28) | ((with_reducible refine gC (f := 51) rfl ?_); refine goesL_ (some 34) rfl rfl Tryd.func51 (by kernel_rfl) rfl #[.slice Ao28 y225.length co28] rfl lQ ?_; (with_reducible refine (impl_ListText.calls k1 _ _ y225 t228 _ ?side1 ?side2 (by first | exact hT | exact TabR.below hT HB.out | exact TabR.below hT (by repeat (first | (with_reducible first | exact HB.out | apply bA | apply bN | apply bD | refine bS ?_ GE213.out | refine bS ?_ GE224.out) | exact HB.out)) | exact TabR.below hT (Below.refl _ _)) A21.out).mono ?_); (case side1 => exact cP (Kd.R_reads' HO227.out).2.2); (case side2 => exact (Kd.R_reads' HO227.out).2.1); rintro e w29 ⟨rfl, hb⟩; refine ⟨_, rfl, ?_⟩; have n0_ := Aside0.mk (rB (rQ HO_3) hb); have n1_ := Aside0.mk (rB (rQ HO227) hb); have n2_ := Aside0.mk (kB (kQ BK213) hb); have n3_ := Aside0.mk (kB (kQ BK224) hb); have n4_ := Aside0.mk (bP (by repeat (first | (with_reducible first | exact HB.out | apply bA | apply bN | apply bD | refine bS ?_ GE213.out | refine bS ?_ GE224.out) | exact HB.out)) hb); clear HO_3; clear HO227; clear BK213; clear BK224; clear HB; have HO_3 := n0_; have HO227 := n1_; have BK213 := n2_; have BK224 := n3_; have HB := n4_; clear n0_ n1_ n2_ n3_ n4_; (try clear hb); (try clear hb2); (try clear hk); (try clear hi)) | ((with_reducible refine gate_builtin (b := .append) (xs := #[.tmp 26, .tmp 35]) rfl ?_); at_builtin; refine Kd.R_append Kd.string (w0 := w) w.heap.size rfl (.tmp 26) (.tmp 35) 54 9 (.string ⟨#[]⟩) 16 rfl Tryd.underlying54 info9 rfl (by decide) (by omega) u3 x3_1 t228 [.string t228] (fun _ => True) (fun _ => False) rfl rfl ?aP (fun _ hk => hk.elim) ?aF ?aO ?aB ?aS ?aL ?_; (case aP => exact rfl); (case aB => exact (by repeat (first | (with_reducible first | exact HB.out | apply bA | apply bN | apply bD | refine bS ?_ GE213.out | refine bS ?_ GE224.out) | exact HB.out))); (case aF => exact (fun _ _ => trivial)); (case aO => exact (rQ HO_3)); (case aS => exact (bZ (by repeat (first | (with_reducible first | exact HB.out | apply bA | apply bN | apply bD | refine bS ?_ GE213.out | refine bS ?_ GE224.out) | exact HB.out)))); (case aL => have := LMc22.out; omega); intro v230 w30 ho hb hg hat; rw [← Ny229.out] at ho; have n0_ := Aside0.mk (blk_grown (kQ BK213) hg (Kd.R_ne HO_3.out BK213.out (by decide))); have n1_ := Aside0.mk (blk_grown (kQ BK224) hg (Kd.R_ne HO_3.out BK224.out (by decide))); have n2_ := Aside0.mk (Kd.R_over' (rQ HO227) (Kd.R_typed (rQ HO_3)) (by decide) hg); have n3_ := Aside0.mk (hb); have n4_ := Aside0.mk (ho); clear BK213; clear BK224; clear HO227; clear HB; clear HO_3; have BK213 := n0_; have BK224 := n1_; have HO227 := n2_; have HB := n3_; have HO231 := n4_; clear n0_ n1_ n2_ n3_ n4_; clear ho hb hg hat))
        go_roundg k1
        case measure => have := HK1.out; omega
        case rel => exact ⟨(y229), (wrap64 (x22_1 + 1)), eT, H', ⟨by have := HK1.out; omega⟩, ⟨rQ HO231⟩, ⟨kQ BK213⟩, ⟨by repeat (first | (with_reducible first | exact HB.out | apply bA | apply bN | apply bD | refine bS ?_ GE213.out | refine bS ?_ GE224.out) | exact HB.out)⟩⟩
       ·rw [if_neg c22] at H
        exact absurd H (by simp)
      ·rw [if_neg c20] at H
       exact absurd H (by simp)
     ·rw [if_neg c19] at H
      exact absurd H (by simp)
    ·rw [if_neg c18] at H
     have c18b0 : decide (x22_1 < (l0_3.length : Int)) = false := decide_eq_false c18
     clear c18
     replace H := Option.bind_eq_some_iff.mp H
     obtain ⟨t232, A310, H⟩ := H
     replace H : (some t232) = some r := H
     have A31 := Aside0.mk A310
     clear A310
     obtain rfl := Option.some.inj H
     obtain ⟨Ao32, co32, eo32⟩ := Kd.R_slice HO_3.out
     subst eo32
     go_wp2_with (first | ((with_reducible refine gC (f := 52) rfl ?_); refine goesL_ (some 39) rfl rfl Tryd.func52 (by kernel_rfl) rfl #[.slice Ao32 x3_1.length co32, .string (⟨#[59]⟩ : ByteArray)] rfl lQ ?_; (with_reducible refine (strings_Join.calls _ _ x3_1 (⟨#[59]⟩ : ByteArray) t232 _ ?side1 ?side2 A31.out).mono ?_); (case side1 => exact cP (Kd.R_reads' HO_3.out).2.2); (case side2 => exact (Kd.R_reads' HO_3.out).2.1); rintro e w33 ⟨rfl, hb⟩; refine ⟨_, rfl, ?_⟩; have n0_ := Aside0.mk (rB (rQ HO_3) hb); have n1_ := Aside0.mk (kB (kQ BK213) hb); have n2_ := Aside0.mk (bP (by repeat (first | (with_reducible first | exact HB.out | apply bA | apply bN | apply bD | refine bS ?_ GE213.out) | exact HB.out)) hb); clear HO_3; clear BK213; clear HB; have HO_3 := n0_; have BK213 := n1_; have HB := n2_; clear n0_ n1_ n2_; (try clear hb); (try clear hb2); (try clear hk); (try clear hi)))
     go_ret
     exact ⟨by first | rfl | (simp [errW_none, errW_some] <;> rfl) | (simp [*, errW_none, errW_some] <;> rfl), by repeat (first | (with_reducible first | exact HB.out | apply bA | apply bN | apply bD | refine bS ?_ GE213.out) | exact HB.out)⟩
 ·replace c3 := Bool.eq_false_iff.mpr c3
  subst c3
  have H1 : (some (⟨#[]⟩ : ByteArray)) = some r := by rw [if_neg (show ¬ (false = true) by decide)] at H; exact H
  clear H
  have H := H1
  clear H1
  obtain rfl := Option.some.inj H
  go_enter Tryd.func21, Tryd.ntmps21
  go_wp2_with (first | ((with_reducible refine gate_dst (N := 1) rfl ?_); refine bE ?hg (N := 1) ?hd (cs := #[.int .i64 a0_0, .int .i64 a0_1, .slice A0_2 l0_2.length c0_2, .slice A0_3 l0_3.length c0_3]) (t := 31) ?hr ?_; (case hd => rfl); (case hg => rfl); (case hr => first | (go_simp; done) | (go_simp; rfl)); intro gb213 hg w34 hbox hb; have z_ := bX hb (hQ HB); have n0_ := Aside0.mk (bP z_ hb); have n1_ := Aside0.mk (hbox); have n2_ := Aside0.mk ((by rw [hg]; exact (bZ z_) : w.heap.size ≤ gb213)); have n3_ := Aside0.mk ((by rw [hg]; exact (bZ z_) : w.heap.size ≤ gb213)); clear HB; have HB := n0_; have BK213 := n1_; have GW213 := n2_; have GE213 := n3_; clear z_ n0_ n1_ n2_ n3_; clear hb hbox hg; obtain ⟨hcz35_0, hcz35_1, hcz35_2, hcz35_3⟩ := cZ4 BK213.out; obtain ⟨hfz35_0, hfz35_1, hfz35_2, hfz35_3⟩ := fZ4 BK213.out) | ((with_reducible refine gC (f := 50) rfl ?_); refine goesL_ (some 7) rfl rfl Tryd.func50 (by kernel_rfl) rfl #[.agg #[.int .i64 a0_0, .int .i64 a0_1, .slice A0_2 l0_2.length c0_2, .slice A0_3 l0_3.length c0_3]] rfl lQ ?_; (with_reducible refine (impl_ValidGrammar.calls k a0_0 a0_1 _ _ l0_2 _ _ l0_3 false _ ?side1 ?side2 ?side3 ?side4 A2.out).mono ?_); (case side1 => exact cP (cB HR0_2.out HB.out)); (case side2 => exact HC0_2.out); (case side3 => exact cP (cB HR0_3.out HB.out)); (case side4 => exact HC0_3.out); rintro e w36 ⟨rfl, hb⟩; refine ⟨_, rfl, ?_⟩; have n0_ := Aside0.mk (kB (kQ BK213) hb); have n1_ := Aside0.mk (bP (by repeat (first | (with_reducible first | exact HB.out | apply bA | apply bN | apply bD | refine bS ?_ GE213.out) | exact HB.out)) hb); clear BK213; clear HB; have BK213 := n0_; have HB := n1_; clear n0_ n1_; (try clear hb); (try clear hb2); (try clear hk); (try clear hi)))
  go_ret
  exact ⟨by first | rfl | (simp [errW_none, errW_some] <;> rfl) | (simp [*, errW_none, errW_some] <;> rfl), by repeat (first | (with_reducible first | exact HB.out | apply bA | apply bN | apply bD | refine bS ?_ GE213.out) | exact HB.out)⟩


/-! ### strings_SplitN: function 31 -/
theorem strings_SplitN.row_ (W : World) (l : List ByteArray) (N e : Nat) (hN : l.length ≤ N) (hm : N ≤ maxLen) : Kd.R Kd.string e (W.alloc (.cells (Lib.cellsOf l N) e)) W.heap.size (fun _ => True) (.slice (some ⟨W.heap.size, 0, none⟩) l.length N) l := by
 refine ⟨fun _ _ => trivial, l.map Value.string, ⟨?_, .inr ⟨W.heap.size, N, Lib.cellsOf l N, rfl, Nat.le_refl _, by simpa using heap_alloc_new W _, hN, hm, ?_, ?_⟩⟩, ?_, ?_⟩
 ·show (l.map Value.string).length = l.length * 1
  rw [List.length_map, Nat.mul_one]
 ·show (Lib.cellsOf l N).size = N * 1
  rw [Lib.cellsOf_size hN, Nat.mul_one]
 ·show (Lib.cellsOf l N).toList.take (l.length * 1) = l.map Value.string
  unfold Lib.cellsOf
  rw [Nat.mul_one, List.toList_toArray, List.take_append_of_le_length (by rw [List.length_map]; exact Nat.le_refl _), List.take_of_length_le (by rw [List.length_map]; exact Nat.le_refl _)]
 ·show (l.map Value.string).length = l.length * 1
  rw [List.length_map, Nat.mul_one]
 ·intro j p hj
  show ((l.map Value.string).drop (j * 1)).take 1 = [Value.string p]
  have hlt : j < l.length := by
   rcases Nat.lt_or_ge j l.length with q | q
   ·exact q
   ·rw [List.getElem?_eq_none q] at hj; cases hj
  rw [List.getElem?_eq_getElem hlt] at hj
  rw [Nat.mul_one, List.drop_eq_getElem_cons (by rw [List.length_map]; exact hlt), List.getElem_map, Option.some.inj hj]
  rfl
def strings_SplitN.f (a0 a1 : ByteArray) (a2 : Int) : Option (List ByteArray) := if a0.size ≤ 1048576 ∧ 1 ≤ a1.size ∧ 1 ≤ a2 ∧ a2 ≤ 1048576 then some (Lib.splitB a1 0 (min a2.toNat (a0.size + 1) - 1) a0) else none
set_option maxHeartbeats 4000000 in
set_option maxRecDepth 100000 in
theorem strings_SplitN.calls (a0 : ByteArray) (a1 : ByteArray) (a2 : Int) (r : List ByteArray) (w : World) (hT : TabR w) (h : strings_SplitN.f a0 a1 a2 = some r) :
  Calls Tryd.prog 31 #[.string a0, .string a1, .int .i64 a2] w fun e w' => ∃ v0_ : Value, e = .returned (v0_) ∧ Kd.R Kd.string 9 w' w.heap.size (fun _ => True) v0_ r ∧ Below w.heap.size w w' := by
 unfold strings_SplitN.f at h
 by_cases c : a0.size ≤ 1048576 ∧ 1 ≤ a1.size ∧ 1 ≤ a2 ∧ a2 ≤ 1048576
 ·rw [if_pos c] at h
  obtain rfl := Option.some.inj h
  obtain ⟨c1, c2, c3, c4⟩ := c
  obtain ⟨m, hm⟩ := hT.most
  obtain ⟨n, rfl⟩ : ∃ n : Nat, a2 = (n : Int) := ⟨a2.toNat, by omega⟩
  refine (Tryd.strings_SplitN a0 a1 n m w (by omega) hm c2 (by omega) (by omega)).mono ?_
  rintro e w' ⟨rfl, rfl⟩
  rw [Int.toNat_natCast]
  have hl := Lib.splitB_length_le a1 0 (min n (a0.size + 1) - 1) a0
  exact ⟨_, rfl, strings_SplitN.row_ w _ _ _ (by omega) (by unfold maxLen; omega), below_alloc (Below.refl _ _) _⟩
 ·rw [if_neg c] at h
  cases h

/-! ### impl_ReadDecimal: function 63 -/
def impl_ReadDecimal.tp (a0 : ByteArray) : ByteArray := ⟨(Lib.trimPrefix a0.data.toList [45]).toArray⟩
def impl_ReadDecimal.g (a0 : ByteArray) (v : Int) : Option (Int × Bool) := if -9223372036854775808 ≤ v ∧ v ≤ 9223372036854775807 then (if (impl_ReadDecimal.tp a0).size ≤ 18 then (if (⟨(Lib.itoa v).toArray⟩ : ByteArray).toList = a0.toList then some (v, true) else some (0, false)) else some (0, false)) else none
def impl_ReadDecimal.f (a0 : ByteArray) : Option (Int × Bool) :=
 if a0.size ≤ 1048576 then (match Lib.parseIntB 64 a0.data.toList with | .ok v => impl_ReadDecimal.g a0 v | .«syntax» => some (0, false) | .range => some (0, false)) else none
set_option maxHeartbeats 4000000 in
set_option maxRecDepth 100000 in
theorem impl_ReadDecimal.ok_ (a0 : ByteArray) (v r1 : Int) (r2 : Bool) (w : World) (hT : TabR w) (hs : a0.size ≤ 1048576) (hp : Lib.parseIntB 64 a0.data.toList = .ok v) (h : impl_ReadDecimal.g a0 v = some (r1, r2)) :
  Calls Tryd.prog 63 #[.string a0] w fun e w' => e = .returned (.tuple #[.int .i64 r1, .bool r2]) ∧ Below w.heap.size w w' := by
 unfold impl_ReadDecimal.g at h
 by_cases cv : -9223372036854775808 ≤ v ∧ v ≤ 9223372036854775807
 ·rw [if_pos cv] at h
  have hd : impl_Decimal.f v = some ⟨(Lib.itoa v).toArray⟩ := by unfold impl_Decimal.f; rw [if_pos cv]
  obtain ⟨dn, hdn⟩ : ∃ dn : ByteArray, dn = ⟨(Lib.itoa v).toArray⟩ := ⟨_, rfl⟩
  obtain ⟨tp, htp⟩ : ∃ tp : ByteArray, tp = impl_ReadDecimal.tp a0 := ⟨_, rfl⟩
  rw [← hdn] at hd h
  rw [← htp] at h
  have HP := Aside0.mk hp
  have HD := Aside0.mk hd
  have HTP := Aside0.mk htp
  have HS := Aside0.mk hs
  clear hp hdn hd htp hs cv
  by_cases c1 : tp.size ≤ 18
  ·rw [if_pos c1] at h
   have c1b : decide ((tp.size : Int) > 18) = false := decide_eq_false (by omega)
   have c1c : ((18 : Int) < tp.size) = False := eq_false (by omega)
   clear c1
   by_cases c2 : dn.toList = a0.toList
   ·rw [if_pos c2] at h
    obtain ⟨rfl, rfl⟩ := Prod.mk.inj (Option.some.inj h)
    have c2b0 : (dn.toList == a0.toList) = true := beq_iff_eq.mpr c2
    have c2b1 : (dn.toList != a0.toList) = false := bne_eq_false_iff_eq.mpr c2
    clear c2 h
    go_enter Tryd.func63, Tryd.ntmps63
    go_wp2_with (first
     | (go_at_call 98; refine (Tryd.strconv_ParseInt_10_at64_ok a0 (by have := HS.out; omega) v HP.out _).mono ?_; rintro e w1 ⟨rfl, hw⟩; have HB := Aside0.mk (show Below w.heap.size w w1 by (first | (rcases hw with rfl | ⟨t, rfl⟩ <;> first | exact Below.refl _ _ | exact bytes_below (Below.refl _ _) (Nat.le_refl _) _ _))); clear hw)
     | (go_at_call 99; refine (Tryd.strings_TrimPrefix a0 ⟨#[45]⟩ _).mono ?_; rintro e w2 ⟨he, rfl⟩; replace he : e = .returned (.string (impl_ReadDecimal.tp a0)) := he; rw [← HTP.out] at he; subst he)
     | (go_at_call 78; refine (impl_Decimal.calls v dn _ (by first | exact TabR.below hT HB.out | exact TabR.below hT (pw_below_drewN HB.out _)) HD.out).mono ?_; rintro e w3 ⟨rfl, hb3⟩; have HB2 := Aside0.mk (below_step (by first | exact HB.out | exact pw_below_drewN HB.out _) hb3); clear hb3))
    go_ret2
    exact ⟨rfl, by repeat (first | exact HB2.out | apply below_alloc | apply pw_below_drewN)⟩
   ·rw [if_neg c2] at h
    obtain ⟨rfl, rfl⟩ := Prod.mk.inj (Option.some.inj h)
    have c2b0 : (dn.toList == a0.toList) = false := beq_eq_false_iff_ne.mpr c2
    have c2b1 : (dn.toList != a0.toList) = true := bne_iff_ne.mpr c2
    clear c2 h
    go_enter Tryd.func63, Tryd.ntmps63
    go_wp2_with (first
     | (go_at_call 98; refine (Tryd.strconv_ParseInt_10_at64_ok a0 (by have := HS.out; omega) v HP.out _).mono ?_; rintro e w1 ⟨rfl, hw⟩; have HB := Aside0.mk (show Below w.heap.size w w1 by (first | (rcases hw with rfl | ⟨t, rfl⟩ <;> first | exact Below.refl _ _ | exact bytes_below (Below.refl _ _) (Nat.le_refl _) _ _))); clear hw)
     | (go_at_call 99; refine (Tryd.strings_TrimPrefix a0 ⟨#[45]⟩ _).mono ?_; rintro e w2 ⟨he, rfl⟩; replace he : e = .returned (.string (impl_ReadDecimal.tp a0)) := he; rw [← HTP.out] at he; subst he)
     | (go_at_call 78; refine (impl_Decimal.calls v dn _ (by first | exact TabR.below hT HB.out | exact TabR.below hT (pw_below_drewN HB.out _)) HD.out).mono ?_; rintro e w3 ⟨rfl, hb3⟩; have HB2 := Aside0.mk (below_step (by first | exact HB.out | exact pw_below_drewN HB.out _) hb3); clear hb3))
    go_ret2
    exact ⟨rfl, by repeat (first | exact HB2.out | apply below_alloc | apply pw_below_drewN)⟩
  ·rw [if_neg c1] at h
   obtain ⟨rfl, rfl⟩ := Prod.mk.inj (Option.some.inj h)
   have c1b : decide ((tp.size : Int) > 18) = true := decide_eq_true (by omega)
   have c1c : ((18 : Int) < tp.size) = True := eq_true (by omega)
   clear c1 h
   go_enter Tryd.func63, Tryd.ntmps63
   go_wp2_with (first
    | (go_at_call 98; refine (Tryd.strconv_ParseInt_10_at64_ok a0 (by have := HS.out; omega) v HP.out _).mono ?_; rintro e w1 ⟨rfl, hw⟩; have HB := Aside0.mk (show Below w.heap.size w w1 by (first | (rcases hw with rfl | ⟨t, rfl⟩ <;> first | exact Below.refl _ _ | exact bytes_below (Below.refl _ _) (Nat.le_refl _) _ _))); clear hw)
    | (go_at_call 99; refine (Tryd.strings_TrimPrefix a0 ⟨#[45]⟩ _).mono ?_; rintro e w2 ⟨he, rfl⟩; replace he : e = .returned (.string (impl_ReadDecimal.tp a0)) := he; rw [← HTP.out] at he; subst he))
   go_ret2
   exact ⟨rfl, by repeat (first | exact HB.out | apply below_alloc | apply pw_below_drewN)⟩
 ·rw [if_neg cv] at h
  cases h
set_option maxHeartbeats 4000000 in
set_option maxRecDepth 100000 in
theorem impl_ReadDecimal.calls (a0 : ByteArray) (r1 : Int) (r2 : Bool) (w : World) (hT : TabR w) (h : impl_ReadDecimal.f a0 = some (r1, r2)) :
  Calls Tryd.prog 63 #[.string a0] w fun e w' => e = .returned (.tuple #[.int .i64 r1, .bool r2]) ∧ Below w.heap.size w w' := by
 unfold impl_ReadDecimal.f at h
 by_cases c : a0.size ≤ 1048576
 ·rw [if_pos c] at h
  cases hp : Lib.parseIntB 64 a0.data.toList with
  | ok v => rw [hp] at h; exact impl_ReadDecimal.ok_ a0 v r1 r2 w hT c hp h
  | «syntax» =>
   rw [hp] at h
   obtain ⟨rfl, rfl⟩ := Prod.mk.inj (Option.some.inj h)
   clear h
   have HP := Aside0.mk hp
   have HS := Aside0.mk c
   clear hp c
   obtain ⟨ev, hv, hev⟩ := hT.syn
   go_enter Tryd.func63, Tryd.ntmps63
   go_wp2_with (go_at_call 98; refine (Tryd.strconv_ParseInt_10_at64_syntax a0 (by have := HS.out; omega) HP.out ev _ hv hev).mono ?_; rintro e w1 ⟨N, rfl, -, -, hb⟩; have HB := Aside0.mk hb; clear hb)
   go_ret2
   exact ⟨rfl, by repeat (first | exact HB.out | apply below_alloc | apply pw_below_drewN)⟩
  | range =>
   rw [hp] at h
   obtain ⟨rfl, rfl⟩ := Prod.mk.inj (Option.some.inj h)
   clear h
   have HP := Aside0.mk hp
   have HS := Aside0.mk c
   clear hp c
   obtain ⟨ev, hv, hev⟩ := hT.rng
   go_enter Tryd.func63, Tryd.ntmps63
   go_wp2_with (go_at_call 98; refine (Tryd.strconv_ParseInt_10_at64_range a0 (by have := HS.out; omega) HP.out ev _ hv hev).mono ?_; rintro e w1 ⟨N, rfl, -, -, hb⟩; have HB := Aside0.mk hb; clear hb)
   go_ret2
   exact ⟨rfl, by repeat (first | exact HB.out | apply below_alloc | apply pw_below_drewN)⟩
 ·rw [if_neg c] at h
  cases h


/-! ### impl_ReadList: function 32 -/
def impl_ReadList.l0 : Nat → ByteArray → List Int → List ByteArray → Int → Int → Option (List Int × Bool)
 | 0, _, _, _, _, _ => none
 | k + 1, x0, x4, x12, x13, x14 => if x14 < x13 then (if 0 ≤ x14 then (if x14 < (x12.length : Int) then ((impl_ReadDecimal.f (rdOf ByteArray.empty x12 x14)).bind fun bt237 => (if bt237.2 = true then (if x4.length < 17592186044416 then (impl_ReadList.l0 k x0 (x4 ++ [bt237.1]) x12 x13 (wrap64 (x14 + 1))) else (none)) else (some (([] : List Int), false)))) else (none)) else (none)) else ((impl_ListText.f k x4).bind fun t242 => (if t242.toList = x0.toList then (some (x4, true)) else (some (([] : List Int), false))))
def impl_ReadList.f (k : Nat) (a0 : ByteArray) : Option (List Int × Bool) := if a0.toList = ([45] : List UInt8) then (some (([] : List Int), true)) else ((strings_SplitN.f a0 (⟨#[44]⟩ : ByteArray) 65).bind fun t233 => (impl_ReadList.l0 k a0 ([] : List Int) t233 (t233.length : Int) 0))
theorem impl_ReadList.mono_l : ∀ k, (∀ y0 y1 y2 y3 y4, LeO (impl_ReadList.l0 k y0 y1 y2 y3 y4) (impl_ReadList.l0 (k + 1) y0 y1 y2 y3 y4))
 | 0 => fun _ _ _ _ _ r h => by simp [impl_ReadList.l0] at h
 | k + 1 => by
  have ih0 := impl_ReadList.mono_l k
  ·intro y0 y1 y2 y3 y4
   unfold impl_ReadList.l0
   repeat' first
   | (with_reducible exact ih0 _ _ _ _ _)
   | (with_reducible exact impl_ListText.mono _ _)
   | (with_reducible exact LeO.refl _)
   | (with_reducible exact LeO.none _)
   | (with_reducible refine LeO.ite ?_ ?_)
   | (with_reducible refine LeO.bind ?_ (fun _ => ?_))
   | exact ih0 _ _ _ _ _
   | exact impl_ListText.mono _ _
   | exact LeO.none _
   | refine LeO.ite ?_ ?_
   | refine LeO.bind ?_ (fun _ => ?_)
theorem impl_ReadList.mono : ∀ a0 k, LeO (impl_ReadList.f k a0) (impl_ReadList.f (k + 1) a0) := by
 intro a0 k
 have ih0 := impl_ReadList.mono_l k
 unfold impl_ReadList.f
 repeat' first
   | (with_reducible exact ih0 _ _ _ _ _)
   | (with_reducible exact impl_ListText.mono _ _)
   | (with_reducible exact LeO.refl _)
   | (with_reducible exact LeO.none _)
   | (with_reducible refine LeO.ite ?_ ?_)
   | (with_reducible refine LeO.bind ?_ (fun _ => ?_))
   | exact ih0 _ _ _ _ _
   | exact impl_ListText.mono _ _
   | exact LeO.none _
   | refine LeO.ite ?_ ?_
   | refine LeO.bind ?_ (fun _ => ?_)
set_option maxHeartbeats 8000000 in
set_option maxRecDepth 100000 in
theorem impl_ReadList.calls (k : Nat) (a0 : ByteArray) (r1 : List Int) (r2 : Bool) (w : World) (hT : TabR w) (h : impl_ReadList.f k a0 = some (r1, r2)) :
  Calls Tryd.prog 32 #[.string a0] w fun e w' => ∃ v0_ : Value, e = .returned (.tuple #[v0_, .bool r2]) ∧ Kd.R (Kd.int .i64) 2 w' w.heap.size (fun _ => True) v0_ r1 ∧ Below w.heap.size w w' := by
 have HB := Aside0.mk (Below.refl w.heap.size w)
 have H : (if a0.toList = ([45] : List UInt8) then (some (([] : List Int), true)) else ((strings_SplitN.f a0 (⟨#[44]⟩ : ByteArray) 65).bind fun t233 => (impl_ReadList.l0 k a0 ([] : List Int) t233 (t233.length : Int) 0))) = some (r1, r2) := h
 clear h
 by_cases c2 : a0.toList = ([45] : List UInt8)
 ·rw [if_pos c2] at H
  have c2b0 : (a0.toList == ([45] : List UInt8)) = true := beq_iff_eq.mpr c2
  have c2b1 : (a0.toList != ([45] : List UInt8)) = false := bne_eq_false_iff_eq.mpr c2
  clear c2
  simp only [Option.some.injEq, Prod.mk.injEq] at H
  obtain ⟨rfl, rfl⟩ := H
  go_enter Tryd.func32, Tryd.ntmps32
  go_wp2
  go_ret2
  exact ⟨_, by first | rfl | (simp [errW_none, errW_some] <;> rfl) | (simp [*, errW_none, errW_some] <;> rfl), by first | exact Kd.R_nil _ _ _ _ _ | exact Kd.N_nil _ _ _ _ _ | exact Kd.V_nil _ _ _ _ _ | exact Kd.Q_nil _ _ _ _ _ | exact Kd.S_nil _ _ _ _ _, hQ HB⟩
 ·rw [if_neg c2] at H
  have c2b0 : (a0.toList == ([45] : List UInt8)) = false := beq_eq_false_iff_ne.mpr c2
  have c2b1 : (a0.toList != ([45] : List UInt8)) = true := bne_iff_ne.mpr c2
  replace H := Option.bind_eq_some_iff.mp H
  obtain ⟨t233, A30, H⟩ := H
  replace H : (impl_ReadList.l0 k a0 ([] : List Int) t233 (t233.length : Int) 0) = some (r1, r2) := H
  have A3 := Aside0.mk A30
  clear A30
  have H' := Aside0.mk H
  clear H
  go_enter Tryd.func32, Tryd.ntmps32
  go_wp2_with (first | ((with_reducible refine gC (f := 31) rfl ?_); refine goesL_ (some 12) rfl rfl Tryd.func31 (by kernel_rfl) rfl #[.string a0, .string (⟨#[44]⟩ : ByteArray), .int .i64 65] rfl lQ ?_; (with_reducible refine (strings_SplitN.calls a0 (⟨#[44]⟩ : ByteArray) 65 t233 _ (by first | exact hT | exact TabR.below hT HB.out | exact TabR.below hT (hQ HB) | exact TabR.below hT (Below.refl _ _)) A3.out).mono ?_); rintro e w4 ⟨v234, rfl, ho0, hb⟩; refine ⟨_, rfl, ?_⟩; have z_ := bX hb (hQ HB); have n0_ := Aside0.mk (rL ho0 (bZ z_)); have n1_ := Aside0.mk (bP z_ hb); clear HB; have HO235 := n0_; have HB := n1_; clear z_ n0_ n1_; (try clear hb); (try clear hb2); (try clear hk); (try clear hi); (try clear ho0); obtain ⟨Ao5, co5, eo5⟩ := Kd.R_slice HO235.out; subst eo5))
  go_loopg [4, 14] k (fun kq v4 v14 w' => ∃ (x4_1 : List Int) (x14_1 : Int), v14 = .int .i64 x14_1 ∧ Aside0 (impl_ReadList.l0 kq a0 x4_1 t233 (t233.length : Int) x14_1 = some (r1, r2)) ∧ Aside0 (kq ≤ k) ∧ Aside0 (Kd.R (Kd.int .i64) 2 w' w.heap.size (fun _ => True) v4 x4_1) ∧ Aside0 (Kd.R Kd.string 9 w' w.heap.size (fun _ => True) (.slice Ao5 t233.length co5) t233) ∧ Aside0 (Below w.heap.size w w'))
  case atStart => exact ⟨(([] : List Int)), (0), eT, H', ⟨Nat.le_refl _⟩, ⟨by first | exact Kd.R_nil _ _ _ _ _ | exact Kd.N_nil _ _ _ _ _ | exact Kd.V_nil _ _ _ _ _ | exact Kd.Q_nil _ _ _ _ _ | exact Kd.S_nil _ _ _ _ _⟩, ⟨rQ HO235⟩, ⟨hQ HB⟩⟩
  case round =>
   clear H'
   try clear c2
   try clear c2b0
   try clear c2b1
   try clear p2
   try clear c3
   obtain ⟨x4_1, x14_1, rfl, HA, HK1, HO_4, HO_12, HB⟩ := hrel
   cases gk with
   | zero => exact absurd HA.out (by simp [impl_ReadList.l0])
   | succ k1 =>
    have H := HA.out
    clear HA
    simp only [impl_ReadList.l0] at H
    by_cases c6 : x14_1 < (t233.length : Int)
    ·rw [if_pos c6] at H
     have c6b0 : decide (x14_1 < (t233.length : Int)) = true := decide_eq_true c6
     clear c6
     by_cases c7 : 0 ≤ x14_1
     ·rw [if_pos c7] at H
      have c7b0 : decide (0 ≤ x14_1) = true := decide_eq_true c7
      clear c7
      by_cases c8 : x14_1 < (t233.length : Int)
      ·rw [if_pos c8] at H
       have c8b0 : decide (x14_1 < (t233.length : Int)) = true := decide_eq_true c8
       clear c8
       replace H := Option.bind_eq_some_iff.mp H
       obtain ⟨⟨t237, t238⟩, A90, H⟩ := H
       replace H : (if t238 = true then (if x4_1.length < 17592186044416 then (impl_ReadList.l0 k1 a0 (x4_1 ++ [t237]) t233 (t233.length : Int) (wrap64 (x14_1 + 1))) else (none)) else (some (([] : List Int), false))) = some (r1, r2) := H
       have A9 := Aside0.mk A90
       clear A90
       by_cases c10 : t238 = true
       ·subst c10
        have H1 : (if x4_1.length < 17592186044416 then (impl_ReadList.l0 k1 a0 (x4_1 ++ [t237]) t233 (t233.length : Int) (wrap64 (x14_1 + 1))) else (none)) = some (r1, r2) := by rw [if_pos rfl] at H; exact H
        clear H
        have H := H1
        clear H1
        by_cases c11 : x4_1.length < 17592186044416
        ·rw [if_pos c11] at H
         have LMc11 := Aside0.mk c11
         clear c11
         obtain ⟨y239, hy239⟩ : ∃ y_ : List Int, y_ = (x4_1 ++ [t237]) := ⟨_, rfl⟩
         replace H : (impl_ReadList.l0 k1 a0 y239 t233 (t233.length : Int) (wrap64 (x14_1 + 1))) = some (r1, r2) := by first | (rw [hy239]; with_reducible exact H) | (have H2_ := (Option.bind_some _ _).symm.trans H; rw [hy239]; with_reducible exact H2_) | (have H2_ := (Option.bind_some _ _).symm.trans H; with_reducible exact H2_) | with_reducible exact H | (rw [hy239]; exact H) | exact H
         have Ny239 := Aside0.mk hy239
         clear hy239
         have H' := Aside0.mk H
         clear H
         have p236 : 0 ≤ (x14_1 : Int) := oT
         have q236 : x14_1 < (t233.length : Int) := oT
         obtain ⟨ad236, e236, hx236_0⟩ := Kd.at_string (Kd.R_reads' HO_12.out).2.2 x14_1 p236 q236
         cases e236
         replace p236 := eq_true p236
         replace q236 := eq_true q236
         go_wp2_with (first | ((with_reducible refine gC (f := 63) rfl ?_); refine goesL_ (some 20) rfl rfl Tryd.func63 (by kernel_rfl) rfl #[.string (rdOf ByteArray.empty t233 x14_1)] rfl lQ ?_; (with_reducible refine (impl_ReadDecimal.calls (rdOf ByteArray.empty t233 x14_1) t237 true _ (by first | exact hT | exact TabR.below hT HB.out | exact TabR.below hT (hQ HB) | exact TabR.below hT (Below.refl _ _)) A9.out).mono ?_); rintro e w12 ⟨rfl, hb⟩; refine ⟨_, rfl, ?_⟩; have n0_ := Aside0.mk (rB (rQ HO_4) hb); have n1_ := Aside0.mk (rB (rQ HO_12) hb); have n2_ := Aside0.mk (bP (hQ HB) hb); clear HO_4; clear HO_12; clear HB; have HO_4 := n0_; have HO_12 := n1_; have HB := n2_; clear n0_ n1_ n2_; (try clear hb); (try clear hb2); (try clear hk); (try clear hi)) | ((with_reducible refine gate_builtin (b := .append) (xs := #[.tmp 25, .tmp 27]) rfl ?_); at_builtin; refine Kd.R_append (Kd.int .i64) (w0 := w) w.heap.size rfl (.tmp 25) (.tmp 27) 28 2 (.int .i64 0) 8 rfl Tryd.underlying28 info2 rfl (by decide) (by omega) u4 x4_1 t237 [.int .i64 t237] (fun _ => True) (fun _ => False) rfl rfl ?aP (fun _ hk => hk.elim) ?aF ?aO ?aB ?aS ?aL ?_; (case aP => exact rfl); (case aB => exact (hQ HB)); (case aF => exact (fun _ _ => trivial)); (case aO => exact (rQ HO_4)); (case aS => exact (bZ (hQ HB))); (case aL => have := LMc11.out; omega); intro v240 w13 ho hb hg hat; rw [← Ny239.out] at ho; have n0_ := Aside0.mk (Kd.R_over' (rQ HO_12) (Kd.R_typed (rQ HO_4)) (by decide) hg); have n1_ := Aside0.mk (hb); have n2_ := Aside0.mk (ho); clear HO_12; clear HB; clear HO_4; have HO_12 := n0_; have HB := n1_; have HO241 := n2_; clear n0_ n1_ n2_; clear ho hb hg hat))
         go_roundg k1
         case measure => have := HK1.out; omega
         case rel => exact ⟨(y239), (wrap64 (x14_1 + 1)), eT, H', ⟨by have := HK1.out; omega⟩, ⟨rQ HO241⟩, ⟨rQ HO_12⟩, ⟨hQ HB⟩⟩
        ·rw [if_neg c11] at H
         exact absurd H (by simp)
       ·replace c10 := Bool.eq_false_iff.mpr c10
        subst c10
        have H1 : (some (([] : List Int), false)) = some (r1, r2) := by rw [if_neg (show ¬ (false = true) by decide)] at H; exact H
        clear H
        have H := H1
        clear H1
        simp only [Option.some.injEq, Prod.mk.injEq] at H
        obtain ⟨rfl, rfl⟩ := H
        have p236 : 0 ≤ (x14_1 : Int) := oT
        have q236 : x14_1 < (t233.length : Int) := oT
        obtain ⟨ad236, e236, hx236_0⟩ := Kd.at_string (Kd.R_reads' HO_12.out).2.2 x14_1 p236 q236
        cases e236
        replace p236 := eq_true p236
        replace q236 := eq_true q236
        go_wp2_with (first | ((with_reducible refine gC (f := 63) rfl ?_); refine goesL_ (some 20) rfl rfl Tryd.func63 (by kernel_rfl) rfl #[.string (rdOf ByteArray.empty t233 x14_1)] rfl lQ ?_; (with_reducible refine (impl_ReadDecimal.calls (rdOf ByteArray.empty t233 x14_1) t237 false _ (by first | exact hT | exact TabR.below hT HB.out | exact TabR.below hT (hQ HB) | exact TabR.below hT (Below.refl _ _)) A9.out).mono ?_); rintro e w14 ⟨rfl, hb⟩; refine ⟨_, rfl, ?_⟩; have n0_ := Aside0.mk (rB (rQ HO_4) hb); have n1_ := Aside0.mk (rB (rQ HO_12) hb); have n2_ := Aside0.mk (bP (hQ HB) hb); clear HO_4; clear HO_12; clear HB; have HO_4 := n0_; have HO_12 := n1_; have HB := n2_; clear n0_ n1_ n2_; (try clear hb); (try clear hb2); (try clear hk); (try clear hi)))
        go_ret2
        exact ⟨_, by first | rfl | (simp [errW_none, errW_some] <;> rfl) | (simp [*, errW_none, errW_some] <;> rfl), by first | exact Kd.R_nil _ _ _ _ _ | exact Kd.N_nil _ _ _ _ _ | exact Kd.V_nil _ _ _ _ _ | exact Kd.Q_nil _ _ _ _ _ | exact Kd.S_nil _ _ _ _ _, hQ HB⟩
      ·rw [if_neg c8] at H
       exact absurd H (by simp)
     ·rw [if_neg c7] at H
      exact absurd H (by simp)
    ·rw [if_neg c6] at H
     have c6b0 : decide (x14_1 < (t233.length : Int)) = false := decide_eq_false c6
     clear c6
     replace H := Option.bind_eq_some_iff.mp H
     obtain ⟨t242, A150, H⟩ := H
     replace H : (if t242.toList = a0.toList then (some (x4_1, true)) else (some (([] : List Int), false))) = some (r1, r2) := H
     have A15 := Aside0.mk A150
     clear A150
     by_cases c16 : t242.toList = a0.toList
     ·rw [if_pos c16] at H
      have c16b0 : (t242.toList == a0.toList) = true := beq_iff_eq.mpr c16
      have c16b1 : (t242.toList != a0.toList) = false := bne_eq_false_iff_eq.mpr c16
      clear c16
      simp only [Option.some.injEq, Prod.mk.injEq] at H
      obtain ⟨rfl, rfl⟩ := H
      obtain ⟨Ao17, co17, eo17⟩ := Kd.R_slice HO_4.out
      subst eo17
      go_wp2_with (first | ((with_reducible refine gC (f := 51) rfl ?_); refine goesL_ (some 31) rfl rfl Tryd.func51 (by kernel_rfl) rfl #[.slice Ao17 x4_1.length co17] rfl lQ ?_; (with_reducible refine (impl_ListText.calls k1 _ _ x4_1 t242 _ ?side1 ?side2 (by first | exact hT | exact TabR.below hT HB.out | exact TabR.below hT (hQ HB) | exact TabR.below hT (Below.refl _ _)) A15.out).mono ?_); (case side1 => exact cP (Kd.R_reads' HO_4.out).2.2); (case side2 => exact (Kd.R_reads' HO_4.out).2.1); rintro e w18 ⟨rfl, hb⟩; refine ⟨_, rfl, ?_⟩; have n0_ := Aside0.mk (rB (rQ HO_4) hb); have n1_ := Aside0.mk (rB (rQ HO_12) hb); have n2_ := Aside0.mk (bP (hQ HB) hb); clear HO_4; clear HO_12; clear HB; have HO_4 := n0_; have HO_12 := n1_; have HB := n2_; clear n0_ n1_ n2_; (try clear hb); (try clear hb2); (try clear hk); (try clear hi)))
      go_ret2
      exact ⟨_, by first | rfl | (simp [errW_none, errW_some] <;> rfl) | (simp [*, errW_none, errW_some] <;> rfl), by (with_reducible repeat (first | apply rA | apply rN | apply rD)); exact HO_4.out, hQ HB⟩
     ·rw [if_neg c16] at H
      have c16b0 : (t242.toList == a0.toList) = false := beq_eq_false_iff_ne.mpr c16
      have c16b1 : (t242.toList != a0.toList) = true := bne_iff_ne.mpr c16
      simp only [Option.some.injEq, Prod.mk.injEq] at H
      obtain ⟨rfl, rfl⟩ := H
      obtain ⟨Ao19, co19, eo19⟩ := Kd.R_slice HO_4.out
      subst eo19
      go_wp2_with (first | ((with_reducible refine gC (f := 51) rfl ?_); refine goesL_ (some 31) rfl rfl Tryd.func51 (by kernel_rfl) rfl #[.slice Ao19 x4_1.length co19] rfl lQ ?_; (with_reducible refine (impl_ListText.calls k1 _ _ x4_1 t242 _ ?side1 ?side2 (by first | exact hT | exact TabR.below hT HB.out | exact TabR.below hT (hQ HB) | exact TabR.below hT (Below.refl _ _)) A15.out).mono ?_); (case side1 => exact cP (Kd.R_reads' HO_4.out).2.2); (case side2 => exact (Kd.R_reads' HO_4.out).2.1); rintro e w20 ⟨rfl, hb⟩; refine ⟨_, rfl, ?_⟩; have n0_ := Aside0.mk (rB (rQ HO_4) hb); have n1_ := Aside0.mk (rB (rQ HO_12) hb); have n2_ := Aside0.mk (bP (hQ HB) hb); clear HO_4; clear HO_12; clear HB; have HO_4 := n0_; have HO_12 := n1_; have HB := n2_; clear n0_ n1_ n2_; (try clear hb); (try clear hb2); (try clear hk); (try clear hi)))
      go_ret2
      exact ⟨_, by first | rfl | (simp [errW_none, errW_some] <;> rfl) | (simp [*, errW_none, errW_some] <;> rfl), by first | exact Kd.R_nil _ _ _ _ _ | exact Kd.N_nil _ _ _ _ _ | exact Kd.V_nil _ _ _ _ _ | exact Kd.Q_nil _ _ _ _ _ | exact Kd.S_nil _ _ _ _ _, hQ HB⟩

/-! ### strings_Split: function 40 -/
def strings_Split.f (a0 a1 : ByteArray) : Option (List ByteArray) := if a0.size ≤ 1048576 ∧ 1 ≤ a1.size then some (Lib.splitB a1 0 (Lib.countB a0 a1) a0) else none
theorem strings_Split.row_ (W : World) (l : List ByteArray) (e : Nat) (hm : l.length ≤ maxLen) : Kd.R Kd.string e (W.alloc (.cells (l.map Value.string).toArray e)) W.heap.size (fun _ => True) (.slice (some ⟨W.heap.size, 0, none⟩) l.length l.length) l := by
 refine ⟨fun _ _ => trivial, l.map Value.string, ⟨?_, .inr ⟨W.heap.size, l.length, (l.map Value.string).toArray, rfl, Nat.le_refl _, by simpa using heap_alloc_new W _, Nat.le_refl _, hm, ?_, ?_⟩⟩, ?_, ?_⟩
 ·show (l.map Value.string).length = l.length * 1
  rw [List.length_map, Nat.mul_one]
 ·show (l.map Value.string).toArray.size = l.length * 1
  rw [List.size_toArray, List.length_map, Nat.mul_one]
 ·show (l.map Value.string).toArray.toList.take (l.length * 1) = l.map Value.string
  rw [Nat.mul_one, List.take_of_length_le (by rw [List.length_map]; exact Nat.le_refl _)]
 ·show (l.map Value.string).length = l.length * 1
  rw [List.length_map, Nat.mul_one]
 ·intro j p hj
  show ((l.map Value.string).drop (j * 1)).take 1 = [Value.string p]
  have hlt : j < l.length := by
   rcases Nat.lt_or_ge j l.length with q | q
   ·exact q
   ·rw [List.getElem?_eq_none q] at hj; cases hj
  rw [List.getElem?_eq_getElem hlt] at hj
  rw [Nat.mul_one, List.drop_eq_getElem_cons (by rw [List.length_map]; exact hlt), List.getElem_map, Option.some.inj hj]
  rfl
set_option maxHeartbeats 4000000 in
set_option maxRecDepth 100000 in
theorem strings_Split.calls (a0 : ByteArray) (a1 : ByteArray) (r : List ByteArray) (w : World) (hT : TabR w) (h : strings_Split.f a0 a1 = some r) :
  Calls Tryd.prog 40 #[.string a0, .string a1] w fun e w' => ∃ v0_ : Value, e = .returned (v0_) ∧ Kd.R Kd.string 9 w' w.heap.size (fun _ => True) v0_ r ∧ Below w.heap.size w w' := by
 unfold strings_Split.f at h
 by_cases c : a0.size ≤ 1048576 ∧ 1 ≤ a1.size
 ·rw [if_pos c] at h
  obtain rfl := Option.some.inj h
  obtain ⟨c1, c2⟩ := c
  obtain ⟨m, hm⟩ := hT.most
  refine (Tryd.strings_Split a0 a1 m w (by omega) hm c2).mono ?_
  rintro e w' ⟨rfl, rfl⟩
  have hl := Lib.splitB_all a1 c2 0 _ a0 rfl
  have hle := Lib.countB_le a1 c2 a0.size a0 (Nat.le_refl _)
  rw [← hl]
  exact ⟨_, rfl, strings_Split.row_ w _ _ (by unfold maxLen; omega), bA (Below.refl _ _) _⟩
 ·rw [if_neg c] at h
  cases h


/-! ### impl_readNumbers: function 41 -/
def impl_readNumbers.f (k : Nat) (a0 : ByteArray) (a1 : Int) : Option (List Int × Bool) := (impl_ReadList.f k a0).bind fun bt243 => (if bt243.2 = true then (if (bt243.1.length : Int) = a1 then (some (bt243.1, true)) else (if 0 ≤ a1 then (if (a1 : Int).toNat ≤ 35184372088832 then (some ((List.replicate (a1 : Int).toNat 0), false)) else (none)) else (none))) else (if 0 ≤ a1 then (if (a1 : Int).toNat ≤ 35184372088832 then (some ((List.replicate (a1 : Int).toNat 0), false)) else (none)) else (none)))
theorem impl_readNumbers.mono : ∀ a0 a1 k, LeO (impl_readNumbers.f k a0 a1) (impl_readNumbers.f (k + 1) a0 a1) := by
 intro a0 a1 k
 unfold impl_readNumbers.f
 repeat' first
   | (with_reducible exact impl_ReadList.mono _ _)
   | (with_reducible exact LeO.refl _)
   | (with_reducible exact LeO.none _)
   | (with_reducible refine LeO.ite ?_ ?_)
   | (with_reducible refine LeO.bind ?_ (fun _ => ?_))
   | exact impl_ReadList.mono _ _
   | exact LeO.none _
   | refine LeO.ite ?_ ?_
   | refine LeO.bind ?_ (fun _ => ?_)
set_option maxHeartbeats 8000000 in
set_option maxRecDepth 100000 in
theorem impl_readNumbers.calls (k : Nat) (a0 : ByteArray) (a1 : Int) (r1 : List Int) (r2 : Bool) (w : World) (hT : TabR w) (h : impl_readNumbers.f k a0 a1 = some (r1, r2)) :
  Calls Tryd.prog 41 #[.string a0, .int .i64 a1] w fun e w' => ∃ v0_ : Value, e = .returned (.tuple #[v0_, .bool r2]) ∧ Kd.R (Kd.int .i64) 2 w' w.heap.size (fun _ => True) v0_ r1 ∧ Below w.heap.size w w' := by
 have HB := Aside0.mk (Below.refl w.heap.size w)
 have H : ((impl_ReadList.f k a0).bind fun bt243 => (if bt243.2 = true then (if (bt243.1.length : Int) = a1 then (some (bt243.1, true)) else (if 0 ≤ a1 then (if (a1 : Int).toNat ≤ 35184372088832 then (some ((List.replicate (a1 : Int).toNat 0), false)) else (none)) else (none))) else (if 0 ≤ a1 then (if (a1 : Int).toNat ≤ 35184372088832 then (some ((List.replicate (a1 : Int).toNat 0), false)) else (none)) else (none)))) = some (r1, r2) := h
 clear h
 replace H := Option.bind_eq_some_iff.mp H
 obtain ⟨⟨t243, t244⟩, A30, H⟩ := H
 replace H : (if t244 = true then (if (t243.length : Int) = a1 then (some (t243, true)) else (if 0 ≤ a1 then (if (a1 : Int).toNat ≤ 35184372088832 then (some ((List.replicate (a1 : Int).toNat 0), false)) else (none)) else (none))) else (if 0 ≤ a1 then (if (a1 : Int).toNat ≤ 35184372088832 then (some ((List.replicate (a1 : Int).toNat 0), false)) else (none)) else (none))) = some (r1, r2) := H
 have A3 := Aside0.mk A30
 clear A30
 by_cases c4 : t244 = true
 ·subst c4
  have H1 : (if (t243.length : Int) = a1 then (some (t243, true)) else (if 0 ≤ a1 then (if (a1 : Int).toNat ≤ 35184372088832 then (some ((List.replicate (a1 : Int).toNat 0), false)) else (none)) else (none))) = some (r1, r2) := by rw [if_pos rfl] at H; exact H
  clear H
  have H := H1
  clear H1
  by_cases c5 : (t243.length : Int) = a1
  ·rw [if_pos c5] at H
   have c5b0 : ((t243.length : Int) == a1) = true := beq_iff_eq.mpr c5
   have c5b1 : ((t243.length : Int) != a1) = false := bne_eq_false_iff_eq.mpr c5
   clear c5
   simp only [Option.some.injEq, Prod.mk.injEq] at H
   obtain ⟨rfl, rfl⟩ := H
   go_enter Tryd.func41, Tryd.ntmps41
   go_wp2_with (first | ((with_reducible refine gC (f := 32) rfl ?_); refine goesL_ (some 10) rfl rfl Tryd.func32 (by kernel_rfl) rfl #[.string a0] rfl lQ ?_; (with_reducible refine (impl_ReadList.calls k a0 t243 true _ (by first | exact hT | exact TabR.below hT HB.out | exact TabR.below hT (hQ HB) | exact TabR.below hT (Below.refl _ _)) A3.out).mono ?_); rintro e w6 ⟨v245, rfl, ho0, hb⟩; refine ⟨_, rfl, ?_⟩; have z_ := bX hb (hQ HB); have n0_ := Aside0.mk (rL ho0 (bZ z_)); have n1_ := Aside0.mk (bP z_ hb); clear HB; have HO246 := n0_; have HB := n1_; clear z_ n0_ n1_; (try clear hb); (try clear hb2); (try clear hk); (try clear hi); (try clear ho0); obtain ⟨Ao7, co7, eo7⟩ := Kd.R_slice HO246.out; subst eo7))
   go_ret2
   exact ⟨_, by first | rfl | (simp [errW_none, errW_some] <;> rfl) | (simp [*, errW_none, errW_some] <;> rfl), by (with_reducible repeat (first | apply rA | apply rN | apply rD)); exact HO246.out, hQ HB⟩
  ·rw [if_neg c5] at H
   have c5b0 : ((t243.length : Int) == a1) = false := beq_eq_false_iff_ne.mpr c5
   have c5b1 : ((t243.length : Int) != a1) = true := bne_iff_ne.mpr c5
   by_cases c8 : 0 ≤ a1
   ·rw [if_pos c8] at H
    have c8b0 := eq_true c8
    have c8b1 : decide (0 ≤ a1) = true := decide_eq_true c8
    clear c8
    by_cases c9 : (a1 : Int).toNat ≤ 35184372088832
    ·rw [if_pos c9] at H
     have c9b0 := eq_true c9
     have c9b1 : decide ((a1 : Int).toNat ≤ 35184372088832) = true := decide_eq_true c9
     clear c9
     obtain ⟨y247, hy247⟩ : ∃ y_ : List Int, y_ = (List.replicate (a1 : Int).toNat 0) := ⟨_, rfl⟩
     replace H : (some (y247, false)) = some (r1, r2) := by first | (rw [hy247]; with_reducible exact H) | (have H2_ := (Option.bind_some _ _).symm.trans H; rw [hy247]; with_reducible exact H2_) | (have H2_ := (Option.bind_some _ _).symm.trans H; with_reducible exact H2_) | with_reducible exact H | (rw [hy247]; exact H) | exact H
     have Ny247 := Aside0.mk hy247
     clear hy247
     simp only [Option.some.injEq, Prod.mk.injEq] at H
     obtain ⟨rfl, rfl⟩ := H
     go_enter Tryd.func41, Tryd.ntmps41
     go_wp2_with (first | ((with_reducible refine gC (f := 32) rfl ?_); refine goesL_ (some 10) rfl rfl Tryd.func32 (by kernel_rfl) rfl #[.string a0] rfl lQ ?_; (with_reducible refine (impl_ReadList.calls k a0 t243 true _ (by first | exact hT | exact TabR.below hT HB.out | exact TabR.below hT (hQ HB) | exact TabR.below hT (Below.refl _ _)) A3.out).mono ?_); rintro e w10 ⟨v245, rfl, ho0, hb⟩; refine ⟨_, rfl, ?_⟩; have z_ := bX hb (hQ HB); have n0_ := Aside0.mk (rL ho0 (bZ z_)); have n1_ := Aside0.mk (bP z_ hb); clear HB; have HO246 := n0_; have HB := n1_; clear z_ n0_ n1_; (try clear hb); (try clear hb2); (try clear hk); (try clear hi); (try clear ho0); obtain ⟨Ao11, co11, eo11⟩ := Kd.R_slice HO246.out; subst eo11) | ((with_reducible refine gate_dst (N := 22) rfl ?_); (try (refine gate_guard (by rfl) ?_; dsimp only)); refine Kd.R_make (Kd.int .i64) _ 2 rfl (N := 22) rfl 28 _ _ rfl a1 rfl rfl Tryd.underlying28 (.int .i64 0) 8 info2 rfl (by decide) (by omega) 0 (ok := fun _ => True) (okp := fun _ => True) rfl (fun _ hk => hk) trivial (oT) (Nat.le_trans (Nat.mul_le_mul_right _ (oT : a1.toNat ≤ 35184372088832)) (by omega)) (Below.refl _ _) (Nat.le_refl _) ?_; intro v248 w12 ho13 hb hg_ hnew_; clear hg_ hnew_; (first | rw [← Ny247.out] at ho13 | (simp only [Int.reduceToNat] at ho13; rw [← Ny247.out] at ho13)); have z_ := bX hb (hQ HB); have n0_ := Aside0.mk (rE (rQ HO246) (Kd.R_base ho13) hb); have n1_ := Aside0.mk (rL (rW ho13 (rT (rQ HO246))) (bZ z_)); have n2_ := Aside0.mk (bP z_ hb); clear HO246; clear HB; have HO246 := n0_; have HO249 := n1_; have HB := n2_; clear z_ n0_ n1_ n2_; clear hb ho13))
     go_ret2
     exact ⟨_, by first | rfl | (simp [errW_none, errW_some] <;> rfl) | (simp [*, errW_none, errW_some] <;> rfl), by (with_reducible repeat (first | apply rA | apply rN | apply rD)); exact rM HO249.out (fun _ hk => trivial), hQ HB⟩
    ·rw [if_neg c9] at H
     exact absurd H (by simp)
   ·rw [if_neg c8] at H
    exact absurd H (by simp)
 ·replace c4 := Bool.eq_false_iff.mpr c4
  subst c4
  have H1 : (if 0 ≤ a1 then (if (a1 : Int).toNat ≤ 35184372088832 then (some ((List.replicate (a1 : Int).toNat 0), false)) else (none)) else (none)) = some (r1, r2) := by rw [if_neg (show ¬ (false = true) by decide)] at H; exact H
  clear H
  have H := H1
  clear H1
  by_cases c14 : 0 ≤ a1
  ·rw [if_pos c14] at H
   have c14b0 := eq_true c14
   have c14b1 : decide (0 ≤ a1) = true := decide_eq_true c14
   clear c14
   by_cases c15 : (a1 : Int).toNat ≤ 35184372088832
   ·rw [if_pos c15] at H
    have c15b0 := eq_true c15
    have c15b1 : decide ((a1 : Int).toNat ≤ 35184372088832) = true := decide_eq_true c15
    clear c15
    obtain ⟨y250, hy250⟩ : ∃ y_ : List Int, y_ = (List.replicate (a1 : Int).toNat 0) := ⟨_, rfl⟩
    replace H : (some (y250, false)) = some (r1, r2) := by first | (rw [hy250]; with_reducible exact H) | (have H2_ := (Option.bind_some _ _).symm.trans H; rw [hy250]; with_reducible exact H2_) | (have H2_ := (Option.bind_some _ _).symm.trans H; with_reducible exact H2_) | with_reducible exact H | (rw [hy250]; exact H) | exact H
    have Ny250 := Aside0.mk hy250
    clear hy250
    simp only [Option.some.injEq, Prod.mk.injEq] at H
    obtain ⟨rfl, rfl⟩ := H
    go_enter Tryd.func41, Tryd.ntmps41
    go_wp2_with (first | ((with_reducible refine gC (f := 32) rfl ?_); refine goesL_ (some 10) rfl rfl Tryd.func32 (by kernel_rfl) rfl #[.string a0] rfl lQ ?_; (with_reducible refine (impl_ReadList.calls k a0 t243 false _ (by first | exact hT | exact TabR.below hT HB.out | exact TabR.below hT (hQ HB) | exact TabR.below hT (Below.refl _ _)) A3.out).mono ?_); rintro e w16 ⟨v245, rfl, ho0, hb⟩; refine ⟨_, rfl, ?_⟩; have z_ := bX hb (hQ HB); have n0_ := Aside0.mk (rL ho0 (bZ z_)); have n1_ := Aside0.mk (bP z_ hb); clear HB; have HO246 := n0_; have HB := n1_; clear z_ n0_ n1_; (try clear hb); (try clear hb2); (try clear hk); (try clear hi); (try clear ho0)) | ((with_reducible refine gate_dst (N := 22) rfl ?_); (try (refine gate_guard (by rfl) ?_; dsimp only)); refine Kd.R_make (Kd.int .i64) _ 2 rfl (N := 22) rfl 28 _ _ rfl a1 rfl rfl Tryd.underlying28 (.int .i64 0) 8 info2 rfl (by decide) (by omega) 0 (ok := fun _ => True) (okp := fun _ => True) rfl (fun _ hk => hk) trivial (oT) (Nat.le_trans (Nat.mul_le_mul_right _ (oT : a1.toNat ≤ 35184372088832)) (by omega)) (Below.refl _ _) (Nat.le_refl _) ?_; intro v251 w17 ho18 hb hg_ hnew_; clear hg_ hnew_; (first | rw [← Ny250.out] at ho18 | (simp only [Int.reduceToNat] at ho18; rw [← Ny250.out] at ho18)); have z_ := bX hb (hQ HB); have n0_ := Aside0.mk (rE (rQ HO246) (Kd.R_base ho18) hb); have n1_ := Aside0.mk (rL (rW ho18 (rT (rQ HO246))) (bZ z_)); have n2_ := Aside0.mk (bP z_ hb); clear HO246; clear HB; have HO246 := n0_; have HO252 := n1_; have HB := n2_; clear z_ n0_ n1_ n2_; clear hb ho18))
    go_ret2
    exact ⟨_, by first | rfl | (simp [errW_none, errW_some] <;> rfl) | (simp [*, errW_none, errW_some] <;> rfl), by (with_reducible repeat (first | apply rA | apply rN | apply rD)); exact rM HO252.out (fun _ hk => trivial), hQ HB⟩
   ·rw [if_neg c15] at H
    exact absurd H (by simp)
  ·rw [if_neg c14] at H
   exact absurd H (by simp)

end Go.Proofs.YtlmeijlandogaaaDoor.R
-- shrunk
-- tight
-- tight2
-- tight3
