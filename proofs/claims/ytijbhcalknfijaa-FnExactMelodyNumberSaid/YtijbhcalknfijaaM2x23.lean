/- What functions of the given program compute, as plain Lean functions, and that the code comes to just that; by a program of this session over the kit's print. No condition. -/
import Derived.Test.YtijbhcalknfijaaM2x0
import Derived.Test.YtijbhcalknfijaaM2x22
namespace Go.Proofs.Ytijbhcalknfijaa.M2
open Go.RowKit Go.Proofs.YtijbhcalknfijaaW.PrintWords Go.Proofs.YtijbhcalknfijaaW.PrintLast Go.Proofs.YtijbhcalknfijaaW.PrintMore
open Go.Proofs.YtijbhcalknfijaaW.PrintWords renaming below_alloc → bA, pw_below_drewN → bN, below_drew1 → bD, blk_alloc → kA, below_step → bP, blk_cell → kC
open Go.Proofs.YtijbhcalknfijaaW.PrintWords.Kd renaming C_below → cB
attribute [local go_sem] max2_int min2_int max_two min_two max_three min_three max_four min_four   -- for this text's walks alone
set_option linter.unusedVariables false
set_option linter.unusedSimpArgs false

/-! ### impl_Grammar_follow: function 70 -/
def fndL : List S67 → Int → Nat → Option Nat
 | [], _, _ => none
 | x :: l, q, n => if x.f1 = q then some n else fndL l q (n + 1)
def fndI (l : List S67) (q : Int) : Int := match fndL l q 0 with | some n => (n : Int) | none => -1
theorem fndL_bd (q : Int) : ∀ (l : List S67) (n j : Nat), fndL l q n = some j → n ≤ j ∧ j < n + l.length
 | [], n, j, h => by simp [fndL] at h
 | x :: l, n, j, h => by
  rw [fndL] at h
  by_cases c : x.f1 = q
  ·rw [if_pos c] at h
   obtain rfl := Option.some.inj h
   simp
  ·rw [if_neg c] at h
   have := fndL_bd q l (n + 1) j h
   simp only [List.length_cons]
   omega
theorem fndI_bd (l : List S67) (q : Int) (h : ¬ fndI l q < 0) : 0 ≤ fndI l q ∧ fndI l q < l.length := by
 unfold fndI at h ⊢
 cases e : fndL l q 0 with
 | none => rw [e] at h; exact absurd (by simp) h
 | some n => have := fndL_bd q l 0 n e; simp only; omega
set_option maxHeartbeats 1600000 in
set_option maxRecDepth 100000 in
theorem flclo (x a b c : Int) (p0 : Nat) (w : World) (q : Bool) (hq : (b == x) = q) (hp0 : w.heap[p0]? = some (.cells #[.int .i64 x] 2 (0, 0))) :
  Calls Try.prog 107 #[.agg #[.int .i64 a, .int .i64 b, .int .i64 c], .pointer (some ⟨p0, 0, none⟩)] w fun e w' => e = .returned (.bool q) ∧ Below w.heap.size w w' := by
 have hu := Try.underlying67
 have h0 : w.cell? ⟨p0, 0, none⟩ = some (.int .i64 x) := (kC hp0 0).trans rfl
 have b0 : p0 < w.heap.size := (Array.getElem?_eq_some_iff.1 hp0).1
 have HQ := Aside0.mk hq
 clear hp0 hq
 go_enter Try.func107, Try.ntmps107
 go_wp2
 go_ret
 exact ⟨by rw [← HQ.out]; rfl, bA (Below.refl _ _) _⟩
def FlFound (l : List S67) (q : Int) (w : World) (e : Ending) (w' : World) : Prop := (∃ n : Int, e = .returned (.int .i64 n) ∧ n = fndI l q) ∧ Below w.heap.size w w'
set_option maxHeartbeats 1600000 in
set_option maxRecDepth 100000 in
theorem flixf (x : Int) (p0 : Nat) (A0 : Option Addr) (c0 : Nat) (l0 : List S67) (w : World) (hr0 : Kd.C k67 w A0 l0.length l0) (hp0 : w.heap[p0]? = some (.cells #[.int .i64 x] 2 (0, 0))) :
  Calls Try.prog 106 #[.slice A0 l0.length c0, .func (.func 107) #[] #[.pointer (some ⟨p0, 0, none⟩)]] w (FlFound l0 x w) := by
 have hu := Try.underlying67
 have HR0 := Aside0.mk hr0
 have HP0 := Aside0.mk hp0
 have HQ0 := Aside0.mk (Array.getElem?_eq_some_iff.1 hp0).1
 clear hr0 hp0
 go_enter Try.func106, Try.ntmps106
 go_wp2
 go_loopw [8] (fun i wr => ∃ k : Nat, k ≤ l0.length ∧ i = .int .i64 k ∧ Aside0 (fndL l0 x 0 = fndL (l0.drop k) x k) ∧ Aside0 (Below w.heap.size w wr)) (fun i _ => l0.length - (intOf i).toNat)
 case atStart => exact ⟨0, Nat.zero_le _, rfl, ⟨rfl⟩, ⟨Below.refl _ _⟩⟩
 case round =>
  obtain ⟨k, hk, rfl, HALL, HB⟩ := hrel
  have hn : l0.length ≤ 9223372036854775807 := HR0.out.2.1
  by_cases hlt : k < l0.length
  ·obtain ⟨ad, e, hx0, hx1, hx2⟩ := at_T67 HR0.out (k : Int) (by omega) (by omega)
   subst e
   have hy0 := (HB.out.cell (World.block_lt_of_cell? w _ hx0)).trans hx0
   have hy1 := (HB.out.cell (World.block_lt_of_cell? w _ hx1)).trans hx1
   have hy2 := (HB.out.cell (World.block_lt_of_cell? w _ hx2)).trans hx2
   rw [Int.toNat_natCast] at hy0 hy1 hy2
   clear hx0 hx1 hx2
   have hd : l0.drop k = rd_T67 l0 (k : Int) :: l0.drop (k + 1) := by
    rw [List.drop_eq_getElem_cons hlt]
    congr 1
    simp [rd_T67, List.getD_eq_getElem?_getD, List.getElem?_eq_getElem hlt]
   have HDR := Aside0.mk hd
   clear hd
   by_cases hp : (rd_T67 l0 (k : Int)).f1 = x
   ·have HP := Aside0.mk hp
    clear hp
    go_wp2_with (go_at_call 107; refine (flclo x _ _ _ p0 _ true (by rw [HP.out]; exact beq_self_eq_true _) ?c0).mono ?_; (case c0 => exact ((show Below w.heap.size w _ from by repeat (first | (with_reducible first | exact HB.out | apply bA | apply bN | apply bD) | exact HB.out)).block p0 HQ0.out).trans HP0.out); rintro e w' ⟨rfl, hb⟩; have n1_ := Aside0.mk (bP (by repeat (first | (with_reducible first | exact HB.out | apply bA | apply bN | apply bD) | exact HB.out)) hb); clear hb HB; have HB := n1_; clear n1_)
    go_ret
    exact ⟨⟨k, rfl, by unfold fndI; rw [HALL.out, HDR.out, fndL, if_pos HP.out]⟩, HB.out⟩
   ·have HP := Aside0.mk hp
    clear hp
    go_wp2_with (go_at_call 107; refine (flclo x _ _ _ p0 _ false (beq_eq_false_iff_ne.2 HP.out) ?c0).mono ?_; (case c0 => exact ((show Below w.heap.size w _ from by repeat (first | (with_reducible first | exact HB.out | apply bA | apply bN | apply bD) | exact HB.out)).block p0 HQ0.out).trans HP0.out); rintro e w' ⟨rfl, hb⟩; have n1_ := Aside0.mk (bP (by repeat (first | (with_reducible first | exact HB.out | apply bA | apply bN | apply bD) | exact HB.out)) hb); clear hb HB; have HB := n1_; clear n1_)
    go_roundw
    case rel => exact ⟨k + 1, by omega, by go_num, ⟨by rw [HALL.out, HDR.out, fndL, if_neg HP.out]⟩, HB⟩
    case measure => simp [intOf]; omega
  ·go_wp2
   go_ret
   exact ⟨⟨-1, rfl, by unfold fndI; rw [HALL.out, List.drop_eq_nil_of_le (by omega), fndL]⟩, HB.out⟩
def impl_Grammar_follow.l0 : Nat → Int → Int → List Int → List S67 → List Int → Int → Nat → Option (Int × Int)
 | 0, _, _, _, _, _, _, _ => none
 | k + 1, a0, a1, l2, l3, p, s, i => if (i : Int) < (p.length : Int) then (impl_Grammar_arcsOf.f k a0 a1 l2 l3 s).bind fun t => if fndI t (rd p (i : Int)) < 0 then some (s, (i : Int)) else impl_Grammar_follow.l0 k a0 a1 l2 l3 p (rd_T67 t (fndI t (rd p (i : Int)))).f2 (i + 1) else some (s, (p.length : Int))
def impl_Grammar_follow.f (k : Nat) (a0_0 : Int) (a0_1 : Int) (l0_2 : List Int) (l0_3 : List S67) (l1 : List Int) : Option (Int × Int) := impl_Grammar_follow.l0 k a0_0 a0_1 l0_2 l0_3 l1 a0_1 0
theorem impl_Grammar_follow.mono_l : ∀ k a0 a1 l2 l3 p s i, LeO (impl_Grammar_follow.l0 k a0 a1 l2 l3 p s i) (impl_Grammar_follow.l0 (k + 1) a0 a1 l2 l3 p s i)
 | 0, _, _, _, _, _, _, _ => by rw [impl_Grammar_follow.l0]; exact LeO.none _
 | k + 1, a0, a1, l2, l3, p, s, i => by
  rw [impl_Grammar_follow.l0]
  conv => rhs; rw [impl_Grammar_follow.l0]
  exact LeO.ite (LeO.bind (impl_Grammar_arcsOf.mono _ _ _ _ _ _) (fun t => LeO.ite (LeO.refl _) (impl_Grammar_follow.mono_l k _ _ _ _ _ _ _))) (LeO.refl _)
theorem impl_Grammar_follow.mono : ∀ a0 a1 a2 a3 a4 k, LeO (impl_Grammar_follow.f k a0 a1 a2 a3 a4) (impl_Grammar_follow.f (k + 1) a0 a1 a2 a3 a4) := fun _ _ _ _ _ _ => impl_Grammar_follow.mono_l _ _ _ _ _ _ _ _
set_option maxHeartbeats 4000000 in
set_option maxRecDepth 100000 in
theorem impl_Grammar_follow.calls (k : Nat) (a0_0 : Int) (a0_1 : Int) (A0_2 : Option Addr) (c0_2 : Nat) (l0_2 : List Int) (A0_3 : Option Addr) (c0_3 : Nat) (l0_3 : List S67) (A1 : Option Addr) (c1 : Nat) (l1 : List Int) (r1 : Int) (r2 : Int) (w : World) (hr0_2 : Kd.C (Kd.int .i64) w A0_2 l0_2.length l0_2) (hc0_2 : l0_2.length ≤ c0_2) (hr0_3 : Kd.C k67 w A0_3 l0_3.length l0_3) (hc0_3 : l0_3.length ≤ c0_3) (hr1 : Kd.C (Kd.int .i64) w A1 l1.length l1) (hc1 : l1.length ≤ c1) (h : impl_Grammar_follow.f k a0_0 a0_1 l0_2 l0_3 l1 = some (r1, r2)) :
  Calls Try.prog 70 #[.agg #[.int .i64 a0_0, .int .i64 a0_1, .slice A0_2 l0_2.length c0_2, .slice A0_3 l0_3.length c0_3], .slice A1 l1.length c1] w fun e w' => e = .returned (.tuple #[.int .i64 r1, .int .i64 r2]) ∧ Below w.heap.size w w' := by
 have hu := Try.underlying67
 have hug := Try.underlying30
 have HR2 := Aside0.mk hr0_2
 have HC2 := Aside0.mk hc0_2
 have HR3 := Aside0.mk hr0_3
 have HC3 := Aside0.mk hc0_3
 have HR1 := Aside0.mk hr1
 have HC1 := Aside0.mk hc1
 have HH := Aside0.mk h
 have HG0 := Aside0.mk (heap_alloc_new w (.cells #[.int .i64 a0_0, .int .i64 a0_1, .slice A0_2 l0_2.length c0_2, .slice A0_3 l0_3.length c0_3] 30))
 clear hr0_2 hc0_2 hr0_3 hc0_3 hr1 hc1 h
 go_enter Try.func70, Try.ntmps70
 go_wp2
 go_loopg [6, 15] k (fun kq v6 v15 w' => ∃ (s : Int) (i : Nat), v6 = .int .i64 s ∧ v15 = .int .i64 (i : Int) ∧ i ≤ l1.length ∧ Aside0 (impl_Grammar_follow.l0 kq a0_0 a0_1 l0_2 l0_3 l1 s i = some (r1, r2)) ∧ Aside0 (kq ≤ k) ∧ Aside0 (w'.heap[w.heap.size]? = some (.cells #[.int .i64 a0_0, .int .i64 a0_1, .slice A0_2 l0_2.length c0_2, .slice A0_3 l0_3.length c0_3] 30 (0, 0))) ∧ Aside0 (Below w.heap.size w w'))
 case atStart => exact ⟨a0_1, 0, rfl, rfl, Nat.zero_le _, HH, ⟨Nat.le_refl _⟩, HG0, ⟨bA (Below.refl _ _) _⟩⟩
 case round =>
  clear HG0 HH
  obtain ⟨s, i, rfl, rfl, hi, HA, HK, HG, HB⟩ := hrel
  cases gk with
  | zero => exact absurd HA.out (by simp [impl_Grammar_follow.l0])
  | succ k1 =>
   have H := HA.out
   clear HA
   rw [impl_Grammar_follow.l0] at H
   have hn : l1.length ≤ 9223372036854775807 := HR1.out.2.1
   by_cases hlt : i < l1.length
   ·rw [if_pos (by omega)] at H
    obtain ⟨t, ht, H⟩ := Option.bind_eq_some_iff.mp H
    have HT := Aside0.mk ht
    clear ht
    obtain ⟨ad, e, hx⟩ := Kd.at_int HR1.out (i : Int) (by omega) (by omega)
    subst e
    have hy := (HB.out.cell (World.block_lt_of_cell? w _ hx)).trans hx
    rw [Int.toNat_natCast] at hy
    clear hx
    have hg0 := (kC HG.out 0).trans (rfl : _ = some (Value.int .i64 a0_0))
    have hg1 := (kC HG.out 1).trans (rfl : _ = some (Value.int .i64 a0_1))
    have hg2 := (kC HG.out 2).trans (rfl : _ = some (Value.slice A0_2 l0_2.length c0_2))
    have hg3 := (kC HG.out 3).trans (rfl : _ = some (Value.slice A0_3 l0_3.length c0_3))
    have hgs : w.heap.size < wr.heap.size := (Array.getElem?_eq_some_iff.1 HG.out).1
    by_cases hj : fndI t (rd l1 (i : Int)) < 0
    ·rw [if_pos hj] at H
     have HJ := Aside0.mk (decide_eq_true hj)
     obtain ⟨rfl, rfl⟩ := Prod.mk.inj (Option.some.inj H)
     have hj' := decide_eq_true hj
     clear H hj
     go_wp2_with (first
      | (go_at_call 76; refine (impl_Grammar_arcsOf.calls k1 a0_0 a0_1 A0_2 c0_2 l0_2 A0_3 c0_3 l0_3 s t _ ?s2 HC2.out ?s3 HC3.out HT.out).mono ?_; (case s2 => exact cB HR2.out (by repeat (first | (with_reducible first | exact HB.out | apply bA | apply bN | apply bD) | exact HB.out))); (case s3 => exact cB HR3.out (by repeat (first | (with_reducible first | exact HB.out | apply bA | apply bN | apply bD) | exact HB.out))); rintro e w2 ⟨v9, rfl, ho, hb⟩; obtain ⟨A, c, rfl, hc, hr⟩ := Kd.R_reads ho; have HPX := Aside0.mk ((hb.block _ (by simp)).trans (heap_alloc_new wr _)); have HRT := Aside0.mk hr; have n1_ := Aside0.mk (bP (by repeat (first | (with_reducible first | exact HB.out | apply bA | apply bN | apply bD) | exact HB.out)) hb); clear ho hb hc hr HB; have HB := n1_; clear n1_)
      | (go_at_call 106; refine (flixf (rd l1 (i : Int)) _ _ _ t _ HRT.out HPX.out).mono ?_; rintro e w3 ⟨⟨n_, rfl, rfl⟩, hb⟩; have n1_ := Aside0.mk (bP (by repeat (first | (with_reducible first | exact HB.out | apply bA | apply bN | apply bD) | exact HB.out)) hb); clear hb HB; have HB := n1_; clear n1_))
     go_ret2
     exact ⟨rfl, HB.out⟩
    ·rw [if_neg hj] at H
     have HH := Aside0.mk H
     have HJ := Aside0.mk (fndI_bd t _ hj)
     have hj' := decide_eq_false hj
     have hj0 := HJ.out.1
     have hj1 := HJ.out.2
     clear H hj
     go_wp2_with (first
      | (go_at_call 76; refine (impl_Grammar_arcsOf.calls k1 a0_0 a0_1 A0_2 c0_2 l0_2 A0_3 c0_3 l0_3 s t _ ?s2 HC2.out ?s3 HC3.out HT.out).mono ?_; (case s2 => exact cB HR2.out (by repeat (first | (with_reducible first | exact HB.out | apply bA | apply bN | apply bD) | exact HB.out))); (case s3 => exact cB HR3.out (by repeat (first | (with_reducible first | exact HB.out | apply bA | apply bN | apply bD) | exact HB.out))); rintro e w2 ⟨v9, rfl, ho, hb⟩; obtain ⟨A, c, rfl, hc, hr⟩ := Kd.R_reads ho; have HPX := Aside0.mk ((hb.block _ (by simp)).trans (heap_alloc_new wr _)); have HGX := Aside0.mk ((hb.block _ (by simp; omega)).trans (kA HG.out _)); have HRT := Aside0.mk hr; have n1_ := Aside0.mk (bP (by repeat (first | (with_reducible first | exact HB.out | apply bA | apply bN | apply bD) | exact HB.out)) hb); clear ho hb hc hr HB; have HB := n1_; clear n1_)
      | (go_at_call 106; refine (flixf (rd l1 (i : Int)) _ _ _ t _ HRT.out HPX.out).mono ?_; rintro e w3 ⟨⟨n_, rfl, rfl⟩, hb⟩; obtain ⟨ad2, e2, hz0, hz1, hz2⟩ := at_T67 (cB HRT.out hb) (fndI t (rd l1 (i : Int))) hj0 hj1; subst e2; have HGY := Aside0.mk ((hb.block _ (Array.getElem?_eq_some_iff.1 HGX.out).1).trans HGX.out); have n1_ := Aside0.mk (bP (by repeat (first | (with_reducible first | exact HB.out | apply bA | apply bN | apply bD) | exact HB.out)) hb); clear hb HB; have HB := n1_; clear n1_))
     go_roundg k1
     case measure => have := HK.out; omega
     case rel => exact ⟨_, i + 1, rfl, by go_num, by omega, HH, ⟨by have := HK.out; omega⟩, HGY, HB⟩
   ·rw [if_neg (by omega)] at H
    obtain ⟨rfl, rfl⟩ := Prod.mk.inj (Option.some.inj H)
    clear H
    go_wp2
    go_ret2
    exact ⟨rfl, HB.out⟩

/-! ### slices_Index_int64_int64: function 127 -/
def slices_Index_int64_int64.l0 : Nat → List Int → Int → Int → Int → Option (Int)
 | 0, _, _, _, _ => none
 | k + 1, x0, x1, x7, x8 => if x8 < x7 then (if 0 ≤ x8 then (if x8 < (x0.length : Int) then (if x1 = (rd x0 x8) then (some x8) else (slices_Index_int64_int64.l0 k x0 x1 x7 (wrap64 (x8 + 1)))) else (none)) else (none)) else (some (-1))
def slices_Index_int64_int64.f (k : Nat) (l0 : List Int) (a1 : Int) : Option (Int) := slices_Index_int64_int64.l0 k l0 a1 (l0.length : Int) 0
theorem slices_Index_int64_int64.mono_l : ∀ k, (∀ y0 y1 y2 y3, LeO (slices_Index_int64_int64.l0 k y0 y1 y2 y3) (slices_Index_int64_int64.l0 (k + 1) y0 y1 y2 y3))
 | 0 => fun _ _ _ _ r h => by simp [slices_Index_int64_int64.l0] at h
 | k + 1 => by
  have ih0 := slices_Index_int64_int64.mono_l k
  ·intro y0 y1 y2 y3
   unfold slices_Index_int64_int64.l0
   repeat' first
   | (with_reducible exact ih0 _ _ _ _)
   | (with_reducible exact LeO.refl _)
   | (with_reducible exact LeO.none _)
   | (with_reducible refine LeO.ite ?_ ?_)
   | (with_reducible refine LeO.bind ?_ (fun _ => ?_))
   | exact ih0 _ _ _ _
   | exact LeO.none _
   | refine LeO.ite ?_ ?_
   | refine LeO.bind ?_ (fun _ => ?_)
theorem slices_Index_int64_int64.mono : ∀ a0 a1 k, LeO (slices_Index_int64_int64.f k a0 a1) (slices_Index_int64_int64.f (k + 1) a0 a1) := by
 intro a0 a1 k
 have ih0 := slices_Index_int64_int64.mono_l k
 unfold slices_Index_int64_int64.f
 repeat' first
   | (with_reducible exact ih0 _ _ _ _)
   | (with_reducible exact LeO.refl _)
   | (with_reducible exact LeO.none _)
   | (with_reducible refine LeO.ite ?_ ?_)
   | (with_reducible refine LeO.bind ?_ (fun _ => ?_))
   | exact ih0 _ _ _ _
   | exact LeO.none _
   | refine LeO.ite ?_ ?_
   | refine LeO.bind ?_ (fun _ => ?_)
set_option maxHeartbeats 8000000 in
set_option maxRecDepth 100000 in
theorem slices_Index_int64_int64.calls (k : Nat) (A0 : Option Addr) (c0 : Nat) (l0 : List Int) (a1 : Int) (r : Int) (w : World) (hr0 : Kd.C (Kd.int .i64) w A0 l0.length l0) (hc0 : l0.length ≤ c0) (h : slices_Index_int64_int64.f k l0 a1 = some r) :
  Calls Try.prog 127 #[.slice A0 l0.length c0, .int .i64 a1] w fun e w' => e = .returned (.int .i64 r) ∧ Drawn0 w w' := by
 have HR0 := Aside0.mk hr0
 have HC0 := Aside0.mk hc0
 clear hr0 hc0
 have H : (slices_Index_int64_int64.l0 k l0 a1 (l0.length : Int) 0) = some r := h
 clear h
 have H' := Aside0.mk H
 clear H
 go_enter Try.func127, Try.ntmps127
 go_wp2
 go_loopg [8] k (fun kq v8 w' => ∃ (x8_1 : Int), v8 = .int .i64 x8_1 ∧ Aside0 (slices_Index_int64_int64.l0 kq l0 a1 (l0.length : Int) x8_1 = some r) ∧ Aside0 (kq ≤ k) ∧ Drawn0 w w')
 case atStart => exact ⟨(0), (by first | rfl | (simp; done) | (simp [*]; done)), H', ⟨Nat.le_refl _⟩, by repeat (first | exact Drawn0.refl _ | apply Drawn0.step)⟩
 case round =>
  clear H'
  try clear c1
  try clear p2
  obtain ⟨x8_1, rfl, HA, HK1, ⟨m1, rfl⟩⟩ := hrel
  cases gk with
  | zero => exact absurd HA.out (by simp [slices_Index_int64_int64.l0])
  | succ k1 =>
   have H := HA.out
   clear HA
   simp only [slices_Index_int64_int64.l0] at H
   by_cases c3 : x8_1 < (l0.length : Int)
   ·rw [if_pos c3] at H
    have c3b0 : decide (x8_1 < (l0.length : Int)) = true := decide_eq_true c3
    clear c3
    by_cases c4 : 0 ≤ x8_1
    ·rw [if_pos c4] at H
     have c4b0 : decide (0 ≤ x8_1) = true := decide_eq_true c4
     clear c4
     by_cases c5 : x8_1 < (l0.length : Int)
     ·rw [if_pos c5] at H
      have c5b0 : decide (x8_1 < (l0.length : Int)) = true := decide_eq_true c5
      clear c5
      by_cases c6 : a1 = (rd l0 x8_1)
      ·rw [if_pos c6] at H
       have c6b0 : (a1 == (rd l0 x8_1)) = true := beq_iff_eq.mpr c6
       have c6b1 : (a1 != (rd l0 x8_1)) = false := bne_eq_false_iff_eq.mpr c6
       clear c6
       obtain rfl := Option.some.inj H
       have p308 : 0 ≤ (x8_1 : Int) := of_decide_eq_true (by first | (with_reducible assumption) | assumption)
       have q308 : x8_1 < (l0.length : Int) := of_decide_eq_true (by first | (with_reducible assumption) | assumption)
       obtain ⟨ad308, e308, hx308_0⟩ := Kd.at_int HR0.out x8_1 p308 q308
       cases e308
       replace p308 := eq_true p308
       replace q308 := eq_true q308
       go_wp2
       go_ret
       exact ⟨by first | rfl | (simp; done) | (simp [*]; done), by repeat (first | exact Drawn0.refl _ | apply Drawn0.step)⟩
      ·rw [if_neg c6] at H
       have c6b0 : (a1 == (rd l0 x8_1)) = false := beq_eq_false_iff_ne.mpr c6
       have c6b1 : (a1 != (rd l0 x8_1)) = true := bne_iff_ne.mpr c6
       have H' := Aside0.mk H
       clear H
       have p308 : 0 ≤ (x8_1 : Int) := of_decide_eq_true (by first | (with_reducible assumption) | assumption)
       have q308 : x8_1 < (l0.length : Int) := of_decide_eq_true (by first | (with_reducible assumption) | assumption)
       obtain ⟨ad308, e308, hx308_0⟩ := Kd.at_int HR0.out x8_1 p308 q308
       cases e308
       replace p308 := eq_true p308
       replace q308 := eq_true q308
       go_wp2
       go_roundg k1
       case measure => have := HK1.out; omega
       case rel => exact ⟨(wrap64 (x8_1 + 1)), (by first | rfl | (simp; done) | (simp [*]; done)), H', ⟨by have := HK1.out; omega⟩, by repeat (first | exact Drawn0.refl _ | apply Drawn0.step)⟩
     ·rw [if_neg c5] at H
      exact absurd H (by simp)
    ·rw [if_neg c4] at H
     exact absurd H (by simp)
   ·rw [if_neg c3] at H
    have c3b0 : decide (x8_1 < (l0.length : Int)) = false := decide_eq_false c3
    clear c3
    obtain rfl := Option.some.inj H
    go_wp2
    go_ret
    exact ⟨by first | rfl | (simp; done) | (simp [*]; done), by repeat (first | exact Drawn0.refl _ | apply Drawn0.step)⟩

end Go.Proofs.Ytijbhcalknfijaa.M2
-- shrunk
-- tight
