/- What functions of the given program compute, as plain Lean functions, and that the code comes to just that; by a program of this session over the kit's print. No condition. -/
import Derived.Test.YtlmeijlandogaaaDoorTight
import Derived.Test.YtlmeijlandogaaaDoorRx0
namespace Go.Proofs.YtlmeijlandogaaaDoor.R
open Go.RowKit Go.Proofs.YtlmeijlandogaaaDoorW.PrintWords Go.Proofs.YtlmeijlandogaaaDoorW.PrintLast Go.Proofs.YtlmeijlandogaaaDoorW.PrintMore
open Go.Proofs.YtlmeijlandogaaaDoorW.PrintWords renaming below_alloc → bA, pw_below_drewN → bN, below_drew1 → bD, below_set → bS, blk_alloc → kA, below_size → bZ, below_step → bP, gate_callee → gC, box_event → bE, blk_cell → kC, blk_drewN → kN, blk_drew → kD, blk_below → kB, blk_lt → kL
open Go.Proofs.YtlmeijlandogaaaDoorW.PrintLast renaming i64_w → iW, take_ofW → tW, any_of → aO, one_of → oO, i32_w → jW
open Go.Proofs.YtlmeijlandogaaaDoorW.PrintWords.Kd renaming C_alloc → cA, C_drewN → cN, C_drew → cD, R_lower → rL
open List renaming setIfInBounds_toArray → sI, set_cons_zero → sZ, set_cons_succ → sS
open Bool renaming true → T, false → F
attribute [local go_sem] max2_int min2_int max_two min_two max_three min_three max_four min_four   -- for this text's walks alone
set_option linter.unusedVariables false
set_option linter.unusedSimpArgs false

/-! ### impl_within: function 72 -/
def impl_within.f (a0 : Int) (a1 : Int) (a2 : Int) : Option (Bool) := if a0 ≥ a1 then (some (decide (a0 ≤ a2))) else (some false)
set_option maxHeartbeats 8000000 in
set_option maxRecDepth 100000 in
theorem impl_within.calls (a0 : Int) (a1 : Int) (a2 : Int) (r : Bool) (w : World) (h : impl_within.f a0 a1 a2 = some r) :
  Calls Tryd.prog 72 #[.int .i64 a0, .int .i64 a1, .int .i64 a2] w fun e w' => e = .returned (.bool r) ∧ Drawn0 w w' := by
 have H : (if a0 ≥ a1 then (some (decide (a0 ≤ a2))) else (some false)) = some r := h
 clear h
 by_cases c4 : a0 ≥ a1
 ·rw [if_pos c4] at H
  have c4b0 : decide (a1 ≤ a0) = true := decide_eq_true c4
  clear c4
  obtain rfl := Option.some.inj H
  go_enter Tryd.func72, Tryd.ntmps72
  go_wp2
  go_ret
  exact ⟨eT, dR⟩
 ·rw [if_neg c4] at H
  have c4b0 : decide (a1 ≤ a0) = false := decide_eq_false c4
  clear c4
  obtain rfl := Option.some.inj H
  go_enter Tryd.func72, Tryd.ntmps72
  go_wp2
  go_ret
  exact ⟨eT, dR⟩

/-! ### impl_Grammar_hasState: function 73 -/
def impl_Grammar_hasState.f (a0_0 : Int) (a0_1 : Int) (l0_2 : List Int) (l0_3 : List (S63)) (a1 : Int) : Option (Bool) := (impl_within.f a1 0 (wrap64 (a0_0 - 1))).bind fun t176 => (some t176)
set_option maxHeartbeats 8000000 in
set_option maxRecDepth 100000 in
theorem impl_Grammar_hasState.calls (a0_0 : Int) (a0_1 : Int) (A0_2 : Option Addr) (c0_2 : Nat) (l0_2 : List Int) (A0_3 : Option Addr) (c0_3 : Nat) (l0_3 : List (S63)) (a1 : Int) (r : Bool) (w : World) (hr0_2 : Kd.C (Kd.int .i64) w A0_2 l0_2.length l0_2) (hc0_2 : l0_2.length ≤ c0_2) (hr0_3 : Kd.C k63 w A0_3 l0_3.length l0_3) (hc0_3 : l0_3.length ≤ c0_3) (h : impl_Grammar_hasState.f a0_0 a0_1 l0_2 l0_3 a1 = some r) :
  Calls Tryd.prog 73 #[.agg #[.int .i64 a0_0, .int .i64 a0_1, .slice A0_2 l0_2.length c0_2, .slice A0_3 l0_3.length c0_3], .int .i64 a1] w fun e w' => e = .returned (.bool r) ∧ Below w.heap.size w w' := by
 have hu31 := Tryd.underlying31
 have HR0_2 := Aside0.mk hr0_2
 have HC0_2 := Aside0.mk hc0_2
 clear hr0_2 hc0_2
 have HR0_3 := Aside0.mk hr0_3
 have HC0_3 := Aside0.mk hc0_3
 clear hr0_3 hc0_3
 have HB := Aside0.mk (Below.refl w.heap.size w)
 have H : ((impl_within.f a1 0 (wrap64 (a0_0 - 1))).bind fun t176 => (some t176)) = some r := h
 clear h
 replace H := Option.bind_eq_some_iff.mp H
 obtain ⟨t176, A30, H⟩ := H
 replace H : (some t176) = some r := H
 have A3 := Aside0.mk A30
 clear A30
 obtain rfl := Option.some.inj H
 go_enter Tryd.func73, Tryd.ntmps73
 go_wp2_with (first | ((with_reducible refine gate_dst (N := 2) rfl ?_); refine bE ?hg (N := 2) ?hd (cs := #[.int .i64 a0_0, .int .i64 a0_1, .slice A0_2 l0_2.length c0_2, .slice A0_3 l0_3.length c0_3]) (t := 31) ?hr ?_; (case hd => rfl); (case hg => rfl); (case hr => first | (go_simp; done) | (go_simp; rfl)); intro gb175 hg w4 hbox hb; have z_ := bX hb (hQ HB); have n0_ := Aside0.mk (bP z_ hb); have n1_ := Aside0.mk (hbox); have n2_ := Aside0.mk ((by rw [hg]; exact (bZ z_) : w.heap.size ≤ gb175)); have n3_ := Aside0.mk ((by rw [hg]; exact (bZ z_) : w.heap.size ≤ gb175)); clear HB; have HB := n0_; have BK175 := n1_; have GW175 := n2_; have GE175 := n3_; clear z_ n0_ n1_ n2_ n3_; clear hb hbox hg; obtain ⟨hcz5_0, hcz5_1, hcz5_2, hcz5_3⟩ := cZ4 BK175.out; obtain ⟨hfz5_0, hfz5_1, hfz5_2, hfz5_3⟩ := fZ4 BK175.out) | ((with_reducible refine gC (f := 72) rfl ?_); refine goesL_ (some 9) rfl rfl Tryd.func72 (by kernel_rfl) rfl #[.int .i64 a1, .int .i64 0, .int .i64 (wrap64 (a0_0 - 1))] rfl lQ ?_; (with_reducible refine (impl_within.calls a1 0 (wrap64 (a0_0 - 1)) t176 _ A3.out).mono ?_); rintro e w' ⟨rfl, ⟨nd, rfl⟩⟩; refine ⟨_, rfl, ?_⟩))
 go_ret
 exact ⟨by first | rfl | (simp [errW_none, errW_some] <;> rfl) | (simp [*, errW_none, errW_some] <;> rfl), by repeat (first | (with_reducible first | exact HB.out | apply bA | apply bN | apply bD | refine bS ?_ GE175.out) | exact HB.out)⟩

/-! ### impl_increasing: function 74 -/
def impl_increasing.l0 : Nat → List Int → Int → Option (Bool)
 | 0, _, _ => none
 | k + 1, x0, x3 => if x3 < (x0.length : Int) then (if 0 ≤ x3 then (if 0 ≤ (wrap64 (x3 - 1)) then (if (wrap64 (x3 - 1)) < (x0.length : Int) then (if (rd x0 x3) ≤ (rd x0 (wrap64 (x3 - 1))) then (some false) else (impl_increasing.l0 k x0 (wrap64 (x3 + 1)))) else (none)) else (none)) else (none)) else (some true)
def impl_increasing.f (k : Nat) (l0 : List Int) : Option (Bool) := impl_increasing.l0 k l0 1
theorem impl_increasing.mono_l : ∀ k, (∀ y0 y1, LeO (impl_increasing.l0 k y0 y1) (impl_increasing.l0 (k + 1) y0 y1))
 | 0 => fun _ _ r h => by simp [impl_increasing.l0] at h
 | k + 1 => by
  have ih0 := impl_increasing.mono_l k
  ·intro y0 y1
   unfold impl_increasing.l0
   repeat' first
   | (with_reducible exact ih0 _ _)
   | (with_reducible exact LeO.refl _)
   | (with_reducible exact LeO.none _)
   | (with_reducible refine LeO.ite ?_ ?_)
   | (with_reducible refine LeO.bind ?_ (fun _ => ?_))
   | exact ih0 _ _
   | exact LeO.none _
   | refine LeO.ite ?_ ?_
   | refine LeO.bind ?_ (fun _ => ?_)
theorem impl_increasing.mono : ∀ a0 k, LeO (impl_increasing.f k a0) (impl_increasing.f (k + 1) a0) := by
 intro a0 k
 have ih0 := impl_increasing.mono_l k
 unfold impl_increasing.f
 repeat' first
   | (with_reducible exact ih0 _ _)
   | (with_reducible exact LeO.refl _)
   | (with_reducible exact LeO.none _)
   | (with_reducible refine LeO.ite ?_ ?_)
   | (with_reducible refine LeO.bind ?_ (fun _ => ?_))
   | exact ih0 _ _
   | exact LeO.none _
   | refine LeO.ite ?_ ?_
   | refine LeO.bind ?_ (fun _ => ?_)
set_option maxHeartbeats 8000000 in
set_option maxRecDepth 100000 in
theorem impl_increasing.calls (k : Nat) (A0 : Option Addr) (c0 : Nat) (l0 : List Int) (r : Bool) (w : World) (hr0 : Kd.C (Kd.int .i64) w A0 l0.length l0) (hc0 : l0.length ≤ c0) (h : impl_increasing.f k l0 = some r) :
  Calls Tryd.prog 74 #[.slice A0 l0.length c0] w fun e w' => e = .returned (.bool r) ∧ Drawn0 w w' := by
 have HR0 := Aside0.mk hr0
 have HC0 := Aside0.mk hc0
 clear hr0 hc0
 have H : (impl_increasing.l0 k l0 1) = some r := h
 clear h
 have H' := Aside0.mk H
 clear H
 go_enter Tryd.func74, Tryd.ntmps74
 go_wp2
 repeat (go_quiet (fail); try go_wp2)
 go_loopg [3] k (fun kq v3 w' => ∃ (x3_1 : Int), v3 = .int .i64 x3_1 ∧ Aside0 (impl_increasing.l0 kq l0 x3_1 = some r) ∧ Aside0 (kq ≤ k) ∧ Drawn0 w w')
 case atStart => exact ⟨(1), eT, H', ⟨Nat.le_refl _⟩, dR⟩
 case round =>
  clear H'
  obtain ⟨x3_1, rfl, HA, HK1, ⟨m1, rfl⟩⟩ := hrel
  cases gk with
  | zero => exact absurd HA.out (by simp [impl_increasing.l0])
  | succ k1 =>
   have H := HA.out
   clear HA
   simp only [impl_increasing.l0] at H
   by_cases c2 : x3_1 < (l0.length : Int)
   ·rw [if_pos c2] at H
    have c2b0 : decide (x3_1 < (l0.length : Int)) = true := decide_eq_true c2
    clear c2
    by_cases c3 : 0 ≤ x3_1
    ·rw [if_pos c3] at H
     have c3b0 : decide (0 ≤ x3_1) = true := decide_eq_true c3
     clear c3
     obtain ⟨ji4, hji4⟩ : ∃ j_ : Int, (wrap64 (x3_1 - 1)) = j_ := ⟨_, rfl⟩
     replace H : (if 0 ≤ (ji4) then (if (ji4) < (l0.length : Int) then (if (rd l0 x3_1) ≤ (rd l0 (ji4)) then (some false) else (impl_increasing.l0 k1 l0 (wrap64 (x3_1 + 1)))) else (none)) else (none)) = some r := by first | (rw [hji4] at H; exact H) | (simp only [hji4] at H ⊢; exact H)
     have hji4w : (IntKind.i64.wrap (x3_1 - 1)) = ji4 := (iW _).trans hji4
     by_cases c5 : 0 ≤ (ji4)
     ·rw [if_pos c5] at H
      have c5b0 : decide (0 ≤ (ji4)) = true := decide_eq_true c5
      clear c5
      by_cases c6 : (ji4) < (l0.length : Int)
      ·rw [if_pos c6] at H
       have c6b0 : decide ((ji4) < (l0.length : Int)) = true := decide_eq_true c6
       clear c6
       by_cases c7 : (rd l0 x3_1) ≤ (rd l0 (ji4))
       ·rw [if_pos c7] at H
        have c7b0 : decide ((rd l0 x3_1) ≤ (rd l0 (ji4))) = true := decide_eq_true c7
        clear c7
        obtain rfl := Option.some.inj H
        have p177 : 0 ≤ (x3_1 : Int) := oT
        have q177 : x3_1 < (l0.length : Int) := oT
        obtain ⟨ad177, e177, hx177_0⟩ := Kd.at_int HR0.out x3_1 p177 q177
        cases e177
        replace p177 := eq_true p177
        replace q177 := eq_true q177
        have p178 : 0 ≤ ((ji4) : Int) := oT
        have q178 : (ji4) < (l0.length : Int) := oT
        obtain ⟨ad178, e178, hx178_0⟩ := Kd.at_int HR0.out (ji4) p178 q178
        obtain rfl : ad177 = ad178 := (by injection e178)
        replace p178 := eq_true p178
        replace q178 := eq_true q178
        go_wp2
        repeat (go_quiet (fail); try go_wp2)
        go_ret
        exact ⟨by first | rfl | (simp; done) | (simp only [← hji4] <;> (first | rfl | simp)) | (simp [*]; done), dR⟩
       ·rw [if_neg c7] at H
        have c7b0 : decide ((rd l0 x3_1) ≤ (rd l0 (ji4))) = false := decide_eq_false c7
        clear c7
        have H' := Aside0.mk H
        clear H
        have p177 : 0 ≤ (x3_1 : Int) := oT
        have q177 : x3_1 < (l0.length : Int) := oT
        obtain ⟨ad177, e177, hx177_0⟩ := Kd.at_int HR0.out x3_1 p177 q177
        cases e177
        replace p177 := eq_true p177
        replace q177 := eq_true q177
        have p178 : 0 ≤ ((ji4) : Int) := oT
        have q178 : (ji4) < (l0.length : Int) := oT
        obtain ⟨ad178, e178, hx178_0⟩ := Kd.at_int HR0.out (ji4) p178 q178
        obtain rfl : ad177 = ad178 := (by injection e178)
        replace p178 := eq_true p178
        replace q178 := eq_true q178
        go_wp2
        repeat (go_quiet (fail); try go_wp2)
        go_roundg k1
        case measure => have := HK1.out; omega
        case rel => exact ⟨(wrap64 (x3_1 + 1)), eT, H', ⟨by have := HK1.out; omega⟩, dR⟩
      ·rw [if_neg c6] at H
       exact absurd H (by simp)
     ·rw [if_neg c5] at H
      exact absurd H (by simp)
    ·rw [if_neg c3] at H
     exact absurd H (by simp)
   ·rw [if_neg c2] at H
    have c2b0 : decide (x3_1 < (l0.length : Int)) = false := decide_eq_false c2
    clear c2
    obtain rfl := Option.some.inj H
    go_wp2
    repeat (go_quiet (fail); try go_wp2)
    go_ret
    exact ⟨eT, dR⟩

-- NOT PRINTED: function 130 (slices_IndexFunc_int64_int64)

-- NOT PRINTED: function 104 (slices_ContainsFunc_int64_int64)

/-! ### impl_allWithin: function 75 -/
def bIn (n lo hi : Int) : Bool := decide (lo ≤ n ∧ n ≤ hi)
theorem ret_b {a b : Bool} (h : a = b) : Ending.returned (.bool a) = .returned (.bool b) := by rw [h]
theorem all_take_succ {α : Type} (l : List α) (p : α → Bool) (z : α) (k : Nat) (h : k < l.length) (h1 : (l.take k).all p = true) (h2 : p (l.getD k z) = true) : (l.take (k + 1)).all p = true := by
 rw [List.take_succ_eq_append_getElem h, List.all_append, h1]
 simp only [List.all_cons, List.all_nil, Bool.and_true, Bool.true_and]
 rwa [List.getD_eq_getElem?_getD, List.getElem?_eq_getElem h] at h2
theorem all_no {α : Type} (l : List α) (p : α → Bool) (z : α) (k : Nat) (h : k < l.length) (h2 : p (l.getD k z) = false) : l.all p = false := by
 rw [List.all_eq_false]
 rw [List.getD_eq_getElem?_getD, List.getElem?_eq_getElem h] at h2
 exact ⟨_, List.getElem_mem h, by simpa using h2⟩
set_option maxHeartbeats 800000 in
theorem clo105 (n lo hi : Int) (a b : Nat) (q : Bool) (hq : (!bIn n lo hi) = q) (w : World) (ha : w.heap[a]? = some (.cells #[.int .i64 lo] 2 (0, 0))) (hb : w.heap[b]? = some (.cells #[.int .i64 hi] 2 (0, 0))) :
  Calls Tryd.prog 105 #[.int .i64 n, .pointer (some ⟨a, 0, none⟩), .pointer (some ⟨b, 0, none⟩)] w fun e w' => e = .returned (.bool q) ∧ Drawn0 w w' := by
 have h1 : w.cell? ⟨a, 0, none⟩ = some (.int .i64 lo) := (kC ha 0).trans rfl
 have h2 : w.cell? ⟨b, 0, none⟩ = some (.int .i64 hi) := (kC hb 0).trans rfl
 have HQ := Aside0.mk hq
 clear ha hb hq
 go_enter Tryd.func105, Tryd.ntmps105
 go_wp2
 all_goals
  go_ret
  exact ⟨ret_b (by rw [← HQ.out]; simp [bIn]; omega), Drawn0.refl _⟩
def FoundI (l : List Int) (p : Int → Bool) (w : World) (e : Ending) (w' : World) : Prop := (∃ n : Int, e = .returned (.int .i64 n) ∧ (decide (n ≥ 0) = !l.all p)) ∧ Drawn0 w w'
set_option maxHeartbeats 1600000 in
theorem ixf130 (lo hi : Int) (a b : Nat) (A0 : Option Addr) (c0 : Nat) (l0 : List Int) (w : World) (ha : w.heap[a]? = some (.cells #[.int .i64 lo] 2 (0, 0))) (hb : w.heap[b]? = some (.cells #[.int .i64 hi] 2 (0, 0))) (hr0 : Kd.C (Kd.int .i64) w A0 l0.length l0) :
  Calls Tryd.prog 130 #[.slice A0 l0.length c0, .func (.func 105) #[] #[.pointer (some ⟨a, 0, none⟩), .pointer (some ⟨b, 0, none⟩)]] w (FoundI l0 (bIn · lo hi) w) := by
 have HR0 := Aside0.mk hr0
 have HA := Aside0.mk ha
 have HB := Aside0.mk hb
 clear hr0 ha hb
 go_enter Tryd.func130, Tryd.ntmps130
 go_wp2
 go_loopw [8] (fun i wr => ∃ k : Nat, k ≤ l0.length ∧ i = .int .i64 k ∧ Aside0 ((l0.take k).all (bIn · lo hi) = true) ∧ Aside0 (∃ n, wr = w.drewN n)) (fun i _ => l0.length - (intOf i).toNat)
 case atStart => exact ⟨0, Nat.zero_le _, rfl, ⟨rfl⟩, ⟨0, rfl⟩⟩
 case round =>
  obtain ⟨k, hk, rfl, HALL, ⟨⟨n, rfl⟩⟩⟩ := hrel
  have hn : l0.length ≤ 9223372036854775807 := HR0.out.2.1
  by_cases hlt : k < l0.length
  ·obtain ⟨ad, e, hx⟩ := Kd.at_int HR0.out (k : Int) (by omega) (by omega)
   subst e
   have hx' : (w.drewN n).cell? (ad.add k) = some (.int .i64 (rd l0 k)) := hx
   clear hx
   cases hp : bIn (rd l0 k) lo hi
   ·have HP := Aside0.mk hp
    clear hp
    go_wp2_with (go_at_call 105; refine (clo105 _ lo hi a b true (by rw [HP.out]; rfl) (w.drewN n) HA.out HB.out).mono ?_; rintro e w' ⟨rfl, ⟨q, rfl⟩⟩)
    go_ret
    exact ⟨⟨k, rfl, by rw [all_no l0 (bIn · lo hi) 0 k hlt HP.out]; exact decide_eq_true (Int.natCast_nonneg k)⟩, ⟨_, rfl⟩⟩
   ·have HP := Aside0.mk hp
    clear hp
    go_wp2_with (go_at_call 105; refine (clo105 _ lo hi a b false (by rw [HP.out]; rfl) (w.drewN n) HA.out HB.out).mono ?_; rintro e w' ⟨rfl, ⟨q, rfl⟩⟩)
    go_roundw
    case rel => exact ⟨k + 1, by omega, by go_num, ⟨all_take_succ l0 _ 0 k hlt HALL.out HP.out⟩, ⟨_, rfl⟩⟩
    case measure => simp [intOf]; omega
  ·go_wp2
   go_ret
   exact ⟨⟨-1, rfl, by
    have := HALL.out
    rw [List.take_of_length_le (by omega)] at this
    rw [this]
    rfl⟩, ⟨_, rfl⟩⟩
set_option maxHeartbeats 800000 in
theorem cnf104 (lo hi : Int) (a b : Nat) (A0 : Option Addr) (c0 : Nat) (l0 : List Int) (w : World) (ha : w.heap[a]? = some (.cells #[.int .i64 lo] 2 (0, 0))) (hb : w.heap[b]? = some (.cells #[.int .i64 hi] 2 (0, 0))) (hr0 : Kd.C (Kd.int .i64) w A0 l0.length l0) :
  Calls Tryd.prog 104 #[.slice A0 l0.length c0, .func (.func 105) #[] #[.pointer (some ⟨a, 0, none⟩), .pointer (some ⟨b, 0, none⟩)]] w fun e w' => e = .returned (.bool (!l0.all (bIn · lo hi))) ∧ Drawn0 w w' := by
 have HR0 := Aside0.mk hr0
 have HA := Aside0.mk ha
 have HB := Aside0.mk hb
 clear hr0 ha hb
 go_enter Tryd.func104, Tryd.ntmps104
 go_wp2_with (go_at_call 130; refine (ixf130 lo hi a b A0 c0 l0 _ HA.out HB.out HR0.out).mono ?_; rintro e w' ⟨⟨n, rfl, hn⟩, ⟨q, rfl⟩⟩; have HN := Aside0.mk hn; clear hn)
 all_goals
  go_ret
  refine ⟨ret_b ?_, ⟨_, rfl⟩⟩
  rw [← HN.out]
  try first | rfl | simp | (simp; omega)
def impl_allWithin.f (l0 : List Int) (a1 : Int) (a2 : Int) : Option (Bool) := some (l0.all (bIn · a1 a2))
set_option maxHeartbeats 1600000 in
theorem impl_allWithin.calls (A0 : Option Addr) (c0 : Nat) (l0 : List Int) (a1 : Int) (a2 : Int) (r : Bool) (w : World) (hr0 : Kd.C (Kd.int .i64) w A0 l0.length l0) (hc0 : l0.length ≤ c0) (h : impl_allWithin.f l0 a1 a2 = some r) :
  Calls Tryd.prog 75 #[.slice A0 l0.length c0, .int .i64 a1, .int .i64 a2] w fun e w' => e = .returned (.bool r) ∧ Below w.heap.size w w' := by
 have HR0 := Aside0.mk hr0
 have HE := Aside0.mk (Option.some.inj h)
 clear hr0 h hc0
 go_enter Tryd.func75, Tryd.ntmps75
 go_wp2_with (go_at_call 104; refine (cnf104 a1 a2 w.heap.size (w.heap.size + 1) A0 c0 l0 ((w.alloc (.cells #[.int .i64 a1] 2)).alloc (.cells #[.int .i64 a2] 2)) ?x1 ?x2 ?x3).mono ?_; (case x1 => exact kA (heap_alloc_new w _) _); (case x2 => simpa using heap_alloc_new (w.alloc (.cells #[.int .i64 a1] 2)) (.cells #[.int .i64 a2] 2)); (case x3 => exact cA (cA HR0.out _) _); rintro e w' ⟨rfl, ⟨q, rfl⟩⟩)
 go_ret
 exact ⟨ret_b (by rw [← HE.out]; try simp), bN (bA (bA (Below.refl _ _) _) _) _⟩

/-! ### impl_pitchOk: function 76 -/
def impl_pitchOk.f (a0 : Int) : Option (Bool) := (impl_within.f a0 (-12) 23).bind fun t179 => (some t179)
set_option maxHeartbeats 8000000 in
set_option maxRecDepth 100000 in
theorem impl_pitchOk.calls (a0 : Int) (r : Bool) (w : World) (h : impl_pitchOk.f a0 = some r) :
  Calls Tryd.prog 76 #[.int .i64 a0] w fun e w' => e = .returned (.bool r) ∧ Drawn0 w w' := by
 have H : ((impl_within.f a0 (-12) 23).bind fun t179 => (some t179)) = some r := h
 clear h
 replace H := Option.bind_eq_some_iff.mp H
 obtain ⟨t179, A20, H⟩ := H
 replace H : (some t179) = some r := H
 have A2 := Aside0.mk A20
 clear A20
 obtain rfl := Option.some.inj H
 go_enter Tryd.func76, Tryd.ntmps76
 go_wp2_with (first | ((with_reducible refine gC (f := 72) rfl ?_); refine goesL_ (some 4) rfl rfl Tryd.func72 (by kernel_rfl) rfl #[.int .i64 a0, .int .i64 (-12), .int .i64 23] rfl lQ ?_; (with_reducible refine (impl_within.calls a0 (-12) 23 t179 _ A2.out).mono ?_); rintro e w' ⟨rfl, ⟨nd, rfl⟩⟩; refine ⟨_, rfl, ?_⟩))
 go_ret
 exact ⟨eT, dR⟩


/-! ### cmp_Or_int: function 106 -/
def cmp_Or_int.l0 : Nat → Int → List Int → Int → Int → Option (Int)
 | 0, _, _, _, _ => none
 | k + 1, x3, x6, x7, x8 => if x8 < x7 then (if 0 ≤ x8 then (if x8 < (x6.length : Int) then (if (rd x6 x8) = x3 then (cmp_Or_int.l0 k x3 x6 x7 (wrap64 (x8 + 1))) else (some (rd x6 x8))) else (none)) else (none)) else (some x3)
def cmp_Or_int.f (k : Nat) (l0 : List Int) : Option (Int) := cmp_Or_int.l0 k 0 l0 (l0.length : Int) 0
theorem cmp_Or_int.mono_l : ∀ k, (∀ y0 y1 y2 y3, LeO (cmp_Or_int.l0 k y0 y1 y2 y3) (cmp_Or_int.l0 (k + 1) y0 y1 y2 y3))
 | 0 => fun _ _ _ _ r h => by simp [cmp_Or_int.l0] at h
 | k + 1 => by
  have ih0 := cmp_Or_int.mono_l k
  ·intro y0 y1 y2 y3
   unfold cmp_Or_int.l0
   repeat' first
   | (with_reducible exact ih0 _ _ _ _)
   | (with_reducible exact LeO.refl _)
   | (with_reducible exact LeO.none _)
   | (with_reducible refine LeO.ite ?_ ?_)
   | (with_reducible refine LeO.bind ?_ (fun _ => ?_))
   | exact ih0 _ _ _ _
   | exact LeO.none _
   | refine LeO.ite ?_ ?_
   | refine LeO.bind ?_ (fun _ => ?_)
theorem cmp_Or_int.mono : ∀ a0 k, LeO (cmp_Or_int.f k a0) (cmp_Or_int.f (k + 1) a0) := by
 intro a0 k
 have ih0 := cmp_Or_int.mono_l k
 unfold cmp_Or_int.f
 repeat' first
   | (with_reducible exact ih0 _ _ _ _)
   | (with_reducible exact LeO.refl _)
   | (with_reducible exact LeO.none _)
   | (with_reducible refine LeO.ite ?_ ?_)
   | (with_reducible refine LeO.bind ?_ (fun _ => ?_))
   | exact ih0 _ _ _ _
   | exact LeO.none _
   | refine LeO.ite ?_ ?_
   | refine LeO.bind ?_ (fun _ => ?_)
set_option maxHeartbeats 8000000 in
set_option maxRecDepth 100000 in
theorem cmp_Or_int.calls (k : Nat) (A0 : Option Addr) (c0 : Nat) (l0 : List Int) (r : Int) (w : World) (hr0 : Kd.C (Kd.int .i64) w A0 l0.length l0) (hc0 : l0.length ≤ c0) (h : cmp_Or_int.f k l0 = some r) :
  Calls Tryd.prog 106 #[.slice A0 l0.length c0] w fun e w' => e = .returned (.int .i64 r) ∧ Drawn0 w w' := by
 have HR0 := Aside0.mk hr0
 have HC0 := Aside0.mk hc0
 clear hr0 hc0
 have H : (cmp_Or_int.l0 k 0 l0 (l0.length : Int) 0) = some r := h
 clear h
 have H' := Aside0.mk H
 clear H
 go_enter Tryd.func106, Tryd.ntmps106
 go_wp2
 go_loopg [8] k (fun kq v8 w' => ∃ (x8_1 : Int), v8 = .int .i64 x8_1 ∧ Aside0 (cmp_Or_int.l0 kq 0 l0 (l0.length : Int) x8_1 = some r) ∧ Aside0 (kq ≤ k) ∧ Drawn0 w w')
 case atStart => exact ⟨(0), eT, H', ⟨Nat.le_refl _⟩, dR⟩
 case round =>
  clear H'
  try clear c1
  obtain ⟨x8_1, rfl, HA, HK1, ⟨m1, rfl⟩⟩ := hrel
  cases gk with
  | zero => exact absurd HA.out (by simp [cmp_Or_int.l0])
  | succ k1 =>
   have H := HA.out
   clear HA
   simp only [cmp_Or_int.l0] at H
   by_cases c2 : x8_1 < (l0.length : Int)
   ·rw [if_pos c2] at H
    have c2b0 : decide (x8_1 < (l0.length : Int)) = true := decide_eq_true c2
    clear c2
    by_cases c3 : 0 ≤ x8_1
    ·rw [if_pos c3] at H
     have c3b0 : decide (0 ≤ x8_1) = true := decide_eq_true c3
     clear c3
     by_cases c4 : x8_1 < (l0.length : Int)
     ·rw [if_pos c4] at H
      have c4b0 : decide (x8_1 < (l0.length : Int)) = true := decide_eq_true c4
      clear c4
      by_cases c5 : (rd l0 x8_1) = 0
      ·rw [if_pos c5] at H
       have c5b0 : ((rd l0 x8_1) == 0) = true := beq_iff_eq.mpr c5
       have c5b1 : ((rd l0 x8_1) != 0) = false := bne_eq_false_iff_eq.mpr c5
       clear c5
       have H' := Aside0.mk H
       clear H
       have p180 : 0 ≤ (x8_1 : Int) := oT
       have q180 : x8_1 < (l0.length : Int) := oT
       obtain ⟨ad180, e180, hx180_0⟩ := Kd.at_int HR0.out x8_1 p180 q180
       cases e180
       replace p180 := eq_true p180
       replace q180 := eq_true q180
       go_wp2
       go_roundg k1
       case measure => have := HK1.out; omega
       case rel => exact ⟨(wrap64 (x8_1 + 1)), eT, H', ⟨by have := HK1.out; omega⟩, dR⟩
      ·rw [if_neg c5] at H
       have c5b0 : ((rd l0 x8_1) == 0) = false := beq_eq_false_iff_ne.mpr c5
       have c5b1 : ((rd l0 x8_1) != 0) = true := bne_iff_ne.mpr c5
       obtain rfl := Option.some.inj H
       have p180 : 0 ≤ (x8_1 : Int) := oT
       have q180 : x8_1 < (l0.length : Int) := oT
       obtain ⟨ad180, e180, hx180_0⟩ := Kd.at_int HR0.out x8_1 p180 q180
       cases e180
       replace p180 := eq_true p180
       replace q180 := eq_true q180
       go_wp2
       go_ret
       exact ⟨eT, dR⟩
     ·rw [if_neg c4] at H
      exact absurd H (by simp)
    ·rw [if_neg c3] at H
     exact absurd H (by simp)
   ·rw [if_neg c2] at H
    have c2b0 : decide (x8_1 < (l0.length : Int)) = false := decide_eq_false c2
    clear c2
    obtain rfl := Option.some.inj H
    go_wp2
    go_ret
    exact ⟨eT, dR⟩

/-! ### cmp_isNaN_int64: function 131 -/
def cmp_isNaN_int64.f (a0 : Int) : Option (Bool) := some (a0 != a0)
set_option maxHeartbeats 8000000 in
set_option maxRecDepth 100000 in
theorem cmp_isNaN_int64.calls (a0 : Int) (r : Bool) (w : World) (h : cmp_isNaN_int64.f a0 = some r) :
  Calls Tryd.prog 131 #[.int .i64 a0] w fun e w' => e = .returned (.bool r) ∧ Drawn0 w w' := by
 have H : (some (a0 != a0)) = some r := h
 clear h
 obtain rfl := Option.some.inj H
 go_enter Tryd.func131, Tryd.ntmps131
 go_wp2
 go_ret
 exact ⟨eT, dR⟩

/-! ### cmp_Compare_int64: function 107 -/
def cmp_Compare_int64.f (a0 : Int) (a1 : Int) : Option (Int) := (cmp_isNaN_int64.f a0).bind fun t181 => ((cmp_isNaN_int64.f a1).bind fun t182 => (if t181 = true then (if t182 = true then (some 0) else (some (-1))) else (if t182 = true then (some 1) else (if a0 < a1 then (some (-1)) else (if a0 > a1 then (some 1) else (some 0))))))
set_option maxHeartbeats 8000000 in
set_option maxRecDepth 100000 in
theorem cmp_Compare_int64.calls (a0 : Int) (a1 : Int) (r : Int) (w : World) (h : cmp_Compare_int64.f a0 a1 = some r) :
  Calls Tryd.prog 107 #[.int .i64 a0, .int .i64 a1] w fun e w' => e = .returned (.int .i64 r) ∧ Drawn0 w w' := by
 have H : ((cmp_isNaN_int64.f a0).bind fun t181 => ((cmp_isNaN_int64.f a1).bind fun t182 => (if t181 = true then (if t182 = true then (some 0) else (some (-1))) else (if t182 = true then (some 1) else (if a0 < a1 then (some (-1)) else (if a0 > a1 then (some 1) else (some 0))))))) = some r := h
 clear h
 replace H := Option.bind_eq_some_iff.mp H
 obtain ⟨t181, A30, H⟩ := H
 replace H : ((cmp_isNaN_int64.f a1).bind fun t182 => (if t181 = true then (if t182 = true then (some 0) else (some (-1))) else (if t182 = true then (some 1) else (if a0 < a1 then (some (-1)) else (if a0 > a1 then (some 1) else (some 0)))))) = some r := H
 have A3 := Aside0.mk A30
 clear A30
 replace H := Option.bind_eq_some_iff.mp H
 obtain ⟨t182, A40, H⟩ := H
 replace H : (if t181 = true then (if t182 = true then (some 0) else (some (-1))) else (if t182 = true then (some 1) else (if a0 < a1 then (some (-1)) else (if a0 > a1 then (some 1) else (some 0))))) = some r := H
 have A4 := Aside0.mk A40
 clear A40
 by_cases c5 : t181 = true
 ·subst c5
  have H1 : (if t182 = true then (some 0) else (some (-1))) = some r := by rw [if_pos rfl] at H; exact H
  clear H
  have H := H1
  clear H1
  by_cases c6 : t182 = true
  ·subst c6
   have H1 : (some 0) = some r := by rw [if_pos rfl] at H; exact H
   clear H
   have H := H1
   clear H1
   obtain rfl := Option.some.inj H
   go_enter Tryd.func107, Tryd.ntmps107
   go_wp2_with (first | ((with_reducible refine gC (f := 131) rfl ?_); refine goesL_ (some 8) rfl rfl Tryd.func131 (by kernel_rfl) rfl #[.int .i64 a0] rfl lQ ?_; (with_reducible refine (cmp_isNaN_int64.calls a0 true _ A3.out).mono ?_); rintro e w' ⟨rfl, ⟨nd, rfl⟩⟩; refine ⟨_, rfl, ?_⟩) | ((with_reducible refine gC (f := 131) rfl ?_); refine goesL_ (some 10) rfl rfl Tryd.func131 (by kernel_rfl) rfl #[.int .i64 a1] rfl lQ ?_; (with_reducible refine (cmp_isNaN_int64.calls a1 true _ A4.out).mono ?_); rintro e w' ⟨rfl, ⟨nd, rfl⟩⟩; refine ⟨_, rfl, ?_⟩))
   go_ret
   exact ⟨eT, dR⟩
  ·replace c6 := Bool.eq_false_iff.mpr c6
   subst c6
   have H1 : (some (-1)) = some r := by rw [if_neg (show ¬ (false = true) by decide)] at H; exact H
   clear H
   have H := H1
   clear H1
   obtain rfl := Option.some.inj H
   go_enter Tryd.func107, Tryd.ntmps107
   go_wp2_with (first | ((with_reducible refine gC (f := 131) rfl ?_); refine goesL_ (some 8) rfl rfl Tryd.func131 (by kernel_rfl) rfl #[.int .i64 a0] rfl lQ ?_; (with_reducible refine (cmp_isNaN_int64.calls a0 true _ A3.out).mono ?_); rintro e w' ⟨rfl, ⟨nd, rfl⟩⟩; refine ⟨_, rfl, ?_⟩) | ((with_reducible refine gC (f := 131) rfl ?_); refine goesL_ (some 10) rfl rfl Tryd.func131 (by kernel_rfl) rfl #[.int .i64 a1] rfl lQ ?_; (with_reducible refine (cmp_isNaN_int64.calls a1 false _ A4.out).mono ?_); rintro e w' ⟨rfl, ⟨nd, rfl⟩⟩; refine ⟨_, rfl, ?_⟩))
   go_ret
   exact ⟨eT, dR⟩
 ·replace c5 := Bool.eq_false_iff.mpr c5
  subst c5
  have H1 : (if t182 = true then (some 1) else (if a0 < a1 then (some (-1)) else (if a0 > a1 then (some 1) else (some 0)))) = some r := by rw [if_neg (show ¬ (false = true) by decide)] at H; exact H
  clear H
  have H := H1
  clear H1
  by_cases c7 : t182 = true
  ·subst c7
   have H1 : (some 1) = some r := by rw [if_pos rfl] at H; exact H
   clear H
   have H := H1
   clear H1
   obtain rfl := Option.some.inj H
   go_enter Tryd.func107, Tryd.ntmps107
   go_wp2_with (first | ((with_reducible refine gC (f := 131) rfl ?_); refine goesL_ (some 8) rfl rfl Tryd.func131 (by kernel_rfl) rfl #[.int .i64 a0] rfl lQ ?_; (with_reducible refine (cmp_isNaN_int64.calls a0 false _ A3.out).mono ?_); rintro e w' ⟨rfl, ⟨nd, rfl⟩⟩; refine ⟨_, rfl, ?_⟩) | ((with_reducible refine gC (f := 131) rfl ?_); refine goesL_ (some 10) rfl rfl Tryd.func131 (by kernel_rfl) rfl #[.int .i64 a1] rfl lQ ?_; (with_reducible refine (cmp_isNaN_int64.calls a1 true _ A4.out).mono ?_); rintro e w' ⟨rfl, ⟨nd, rfl⟩⟩; refine ⟨_, rfl, ?_⟩))
   go_ret
   exact ⟨eT, dR⟩
  ·replace c7 := Bool.eq_false_iff.mpr c7
   subst c7
   have H1 : (if a0 < a1 then (some (-1)) else (if a0 > a1 then (some 1) else (some 0))) = some r := by rw [if_neg (show ¬ (false = true) by decide)] at H; exact H
   clear H
   have H := H1
   clear H1
   by_cases c8 : a0 < a1
   ·rw [if_pos c8] at H
    have c8b0 : decide (a0 < a1) = true := decide_eq_true c8
    clear c8
    obtain rfl := Option.some.inj H
    go_enter Tryd.func107, Tryd.ntmps107
    go_wp2_with (first | ((with_reducible refine gC (f := 131) rfl ?_); refine goesL_ (some 8) rfl rfl Tryd.func131 (by kernel_rfl) rfl #[.int .i64 a0] rfl lQ ?_; (with_reducible refine (cmp_isNaN_int64.calls a0 false _ A3.out).mono ?_); rintro e w' ⟨rfl, ⟨nd, rfl⟩⟩; refine ⟨_, rfl, ?_⟩) | ((with_reducible refine gC (f := 131) rfl ?_); refine goesL_ (some 10) rfl rfl Tryd.func131 (by kernel_rfl) rfl #[.int .i64 a1] rfl lQ ?_; (with_reducible refine (cmp_isNaN_int64.calls a1 false _ A4.out).mono ?_); rintro e w' ⟨rfl, ⟨nd, rfl⟩⟩; refine ⟨_, rfl, ?_⟩))
    go_ret
    exact ⟨eT, dR⟩
   ·rw [if_neg c8] at H
    have c8b0 : decide (a0 < a1) = false := decide_eq_false c8
    clear c8
    by_cases c9 : a0 > a1
    ·rw [if_pos c9] at H
     have c9b0 : decide (a1 < a0) = true := decide_eq_true c9
     clear c9
     obtain rfl := Option.some.inj H
     go_enter Tryd.func107, Tryd.ntmps107
     go_wp2_with (first | ((with_reducible refine gC (f := 131) rfl ?_); refine goesL_ (some 8) rfl rfl Tryd.func131 (by kernel_rfl) rfl #[.int .i64 a0] rfl lQ ?_; (with_reducible refine (cmp_isNaN_int64.calls a0 false _ A3.out).mono ?_); rintro e w' ⟨rfl, ⟨nd, rfl⟩⟩; refine ⟨_, rfl, ?_⟩) | ((with_reducible refine gC (f := 131) rfl ?_); refine goesL_ (some 10) rfl rfl Tryd.func131 (by kernel_rfl) rfl #[.int .i64 a1] rfl lQ ?_; (with_reducible refine (cmp_isNaN_int64.calls a1 false _ A4.out).mono ?_); rintro e w' ⟨rfl, ⟨nd, rfl⟩⟩; refine ⟨_, rfl, ?_⟩))
     go_ret
     exact ⟨eT, dR⟩
    ·rw [if_neg c9] at H
     have c9b0 : decide (a1 < a0) = false := decide_eq_false c9
     clear c9
     obtain rfl := Option.some.inj H
     go_enter Tryd.func107, Tryd.ntmps107
     go_wp2_with (first | ((with_reducible refine gC (f := 131) rfl ?_); refine goesL_ (some 8) rfl rfl Tryd.func131 (by kernel_rfl) rfl #[.int .i64 a0] rfl lQ ?_; (with_reducible refine (cmp_isNaN_int64.calls a0 false _ A3.out).mono ?_); rintro e w' ⟨rfl, ⟨nd, rfl⟩⟩; refine ⟨_, rfl, ?_⟩) | ((with_reducible refine gC (f := 131) rfl ?_); refine goesL_ (some 10) rfl rfl Tryd.func131 (by kernel_rfl) rfl #[.int .i64 a1] rfl lQ ?_; (with_reducible refine (cmp_isNaN_int64.calls a1 false _ A4.out).mono ?_); rintro e w' ⟨rfl, ⟨nd, rfl⟩⟩; refine ⟨_, rfl, ?_⟩))
     go_ret
     exact ⟨eT, dR⟩


/-! ### impl_compareArcs: function 77 -/
def impl_compareArcs.f (k : Nat) (a0_0 : Int) (a0_1 : Int) (a0_2 : Int) (a1_0 : Int) (a1_1 : Int) (a1_2 : Int) : Option (Int) := (cmp_Compare_int64.f a0_0 a1_0).bind fun t185 => ((cmp_Compare_int64.f a0_1 a1_1).bind fun t186 => ((cmp_Or_int.f k (([t185, t186] : List Int))).bind fun t190 => (some t190)))
theorem impl_compareArcs.mono : ∀ a0 a1 a2 a3 a4 a5 k, LeO (impl_compareArcs.f k a0 a1 a2 a3 a4 a5) (impl_compareArcs.f (k + 1) a0 a1 a2 a3 a4 a5) := by
 intro a0 a1 a2 a3 a4 a5 k
 unfold impl_compareArcs.f
 repeat' first
   | (with_reducible exact cmp_Or_int.mono _ _)
   | (with_reducible exact LeO.refl _)
   | (with_reducible exact LeO.none _)
   | (with_reducible refine LeO.ite ?_ ?_)
   | (with_reducible refine LeO.bind ?_ (fun _ => ?_))
   | exact cmp_Or_int.mono _ _
   | exact LeO.none _
   | refine LeO.ite ?_ ?_
   | refine LeO.bind ?_ (fun _ => ?_)
def impl_compareArcs.T1 : Bool × List (List Nat × List Nat) := (true, [([], []), ([0], [0]), ([], []), ([2], [2]), ([1, 3], [1, 3]), ([], []), ([5], [5]), ([], []), ([7], [7]), ([6, 8, 4], [6, 8]), ([4, 9], [4, 9]), ([10, 9], [10]), ([11, 11, 0, 1, 2, 3, 4, 5, 6, 7, 8, 9, 10, 11], [11])])
def impl_compareArcs.B1 : List Nat := [0, 1, 0, 4, 15, 0, 32, 0, 128, 511, 1023, 2047, 4095]
theorem impl_compareArcs.tab1 : rtab .any (opsOf Tryd.f77 1) = impl_compareArcs.T1 := by kernel_rfl
theorem impl_compareArcs.bits1 : waitsOk impl_compareArcs.T1.2 impl_compareArcs.B1 = true := by kernel_rfl
set_option maxHeartbeats 8000000 in
set_option maxRecDepth 100000 in
theorem impl_compareArcs.calls (k : Nat) (a0_0 : Int) (a0_1 : Int) (a0_2 : Int) (a1_0 : Int) (a1_1 : Int) (a1_2 : Int) (r : Int) (w : World) (h : impl_compareArcs.f k a0_0 a0_1 a0_2 a1_0 a1_1 a1_2 = some r) :
  Calls Tryd.prog 77 #[.agg #[.int .i64 a0_0, .int .i64 a0_1, .int .i64 a0_2], .agg #[.int .i64 a1_0, .int .i64 a1_1, .int .i64 a1_2]] w fun e w' => e = .returned (.int .i64 r) ∧ Below w.heap.size w w' := by
 have hu63 := Tryd.underlying63
 have HB := Aside0.mk (Below.refl w.heap.size w)
 have H : ((cmp_Compare_int64.f a0_0 a1_0).bind fun t185 => ((cmp_Compare_int64.f a0_1 a1_1).bind fun t186 => ((cmp_Or_int.f k (([t185, t186] : List Int))).bind fun t190 => (some t190)))) = some r := h
 clear h
 replace H := Option.bind_eq_some_iff.mp H
 obtain ⟨t185, A30, H⟩ := H
 replace H : ((cmp_Compare_int64.f a0_1 a1_1).bind fun t186 => ((cmp_Or_int.f k (([t185, t186] : List Int))).bind fun t190 => (some t190))) = some r := H
 have A3 := Aside0.mk A30
 clear A30
 replace H := Option.bind_eq_some_iff.mp H
 obtain ⟨t186, A40, H⟩ := H
 replace H : ((cmp_Or_int.f k (([t185, t186] : List Int))).bind fun t190 => (some t190)) = some r := H
 have A4 := Aside0.mk A40
 clear A40
 obtain ⟨y187, hy187⟩ : ∃ y_ : List Int, y_ = (([t185, t186] : List Int)) := ⟨_, rfl⟩
 replace H : ((cmp_Or_int.f k y187).bind fun t190 => (some t190)) = some r := by first | (rw [hy187]; with_reducible exact H) | (have H2_ := (Option.bind_some _ _).symm.trans H; rw [hy187]; with_reducible exact H2_) | (have H2_ := (Option.bind_some _ _).symm.trans H; with_reducible exact H2_) | with_reducible exact H | (rw [hy187]; exact H) | exact H
 have Ny187 := Aside0.mk hy187
 clear hy187
 replace H := Option.bind_eq_some_iff.mp H
 obtain ⟨t190, A50, H⟩ := H
 replace H : (some t190) = some r := H
 have A5 := Aside0.mk A50
 clear A50
 obtain rfl := Option.some.inj H
 go_enter Tryd.func77, Tryd.ntmps77
 try go_wp2_with (first | ((with_reducible refine gate_dst (N := 2) rfl ?_); refine bE ?hg (N := 2) ?hd (cs := #[.int .i64 a0_0, .int .i64 a0_1, .int .i64 a0_2]) (t := 63) ?hr ?_; (case hd => rfl); (case hg => rfl); (case hr => first | (go_simp; done) | (go_simp; rfl)); intro gb183 hg w6 hbox hb; have z_ := bX hb (hQ HB); have n0_ := Aside0.mk (bP z_ hb); have n1_ := Aside0.mk (hbox); have n2_ := Aside0.mk ((by rw [hg]; exact (bZ z_) : w.heap.size ≤ gb183)); have n3_ := Aside0.mk ((by rw [hg]; exact (bZ z_) : w.heap.size ≤ gb183)); clear HB; have HB := n0_; have BK183 := n1_; have GW183 := n2_; have GE183 := n3_; clear z_ n0_ n1_ n2_ n3_; clear hb hbox hg) | ((with_reducible refine gate_dst (N := 3) rfl ?_); refine bE ?hg (N := 3) ?hd (cs := #[.int .i64 a1_0, .int .i64 a1_1, .int .i64 a1_2]) (t := 63) ?hr ?_; (case hd => rfl); (case hg => rfl); (case hr => first | (go_simp; done) | (go_simp; rfl)); intro gb184 hg w7 hbox hb; have z_ := bX hb (by repeat (first | (with_reducible first | exact HB.out | apply bA | apply bN | apply bD | refine bS ?_ GE183.out) | exact HB.out)); have n0_ := Aside0.mk (kB (kQ BK183) hb); have n1_ := Aside0.mk (bP z_ hb); have n2_ := Aside0.mk (hbox); have n3_ := Aside0.mk ((by rw [hg]; exact (bZ z_) : w.heap.size ≤ gb184)); have n4_ := Aside0.mk ((by rw [hg]; exact (bZ z_) : w.heap.size ≤ gb184)); have n5_ := Aside0.mk ((by rw [hg]; exact Nat.ne_of_lt (kL (kQ BK183)) : gb183 ≠ gb184)); have n6_ := Aside0.mk ((by rw [hg]; exact Nat.ne_of_gt (kL (kQ BK183)) : gb184 ≠ gb183)); clear BK183; clear HB; have BK183 := n0_; have HB := n1_; have BK184 := n2_; have GW184 := n3_; have GE184 := n4_; have NB183_184 := n5_; have NB184_183 := n6_; clear z_ n0_ n1_ n2_ n3_ n4_ n5_ n6_; clear hb hbox hg))
 have n0_ := Aside0.mk (kD BK183.out)
 have n1_ := Aside0.mk (kD BK184.out)
 have n2_ := Aside0.mk (bD HB.out)
 clear BK183
 clear BK184
 clear HB
 have BK183 := n0_
 have BK184 := n1_
 have HB := n2_
 clear n0_ n1_ n2_
 refine start_ (n := 13) (S := fun w' => w'.cell? ⟨gb183, 0, none⟩ = some (.int .i64 a0_0) ∧ w'.cell? ⟨gb183, 1, none⟩ = some (.int .i64 a0_1) ∧ w'.cell? ⟨gb183, 2, none⟩ = some (.int .i64 a0_2) ∧ w'.cell? ⟨gb184, 0, none⟩ = some (.int .i64 a1_0) ∧ w'.cell? ⟨gb184, 1, none⟩ = some (.int .i64 a1_1) ∧ w'.cell? ⟨gb184, 2, none⟩ = some (.int .i64 a1_2)) (ds := []) #[F,F,F,F,F,F,F,F,F,F,F,F,F] (by kernel_rfl) rfl rfl ⟨(kC BK183.out 0).trans rfl, (kC BK183.out 1).trans rfl, (kC BK183.out 2).trans rfl, (kC BK184.out 0).trans rfl, (kC BK184.out 1).trans rfl, (kC BK184.out 2).trans rfl⟩ (fun hHeld => ?_); refine with_tabW impl_compareArcs.tab1 impl_compareArcs.bits1 (fun HT_ HW_ => ?_)
 generalize w7.drew = w8 at BK183 BK184 HB hHeld ⊢
 refine pure_ (i := 0) (N := some 5) (v := ?_) (a' := ?_) #[T,F,F,F,F,F,F,F,F,F,F,F,F] rfl rfl (aO HT_.out (by kernel_rfl)) (fun _ _ _ h => h) (Or.inl ⟨by rfl, ?_⟩) ?_ ?_; rotate_left; (·intro w'; go_simp; with_reducible rfl); rotate_left; (·simp only [Act.put, sI, sZ, sS, iW, jW]; rfl)
 refine pure_ (i := 2) (N := some 7) (v := ?_) (a' := ?_) #[T,F,T,F,F,F,F,F,F,F,F,F,F] rfl rfl (aO HT_.out (by kernel_rfl)) (fun _ _ _ h => h) (Or.inl ⟨by rfl, ?_⟩) ?_ ?_; rotate_left; (·intro w'; go_simp; with_reducible rfl); rotate_left; (·simp only [Act.put, sI, sZ, sS, iW, jW]; rfl)
 refine pure_ (i := 5) (N := some 10) (v := ?_) (a' := ?_) #[T,F,T,F,F,T,F,F,F,F,F,F,F] rfl rfl (aO HT_.out (by kernel_rfl)) (fun _ _ _ h => h) (Or.inl ⟨by rfl, ?_⟩) ?_ ?_; rotate_left; (·intro w'; go_simp; with_reducible rfl); rotate_left; (·simp only [Act.put, sI, sZ, sS, iW, jW]; rfl)
 refine pure_ (i := 7) (N := some 12) (v := ?_) (a' := ?_) #[T,F,T,F,F,T,F,T,F,F,F,F,F] rfl rfl (aO HT_.out (by kernel_rfl)) (fun _ _ _ h => h) (Or.inl ⟨by rfl, ?_⟩) ?_ ?_; rotate_left; (·intro w'; go_simp; with_reducible rfl); rotate_left; (·simp only [Act.put, sI, sZ, sS, iW, jW]; rfl)
 refine take_ (i := 1) (N := some 6) (v := ?_) (a' := ?_) #[T,T,T,F,F,T,F,T,F,F,F,F,F] rfl rfl (tW HT_.out HW_.out (by kernel_rfl)) (fun _ _ _ h => h) (Or.inl ⟨by rfl, ?_⟩) hHeld ?_ ?_; rotate_left; (·rintro w' ⟨s0, s1, s2, s3, s4, s5⟩; go_simp; with_reducible rfl); rotate_left; (·simp only [Act.put, sI, sZ, sS, iW, jW]; rfl)
 refine take_ (i := 3) (N := some 8) (v := ?_) (a' := ?_) #[T,T,T,T,F,T,F,T,F,F,F,F,F] rfl rfl (tW HT_.out HW_.out (by kernel_rfl)) (fun _ _ _ h => h) (Or.inl ⟨by rfl, ?_⟩) hHeld ?_ ?_; rotate_left; (·rintro w' ⟨s0, s1, s2, s3, s4, s5⟩; go_simp; with_reducible rfl); rotate_left; (·simp only [Act.put, sI, sZ, sS, iW, jW]; rfl)
 refine take_ (i := 6) (N := some 11) (v := ?_) (a' := ?_) #[T,T,T,T,F,T,T,T,F,F,F,F,F] rfl rfl (tW HT_.out HW_.out (by kernel_rfl)) (fun _ _ _ h => h) (Or.inl ⟨by rfl, ?_⟩) hHeld ?_ ?_; rotate_left; (·rintro w' ⟨s0, s1, s2, s3, s4, s5⟩; go_simp; with_reducible rfl); rotate_left; (·simp only [Act.put, sI, sZ, sS, iW, jW]; rfl)
 refine take_ (i := 8) (N := some 13) (v := ?_) (a' := ?_) #[T,T,T,T,F,T,T,T,T,F,F,F,F] rfl rfl (tW HT_.out HW_.out (by kernel_rfl)) (fun _ _ _ h => h) (Or.inl ⟨by rfl, ?_⟩) hHeld ?_ ?_; rotate_left; (·rintro w' ⟨s0, s1, s2, s3, s4, s5⟩; go_simp; with_reducible rfl); rotate_left; (·simp only [Act.put, sI, sZ, sS, iW, jW]; rfl)
 refine one_ (i := 4) (N := some 9) #[T,T,T,T,T,T,T,T,T,F,F,F,F] rfl rfl (oO HT_.out (by kernel_rfl)) (by decide) (fun K hK => ?_)
 refine goes_ Tryd.func107 (by kernel_rfl) rfl #[.int .i64 a0_0, .int .i64 a1_0] (by rfl) rfl rfl lQ ?_
 with_reducible refine (cmp_Compare_int64.calls a0_0 a1_0 t185 _ A3.out).mono ?_
 rintro e w' ⟨rfl, ⟨nd, rfl⟩⟩
 refine ⟨_, rfl, ?_⟩
 refine hK.out _ _ ⟨(kC BK183.out 0).trans rfl, (kC BK183.out 1).trans rfl, (kC BK183.out 2).trans rfl, (kC BK184.out 0).trans rfl, (kC BK184.out 1).trans rfl, (kC BK184.out 2).trans rfl⟩ (fun hHeld => ?_)
 clear hK K
 refine norm_ (a' := ?_) ?_ ?_
 rotate_left
 ·show Act.put _ (some 9) _ = _
  simp only [Act.put, sI, sZ, sS, iW, jW]
  rfl
 refine one_ (i := 9) (N := some 14) #[T,T,T,T,T,T,T,T,T,T,F,F,F] rfl rfl (oO HT_.out (by kernel_rfl)) (by decide) (fun K hK => ?_)
 refine goes_ Tryd.func107 (by kernel_rfl) rfl #[.int .i64 a0_1, .int .i64 a1_1] (by rfl) rfl rfl lQ ?_
 with_reducible refine (cmp_Compare_int64.calls a0_1 a1_1 t186 _ A4.out).mono ?_
 rintro e w' ⟨rfl, ⟨nd, rfl⟩⟩
 refine ⟨_, rfl, ?_⟩
 refine hK.out _ _ ⟨(kC BK183.out 0).trans rfl, (kC BK183.out 1).trans rfl, (kC BK183.out 2).trans rfl, (kC BK184.out 0).trans rfl, (kC BK184.out 1).trans rfl, (kC BK184.out 2).trans rfl⟩ (fun hHeld => ?_)
 clear hK K
 refine norm_ (a' := ?_) ?_ ?_
 rotate_left
 ·show Act.put _ (some 14) _ = _
  simp only [Act.put, sI, sZ, sS, iW, jW]
  rfl
 refine one_ (i := 10) (N := some 15) #[T,T,T,T,T,T,T,T,T,T,T,F,F] rfl rfl (oO HT_.out (by kernel_rfl)) (by decide) (fun K hK => ?_)
 refine Kd.R_lit_step (Kd.int .i64) _ 3 ?hg (N := 15) ?hd (xs := ([t185, t186] : List Int)) (inner := [.int .i64 t185, .int .i64 t186]) (ok := fun _ => True) (okp := fun _ => True) ?hr ?hp (fun _ hk => hk) trivial (Below.refl _ _) (Nat.le_refl _) (by simp) ?_; (case hd => rfl); (case hg => rfl); (case hr => first | (go_simp; done) | (go_simp; rfl)); (case hp => exact (Reps.one (show Kd.M (Kd.int .i64) _ _ _ t185 [.int .i64 t185] from rfl) (Reps.one (show Kd.M (Kd.int .i64) _ _ _ t186 [.int .i64 t186] from rfl) (Reps.none _ _))))
 intro v188 w9 ho10 hb hg_ hnew_
 clear hg_ hnew_
 (first | rw [← Ny187.out] at ho10 | (simp only [Int.reduceToNat] at ho10; rw [← Ny187.out] at ho10))
 have z_ := bX hb (by repeat (first | (with_reducible first | exact HB.out | apply bA | apply bN | apply bD | refine bS ?_ GE183.out | refine bS ?_ GE184.out) | exact HB.out))
 have n0_ := Aside0.mk (rL ho10 (bZ z_))
 have n1_ := Aside0.mk (kB (kQ BK183) hb)
 have n2_ := Aside0.mk (kB (kQ BK184) hb)
 have n3_ := Aside0.mk (bP z_ hb)
 clear BK183
 clear BK184
 clear HB
 have HO189 := n0_
 have BK183 := n1_
 have BK184 := n2_
 have HB := n3_
 clear z_ n0_ n1_ n2_ n3_
 clear hb ho10
 obtain ⟨Ao11, co11, eo11⟩ := Kd.R_slice HO189.out
 (first | subst eo11 | (injection eo11 with f1_ f2_ f3_; have f4_ := f1_.symm; have f5_ := f3_.symm; clear f1_ f2_ f3_; subst f4_; subst f5_))
 refine hK.out _ _ ⟨(kC BK183.out 0).trans rfl, (kC BK183.out 1).trans rfl, (kC BK183.out 2).trans rfl, (kC BK184.out 0).trans rfl, (kC BK184.out 1).trans rfl, (kC BK184.out 2).trans rfl⟩ (fun hHeld => ?_)
 clear hK K
 refine norm_ (a' := ?_) ?_ ?_
 rotate_left
 ·show Act.put _ (some 15) _ = _
  simp only [Act.put, sI, sZ, sS, iW, jW]
  rfl
 refine one_ (i := 11) (N := some 16) #[T,T,T,T,T,T,T,T,T,T,T,T,F] rfl rfl (oO HT_.out (by kernel_rfl)) (by decide) (fun K hK => ?_)
 refine goes_ Tryd.func106 (by kernel_rfl) rfl #[.slice Ao11 y187.length co11] (by rfl) rfl rfl lQ ?_
 with_reducible refine (cmp_Or_int.calls k _ _ y187 t190 _ ?side1 ?side2 A5.out).mono ?_
 (case side1 => exact cP (Kd.R_reads' HO189.out).2.2)
 (case side2 => exact (Kd.R_reads' HO189.out).2.1)
 rintro e w' ⟨rfl, ⟨nd, rfl⟩⟩
 refine ⟨_, rfl, ?_⟩
 refine hK.out _ _ ⟨(kC BK183.out 0).trans rfl, (kC BK183.out 1).trans rfl, (kC BK183.out 2).trans rfl, (kC BK184.out 0).trans rfl, (kC BK184.out 1).trans rfl, (kC BK184.out 2).trans rfl⟩ (fun hHeld => ?_)
 clear hK K
 refine norm_ (a' := ?_) ?_ ?_
 rotate_left
 ·show Act.put _ (some 16) _ = _
  simp only [Act.put, sI, sZ, sS, iW, jW]
  rfl
 refine pure_ (i := 12) (N := some 4) (v := ?_) (a' := ?_) #[T,T,T,T,T,T,T,T,T,T,T,T,T] rfl rfl (aO HT_.out (by kernel_rfl)) (fun _ _ _ h => h) (Or.inl ⟨by rfl, ?_⟩) ?_ ?_; rotate_left; (·intro w'; go_simp; with_reducible rfl); rotate_left; (·simp only [Act.put, sI, sZ, sS, iW, jW]; rfl)
 refine done_ (done_of HT_.out (by kernel_rfl)) ?_
 try go_wp2
 go_ret
 exact ⟨by first | rfl | (simp [errW_none, errW_some] <;> rfl) | (simp [*, errW_none, errW_some] <;> rfl), by repeat (first | (with_reducible first | exact HB.out | apply bA | apply bN | apply bD | refine bS ?_ GE183.out | refine bS ?_ GE184.out) | exact HB.out)⟩

end Go.Proofs.YtlmeijlandogaaaDoor.R
-- shrunk
-- tight
-- tight2
-- tight3
