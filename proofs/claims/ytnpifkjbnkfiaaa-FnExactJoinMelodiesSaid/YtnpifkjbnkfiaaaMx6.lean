/- What functions of the given program compute, as plain Lean functions, and that the code comes to just that; by a program of this session over the kit's print. No condition. -/
import Derived.Test.YtnpifkjbnkfiaaaMx0
import Derived.Test.YtnpifkjbnkfiaaaMx4
import Derived.Test.YtnpifkjbnkfiaaaMx5
namespace Go.Proofs.Ytnpifkjbnkfiaaa.M
open Go.RowKit Go.Proofs.YtnpifkjbnkfiaaaW.PrintWords Go.Proofs.YtnpifkjbnkfiaaaW.PrintLast Go.Proofs.YtnpifkjbnkfiaaaW.PrintMore
attribute [local go_sem] max2_int min2_int max_two min_two max_three min_three max_four min_four   -- for this text's walks alone
set_option linter.unusedVariables false
set_option linter.unusedSimpArgs false

/-! ### impl_checkedMelody: function 44 -/
def nOk (x : S52) : Bool := decide (-12 ≤ x.f0 ∧ x.f0 ≤ 23) && decide (1 ≤ x.f1 ∧ x.f1 ≤ 64)
theorem nret_b {a b : Bool} (h : a = b) : Ending.returned (.bool a) = .returned (.bool b) := by rw [h]
theorem nall_take {α : Type} (l : List α) (p : α → Bool) (z : α) (k : Nat) (h : k < l.length) (h1 : (l.take k).all p = true) (h2 : p (l.getD k z) = true) : (l.take (k + 1)).all p = true := by
  rw [List.take_succ_eq_append_getElem h, List.all_append, h1]
  simp only [List.all_cons, List.all_nil, Bool.and_true, Bool.true_and]
  rwa [List.getD_eq_getElem?_getD, List.getElem?_eq_getElem h] at h2
theorem nall_no {α : Type} (l : List α) (p : α → Bool) (z : α) (k : Nat) (h : k < l.length) (h2 : p (l.getD k z) = false) : l.all p = false := by
  rw [List.all_eq_false]
  rw [List.getD_eq_getElem?_getD, List.getElem?_eq_getElem h] at h2
  exact ⟨_, List.getElem_mem h, by simpa using h2⟩
set_option maxHeartbeats 1600000 in
set_option maxRecDepth 100000 in
theorem clo73 (a b : Int) (q : Bool) (hq : (!nOk ⟨a, b⟩) = q) (w : World) :
    Calls Try.prog 73 #[.agg #[.int .i64 a, .int .i64 b]] w fun e w' => e = .returned (.bool q) ∧ Below w.heap.size w w' := by
  have hu := Try.underlying52
  have HQ := Aside0.mk hq
  clear hq
  go_enter Try.func73, Try.ntmps73
  go_wp2
  all_goals
    go_ret
    exact ⟨nret_b (by rw [← HQ.out, Bool.eq_iff_iff]; simp [nOk]; omega), below_alloc (Below.refl _ _) _⟩
def FoundN (l : List S52) (p : S52 → Bool) (w : World) (e : Ending) (w' : World) : Prop := (∃ n : Int, e = .returned (.int .i64 n) ∧ (decide (n ≥ 0) = !l.all p)) ∧ Below w.heap.size w w'
set_option maxHeartbeats 1600000 in
theorem ixf74 (A0 : Option Addr) (c0 : Nat) (l0 : List S52) (w : World) (hr0 : Kd.C k52 w A0 l0.length l0) :
    Calls Try.prog 74 #[.slice A0 l0.length c0, .func (.func 73) #[] #[]] w (FoundN l0 nOk w) := by
  have hu := Try.underlying52
  have HR0 := Aside0.mk hr0
  clear hr0
  go_enter Try.func74, Try.ntmps74
  go_wp2
  go_loopw [8] (fun i wr => ∃ k : Nat, k ≤ l0.length ∧ i = .int .i64 k ∧ Aside0 ((l0.take k).all nOk = true) ∧ Aside0 (Below w.heap.size w wr)) (fun i _ => l0.length - (intOf i).toNat)
  case atStart => exact ⟨0, Nat.zero_le _, rfl, ⟨rfl⟩, ⟨Below.refl _ _⟩⟩
  case round =>
    obtain ⟨k, hk, rfl, HALL, HB⟩ := hrel
    have hn : l0.length ≤ 9223372036854775807 := HR0.out.2.1
    by_cases hlt : k < l0.length
    · obtain ⟨ad, e, hx0, hx1⟩ := at_T52 HR0.out (k : Int) (by omega) (by omega)
      subst e
      have hy0 := (HB.out.cell (World.block_lt_of_cell? w _ hx0)).trans hx0
      have hy1 := (HB.out.cell (World.block_lt_of_cell? w _ hx1)).trans hx1
      rw [Int.toNat_natCast] at hy0 hy1
      clear hx0 hx1
      cases hp : nOk (rd_T52 l0 k)
      · have HP := Aside0.mk hp
        clear hp
        go_wp2_with (go_at_call 73; refine (clo73 _ _ true (by rw [show nOk ⟨(rd_T52 l0 k).f0, (rd_T52 l0 k).f1⟩ = false from HP.out]; rfl) _).mono ?_; rintro e w' ⟨rfl, hb⟩; have HB2 := Aside0.mk hb; clear hb)
        go_ret
        exact ⟨⟨k, rfl, by rw [nall_no l0 nOk z52 k hlt HP.out]; exact decide_eq_true (Int.natCast_nonneg k)⟩, below_step HB.out HB2.out⟩
      · have HP := Aside0.mk hp
        clear hp
        go_wp2_with (go_at_call 73; refine (clo73 _ _ false (by rw [show nOk ⟨(rd_T52 l0 k).f0, (rd_T52 l0 k).f1⟩ = true from HP.out]; rfl) _).mono ?_; rintro e w' ⟨rfl, hb⟩; have HB2 := Aside0.mk hb; clear hb)
        go_roundw
        case rel => exact ⟨k + 1, by omega, by go_num, ⟨nall_take l0 _ z52 k hlt HALL.out HP.out⟩, ⟨below_step HB.out HB2.out⟩⟩
        case measure => simp [intOf]; omega
    · go_wp2
      go_ret
      exact ⟨⟨-1, rfl, by
        have := HALL.out
        rw [List.take_of_length_le (by omega)] at this
        rw [this]
        rfl⟩, HB.out⟩
set_option maxHeartbeats 800000 in
theorem cnf53 (A0 : Option Addr) (c0 : Nat) (l0 : List S52) (q : Bool) (hq : (!l0.all nOk) = q) (w : World) (hr0 : Kd.C k52 w A0 l0.length l0) :
    Calls Try.prog 53 #[.slice A0 l0.length c0, .func (.func 73) #[] #[]] w fun e w' => e = .returned (.bool q) ∧ Below w.heap.size w w' := by
  have HR0 := Aside0.mk hr0
  have HQ := Aside0.mk hq
  clear hr0 hq
  go_enter Try.func53, Try.ntmps53
  go_wp2_with (go_at_call 74; refine (ixf74 A0 c0 l0 _ HR0.out).mono ?_; rintro e w' ⟨⟨n, rfl, hn⟩, hb⟩; have HN := Aside0.mk hn; have HB := Aside0.mk hb; clear hn hb)
  all_goals
    go_ret
    refine ⟨nret_b ?_, HB.out⟩
    rw [← HQ.out, ← HN.out]
    try first | rfl | simp | (simp; omega)
def impl_checkedMelody.f (l0 : List (S52)) : Option ((List (S52)) × Int) := if l0.all nOk = true then (if l0.length > 48 then some ([], 5) else some (l0, 0)) else some ([], 6)
set_option maxHeartbeats 1600000 in
theorem impl_checkedMelody.calls (P0_ : Nat → Prop) (u9000_ : Value) (l0 : List (S52)) (r1 : List (S52)) (r2 : Int) (w0 w : World) (hB : Below w0.heap.size w0 w) (ho0 : Kd.R k52 52 w w0.heap.size P0_ u9000_ l0) (h : impl_checkedMelody.f l0 = some (r1, r2)) :
    Calls Try.prog 44 #[u9000_] w fun e w' => ∃ v0_ : Value, e = .returned (.tuple #[v0_, .int .i64 r2]) ∧ Kd.R k52 52 w' w0.heap.size (fun k_ => (P0_ k_ ∨ w.heap.size ≤ k_)) v0_ r1 ∧ Below w0.heap.size w0 w' ∧ Kept w w' (fun k_ => P0_ k_) := by
  obtain ⟨A, c, rfl, hc, hr⟩ := Kd.R_reads ho0
  have HR0 := Aside0.mk hr
  have HO := Aside0.mk ho0
  have HB := Aside0.mk hB
  clear hr ho0 hB hc
  have kept : ∀ w' : World, Below w.heap.size w w' → Kept w w' (fun k_ => P0_ k_) := fun w' hb => ⟨hb.size, fun i hi _ => hb.block i hi⟩
  have KE := Aside0.mk kept
  clear kept
  unfold impl_checkedMelody.f at h
  by_cases c1 : l0.all nOk = true
  · rw [if_pos c1] at h
    have HC1 := Aside0.mk c1
    clear c1
    by_cases c2 : l0.length > 48
    · rw [if_pos c2] at h
      obtain ⟨rfl, rfl⟩ := Prod.mk.inj (Option.some.inj h)
      clear h
      go_enter Try.func44, Try.ntmps44
      go_wp2_with (go_at_call 53; refine (cnf53 A c l0 false (by rw [HC1.out]; rfl) _ HR0.out).mono ?_; rintro e w' ⟨rfl, hb⟩; have HW := Aside0.mk hb; clear hb)
      go_ret2
      exact ⟨_, rfl, Kd.R_nil _ _ _ _ _, below_weaken HB.out HB.out.size HW.out, KE.out _ HW.out⟩
    · rw [if_neg c2] at h
      obtain ⟨rfl, rfl⟩ := Prod.mk.inj (Option.some.inj h)
      clear h
      have c3 : l0.length ≤ 48 := by omega
      clear c2
      go_enter Try.func44, Try.ntmps44
      go_wp2_with (go_at_call 53; refine (cnf53 A c l0 false (by rw [HC1.out]; rfl) _ HR0.out).mono ?_; rintro e w' ⟨rfl, hb⟩; have HW := Aside0.mk hb; clear hb)
      go_ret2
      exact ⟨_, rfl, Kd.R_mono (Kd.R_below HO.out HW.out) (fun k_ hk => .inl hk), below_weaken HB.out HB.out.size HW.out, KE.out _ HW.out⟩
  · rw [if_neg c1] at h
    obtain ⟨rfl, rfl⟩ := Prod.mk.inj (Option.some.inj h)
    have HC1 := Aside0.mk (Bool.eq_false_iff.2 c1)
    clear h c1
    go_enter Try.func44, Try.ntmps44
    go_wp2_with (go_at_call 53; refine (cnf53 A c l0 true (by rw [HC1.out]; rfl) _ HR0.out).mono ?_; rintro e w' ⟨rfl, hb⟩; have HW := Aside0.mk hb; clear hb)
    go_ret2
    exact ⟨_, rfl, Kd.R_nil _ _ _ _ _, below_weaken HB.out HB.out.size HW.out, KE.out _ HW.out⟩

-- NOT PRINTED: function 45 (impl_changed)

/-! ### impl_MirrorMelody: function 13 -/
def mirG (x : Int) (y : S52) : S52 := ⟨wrap64 (wrap64 (2 * x) - y.f0), y.f1⟩
set_option maxHeartbeats 1600000 in
set_option maxRecDepth 100000 in
theorem mirclo (x : Int) (p0 : Nat) (a b : Int) (w : World) (hp0 : w.heap[p0]? = some (.cells #[.int .i64 x] 2 (0, 0))) :
    Calls Try.prog 46 #[.agg #[.int .i64 a, .int .i64 b], .pointer (some ⟨p0, 0, none⟩)] w fun e w' => e = .returned (.agg #[.int .i64 (mirG x ⟨a, b⟩).f0, .int .i64 (mirG x ⟨a, b⟩).f1]) ∧ Below w.heap.size w w' := by
  have hu := Try.underlying52
  have h0 : w.cell? ⟨p0, 0, none⟩ = some (.int .i64 x) := (blk_cell hp0 0).trans rfl
  have b0 : p0 < w.heap.size := (Array.getElem?_eq_some_iff.1 hp0).1
  clear hp0
  go_enter Try.func46, Try.ntmps46
  go_wp2
  exact bodyPost_ret (v := .agg #[.int .i64 (mirG x ⟨a, b⟩).f0, .int .i64 (mirG x ⟨a, b⟩).f1]) (by simp [results, Try.results46, go_sem, mirG]) rfl ⟨rfl, below_alloc (below_alloc (Below.refl _ _) _) _⟩
set_option maxHeartbeats 1600000 in
set_option maxRecDepth 100000 in
theorem mirchg (x : Int) (p0 : Nat) (A0 : Option Addr) (c0 : Nat) (l0 : List S52) (w : World) (hr0 : Kd.C k52 w A0 l0.length l0) (hlen : l0.length < 8796093022208) (hp0 : w.heap[p0]? = some (.cells #[.int .i64 x] 2 (0, 0))) :
    Calls Try.prog 45 #[.slice A0 l0.length c0, .func (.func 46) #[] #[.pointer (some ⟨p0, 0, none⟩)]] w fun e w' => ∃ v0_ : Value, e = .returned v0_ ∧ Kd.R k52 52 w' w.heap.size (fun _ => True) v0_ (l0.map (mirG x)) ∧ Below w.heap.size w w' := by
  have hu := Try.underlying52
  have HR0 := Aside0.mk hr0
  have HL := Aside0.mk hlen
  have HP0 := Aside0.mk hp0
  have HQ0 := Aside0.mk (Array.getElem?_eq_some_iff.1 hp0).1
  clear hr0 hlen hp0
  go_enter Try.func45, Try.ntmps45
  go_wp2
  go_loopw [5, 10] (fun v i wr => ∃ k : Nat, k ≤ l0.length ∧ i = .int .i64 k ∧ Aside0 (Kd.R k52 52 wr w.heap.size (fun _ => True) v ((l0.take k).map (mirG x))) ∧ Aside0 (Below w.heap.size w wr)) (fun _ i _ => l0.length - (intOf i).toNat)
  case atStart => exact ⟨0, Nat.zero_le _, rfl, ⟨Kd.R_nil _ _ _ _ _⟩, ⟨Below.refl _ _⟩⟩
  case round =>
    obtain ⟨k, hk, rfl, HO, HB⟩ := hrel
    have hn : l0.length ≤ 9223372036854775807 := HR0.out.2.1
    by_cases hlt : k < l0.length
    · obtain ⟨ad, e, hx0, hx1⟩ := at_T52 HR0.out (k : Int) (by omega) (by omega)
      subst e
      have hy0 := (HB.out.cell (World.block_lt_of_cell? w _ hx0)).trans hx0
      have hy1 := (HB.out.cell (World.block_lt_of_cell? w _ hx1)).trans hx1
      rw [Int.toNat_natCast] at hy0 hy1
      clear hx0 hx1
      go_wp2_with (first | (go_at_call 46; refine (mirclo x p0 _ _ _ ?c0).mono ?_; (case c0 => exact ((show Below w.heap.size w _ from by repeat (first | (with_reducible first | exact HB.out | apply below_alloc | apply pw_below_drewN | apply below_drew1) | exact HB.out)).block p0 HQ0.out).trans HP0.out); rintro e w1 ⟨rfl, hb⟩; have n0_ := Aside0.mk (Kd.R_below (by (with_reducible repeat (first | apply Kd.R_alloc | apply Kd.R_drewN | apply Kd.R_drew)); exact HO.out) hb); have n1_ := Aside0.mk (below_step (by repeat (first | (with_reducible first | exact HB.out | apply below_alloc | apply pw_below_drewN | apply below_drew1) | exact HB.out)) hb); clear HO HB hb; have HO := n0_; have HB := n1_; clear n0_ n1_) | ((with_reducible refine gate_builtin (b := .append) (xs := #[.tmp 14, .tmp 18]) rfl ?_); at_builtin; refine Kd.R_append k52 (w0 := w) w.heap.size rfl (.tmp 14) (.tmp 18) 24 52 (.agg #[(.int .i64 0), (.int .i64 0)]) 16 rfl Try.underlying24 info52 rfl (by decide) (by omega) u5 ((l0.take k).map (mirG x)) (mirG x ⟨(rd_T52 l0 k).f0, (rd_T52 l0 k).f1⟩) [.int .i64 (mirG x ⟨(rd_T52 l0 k).f0, (rd_T52 l0 k).f1⟩).f0, .int .i64 (mirG x ⟨(rd_T52 l0 k).f0, (rd_T52 l0 k).f1⟩).f1] (fun _ => True) (fun _ => False) rfl rfl ?aP (fun _ hk => hk.elim) ?aF ?aO ?aB ?aS ?aL ?_; (case aP => exact k52_mkM _ _ _ (mirG x ⟨(rd_T52 l0 k).f0, (rd_T52 l0 k).f1⟩)); (case aB => exact (by repeat (first | (with_reducible first | exact HB.out | apply below_alloc | apply pw_below_drewN | apply below_drew1) | exact HB.out))); (case aF => exact (fun _ _ => trivial)); (case aO => exact HO.out); (case aS => exact (below_size (by repeat (first | (with_reducible first | exact HB.out | apply below_alloc | apply pw_below_drewN | apply below_drew1) | exact HB.out)))); (case aL => have := HL.out; simp; omega); intro v1 w2 ho hb hg hat; have n0_ := Aside0.mk hb; have n1_ := Aside0.mk ho; clear HB HO ho hb hg hat; have HB := n0_; have HO := n1_; clear n0_ n1_))
      go_roundw
      case rel => exact ⟨k + 1, by omega, by go_num, ⟨by have := HO.out; rw [List.take_succ_eq_append_getElem hlt, List.map_append]; rwa [show rd_T52 l0 (k : Int) = l0[k] from by simp [rd_T52, List.getD_eq_getElem?_getD, List.getElem?_eq_getElem hlt]] at this⟩, HB⟩
      case measure => simp [intOf]; omega
    · go_wp2
      go_ret
      exact ⟨_, rfl, by have := HO.out; rw [List.take_of_length_le (by omega)] at this; exact this, HB.out⟩
def impl_MirrorMelody.f (k : Nat) (l0 : List S52) (a1 : Int) : Option (List S52 × Int) := (impl_ValidMelody.f k l0).bind fun t9 => if t9 = true then ((impl_pitchOk.f a1).bind fun t0 => if t0 = true then (if l0.length < 8796093022208 then impl_checkedMelody.f (l0.map (mirG a1)) else none) else some ([], 2)) else some ([], 1)
theorem impl_MirrorMelody.mono : ∀ a0 a1 k, LeO (impl_MirrorMelody.f k a0 a1) (impl_MirrorMelody.f (k + 1) a0 a1) := by
  intro a0 a1 k
  unfold impl_MirrorMelody.f
  exact LeO.bind (impl_ValidMelody.mono _ _) (fun _ => LeO.refl _)
set_option maxHeartbeats 4000000 in
set_option maxRecDepth 100000 in
theorem impl_MirrorMelody.calls (k : Nat) (A0 : Option Addr) (c0 : Nat) (l0 : List S52) (a1 : Int) (r1 : List S52) (r2 : Int) (w : World) (hr0 : Kd.C k52 w A0 l0.length l0) (hc0 : l0.length ≤ c0) (h : impl_MirrorMelody.f k l0 a1 = some (r1, r2)) :
    Calls Try.prog 13 #[.slice A0 l0.length c0, .int .i64 a1] w fun e w' => ∃ v0_ : Value, e = .returned (.tuple #[v0_, .int .i64 r2]) ∧ Kd.R k52 52 w' w.heap.size (fun _ => True) v0_ r1 ∧ Below w.heap.size w w' := by
  have HR0 := Aside0.mk hr0
  have HC0 := Aside0.mk hc0
  have HB := Aside0.mk (Below.refl w.heap.size w)
  have hn0 := heap_alloc_new w (.cells #[.int .i64 a1] 2)
  have HE := Aside0.mk (show (w.alloc (.cells #[.int .i64 a1] 2)).heap[w.heap.size]? = some (.cells #[.int .i64 a1] 2 (0, 0)) from hn0)
  clear hr0 hc0 hn0
  unfold impl_MirrorMelody.f at h
  cases hv : impl_ValidMelody.f k l0 with
  | none => rw [hv] at h; cases h
  | some b =>
    rw [hv, Option.bind_some] at h
    have HV := Aside0.mk hv
    clear hv
    cases b with
    | false =>
      rw [if_neg (by decide)] at h
      obtain ⟨rfl, rfl⟩ := Prod.mk.inj (Option.some.inj h)
      clear h
      have HX := HE
      go_enter Try.func13, Try.ntmps13
      go_wp2_with (first | (go_at_call 42; refine (impl_ValidMelody.calls k A0 c0 l0 false _ ?s1 HC0.out HV.out).mono ?_; (case s1 => repeat (first | exact (Kd.C_below HR0.out HB.out) | (with_reducible refine Kd.C_alloc ?_ _) | (with_reducible refine Kd.C_drewN ?_ _) | (with_reducible refine Kd.C_drew ?_))); rintro e w1 ⟨rfl, hb⟩; have m0_ := Aside0.mk ((hb.block _ (Array.getElem?_eq_some_iff.1 HX.out).1).trans HX.out); have n1_ := Aside0.mk (below_step (by repeat (first | (with_reducible first | exact HB.out | apply below_alloc | apply pw_below_drewN | apply below_drew1) | exact HB.out)) hb); clear HB hb; have HB := n1_; clear n1_; clear HX; have HX := m0_; clear m0_; have hc0_ := (blk_cell HX.out 0).trans (rfl : _ = some (Value.int .i64 a1))))
      go_ret2
      exact ⟨_, rfl, Kd.R_nil _ _ _ _ _, by repeat (first | (with_reducible first | exact HB.out | apply below_alloc | apply pw_below_drewN | apply below_drew1) | exact HB.out)⟩
    | true =>
      rw [if_pos rfl] at h
      cases hv0 : impl_pitchOk.f a1 with
      | none => rw [hv0] at h; cases h
      | some b0 =>
        rw [hv0, Option.bind_some] at h
        cases b0 with
        | false =>
          rw [if_neg (by decide)] at h
          have HV0 := Aside0.mk hv0
          clear hv0
          obtain ⟨rfl, rfl⟩ := Prod.mk.inj (Option.some.inj h)
          clear h
          have HX := HE
          go_enter Try.func13, Try.ntmps13
          go_wp2_with (first | (go_at_call 42; refine (impl_ValidMelody.calls k A0 c0 l0 true _ ?s1 HC0.out HV.out).mono ?_; (case s1 => repeat (first | exact (Kd.C_below HR0.out HB.out) | (with_reducible refine Kd.C_alloc ?_ _) | (with_reducible refine Kd.C_drewN ?_ _) | (with_reducible refine Kd.C_drew ?_))); rintro e w1 ⟨rfl, hb⟩; have m0_ := Aside0.mk ((hb.block _ (Array.getElem?_eq_some_iff.1 HX.out).1).trans HX.out); have n1_ := Aside0.mk (below_step (by repeat (first | (with_reducible first | exact HB.out | apply below_alloc | apply pw_below_drewN | apply below_drew1) | exact HB.out)) hb); clear HB hb; have HB := n1_; clear n1_; clear HX; have HX := m0_; clear m0_; have hc0_ := (blk_cell HX.out 0).trans (rfl : _ = some (Value.int .i64 a1))) | (go_at_call 43; (with_reducible refine (impl_pitchOk.calls a1 false _ HV0.out).mono ?_); rintro e w' ⟨rfl, ⟨nd0, rfl⟩⟩))
          go_ret2
          exact ⟨_, rfl, Kd.R_nil _ _ _ _ _, by repeat (first | (with_reducible first | exact HB.out | apply below_alloc | apply pw_below_drewN | apply below_drew1) | exact HB.out)⟩
        | true =>
          rw [if_pos rfl] at h
          have HV0 := Aside0.mk hv0
          clear hv0
          by_cases hl : l0.length < 8796093022208
          · rw [if_pos hl] at h
            have HL := Aside0.mk hl
            have HK := Aside0.mk h
            clear hl h
            have HX := HE
            go_enter Try.func13, Try.ntmps13
            go_wp2_with (first | (go_at_call 42; refine (impl_ValidMelody.calls k A0 c0 l0 true _ ?s1 HC0.out HV.out).mono ?_; (case s1 => repeat (first | exact (Kd.C_below HR0.out HB.out) | (with_reducible refine Kd.C_alloc ?_ _) | (with_reducible refine Kd.C_drewN ?_ _) | (with_reducible refine Kd.C_drew ?_))); rintro e w1 ⟨rfl, hb⟩; have m0_ := Aside0.mk ((hb.block _ (Array.getElem?_eq_some_iff.1 HX.out).1).trans HX.out); have n1_ := Aside0.mk (below_step (by repeat (first | (with_reducible first | exact HB.out | apply below_alloc | apply pw_below_drewN | apply below_drew1) | exact HB.out)) hb); clear HB hb; have HB := n1_; clear n1_; clear HX; have HX := m0_; clear m0_; have hc0_ := (blk_cell HX.out 0).trans (rfl : _ = some (Value.int .i64 a1))) | (go_at_call 43; (with_reducible refine (impl_pitchOk.calls a1 true _ HV0.out).mono ?_); rintro e w' ⟨rfl, ⟨nd0, rfl⟩⟩) | (go_at_call 45; refine (mirchg a1 w.heap.size A0 c0 l0 _ ?s1 HL.out ?x0).mono ?_; (case s1 => repeat (first | exact (Kd.C_below HR0.out HB.out) | (with_reducible refine Kd.C_alloc ?_ _) | (with_reducible refine Kd.C_drewN ?_ _) | (with_reducible refine Kd.C_drew ?_))); (case x0 => exact HX.out); rintro e w2 ⟨v0, rfl, ho, hb⟩; have n0_ := Aside0.mk (Kd.R_lower ho (below_size (by repeat (first | (with_reducible first | exact HB.out | apply below_alloc | apply pw_below_drewN | apply below_drew1) | exact HB.out)))); have n1_ := Aside0.mk (below_step (by repeat (first | (with_reducible first | exact HB.out | apply below_alloc | apply pw_below_drewN | apply below_drew1) | exact HB.out)) hb); clear HB hb ho; have HB := n1_; have HO := n0_; clear n0_ n1_) | (go_at_call 44; refine (impl_checkedMelody.calls (fun _ => True) v0 _ r1 r2 w _ HB.out HO.out HK.out).mono ?_; rintro e w3 ⟨v1, rfl, ho, hb, _⟩; have n0_ := Aside0.mk (Kd.R_mono ho (fun _ _ => trivial : ∀ k_, _ → True)); have n1_ := Aside0.mk hb; clear HB HO hb ho; have HB := n1_; have HO := n0_; clear n0_ n1_))
            go_ret2
            exact ⟨_, rfl, HO.out, HB.out⟩
          · rw [if_neg hl] at h
            cases h

end Go.Proofs.Ytnpifkjbnkfiaaa.M
