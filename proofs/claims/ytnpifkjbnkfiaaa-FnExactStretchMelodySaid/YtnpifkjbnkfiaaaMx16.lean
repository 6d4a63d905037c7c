/- What functions of the given program compute, as plain Lean functions, and that the code comes to just that; by a program of this session over the kit's print. No condition. -/
import Derived.Test.YtnpifkjbnkfiaaaMx0
import Derived.Test.YtnpifkjbnkfiaaaMx4
import Derived.Test.YtnpifkjbnkfiaaaMx5
import Derived.Test.YtnpifkjbnkfiaaaMx6
namespace Go.Proofs.Ytnpifkjbnkfiaaa.M
open Go.RowKit Go.Proofs.YtnpifkjbnkfiaaaW.PrintWords Go.Proofs.YtnpifkjbnkfiaaaW.PrintLast Go.Proofs.YtnpifkjbnkfiaaaW.PrintMore
attribute [local go_sem] max2_int min2_int max_two min_two max_three min_three max_four min_four   -- for this text's walks alone
set_option linter.unusedVariables false
set_option linter.unusedSimpArgs false

/-! ### impl_StretchMelody: function 20 -/
def strG (n d : Int) (y : S52) : S52 := ⟨y.f0, wrap64 (Int.tdiv (wrap64 (y.f1 * n)) d)⟩
def strZ (n d : Int) (y : S52) : Bool := Int.tmod (wrap64 (y.f1 * n)) d == 0
theorem strlen {a : Int} (h : impl_lengthOk.f a = some true) : 1 ≤ a := by
  unfold impl_lengthOk.f impl_within.f at h
  by_cases c : a ≥ 1
  · exact c
  · rw [if_neg c] at h
    cases h
set_option maxHeartbeats 1600000 in
set_option maxRecDepth 100000 in
theorem strzlo (n d : Int) (p0 p1 : Nat) (a b : Int) (w : World) (hd : 1 ≤ d) (hp0 : w.heap[p0]? = some (.cells #[.int .i64 n] 2 (0, 0))) (hp1 : w.heap[p1]? = some (.cells #[.int .i64 d] 2 (0, 0))) (q : Bool) (hq : (!strZ n d ⟨a, b⟩) = q) :
    Calls Try.prog 54 #[.agg #[.int .i64 a, .int .i64 b], .pointer (some ⟨p0, 0, none⟩), .pointer (some ⟨p1, 0, none⟩)] w fun e w' => e = .returned (.bool q) ∧ Below w.heap.size w w' := by
  have hu := Try.underlying52
  have h0 : w.cell? ⟨p0, 0, none⟩ = some (.int .i64 n) := (blk_cell hp0 0).trans rfl
  have b0 : p0 < w.heap.size := (Array.getElem?_eq_some_iff.1 hp0).1
  have h1 : w.cell? ⟨p1, 0, none⟩ = some (.int .i64 d) := (blk_cell hp1 0).trans rfl
  have b1 : p1 < w.heap.size := (Array.getElem?_eq_some_iff.1 hp1).1
  have hdd : ¬ d = 0 := by omega
  have HQ := Aside0.mk hq
  clear hp0 hp1 hq
  go_enter Try.func54, Try.ntmps54
  go_wp2
  go_ret
  exact ⟨by rw [← HQ.out]; simp [strZ, bne], below_alloc (Below.refl _ _) _⟩
set_option maxHeartbeats 1600000 in
set_option maxRecDepth 100000 in
theorem strclo (n d : Int) (p0 p1 : Nat) (a b : Int) (w : World) (hd : 1 ≤ d) (hp0 : w.heap[p0]? = some (.cells #[.int .i64 n] 2 (0, 0))) (hp1 : w.heap[p1]? = some (.cells #[.int .i64 d] 2 (0, 0))) :
    Calls Try.prog 55 #[.agg #[.int .i64 a, .int .i64 b], .pointer (some ⟨p0, 0, none⟩), .pointer (some ⟨p1, 0, none⟩)] w fun e w' => e = .returned (.agg #[.int .i64 (strG n d ⟨a, b⟩).f0, .int .i64 (strG n d ⟨a, b⟩).f1]) ∧ Below w.heap.size w w' := by
  have hu := Try.underlying52
  have h0 : w.cell? ⟨p0, 0, none⟩ = some (.int .i64 n) := (blk_cell hp0 0).trans rfl
  have b0 : p0 < w.heap.size := (Array.getElem?_eq_some_iff.1 hp0).1
  have h1 : w.cell? ⟨p1, 0, none⟩ = some (.int .i64 d) := (blk_cell hp1 0).trans rfl
  have b1 : p1 < w.heap.size := (Array.getElem?_eq_some_iff.1 hp1).1
  clear hp0 hp1
  go_enter Try.func55, Try.ntmps55
  have hdd : ¬ d = 0 := by omega
  go_wp2
  go_region
  go_wp2
  exact bodyPost_ret (v := .agg #[.int .i64 (strG n d ⟨a, b⟩).f0, .int .i64 (strG n d ⟨a, b⟩).f1]) (by simp [results, Try.results55, go_sem, strG]) rfl ⟨rfl, below_drew (below_alloc (below_alloc (Below.refl _ _) _) _)⟩
set_option maxHeartbeats 1600000 in
set_option maxRecDepth 100000 in
theorem strchg (n d : Int) (p0 p1 : Nat) (A0 : Option Addr) (c0 : Nat) (l0 : List S52) (w : World) (hr0 : Kd.C k52 w A0 l0.length l0) (hlen : l0.length < 8796093022208) (hd : 1 ≤ d) (hp0 : w.heap[p0]? = some (.cells #[.int .i64 n] 2 (0, 0))) (hp1 : w.heap[p1]? = some (.cells #[.int .i64 d] 2 (0, 0))) :
    Calls Try.prog 45 #[.slice A0 l0.length c0, .func (.func 55) #[] #[.pointer (some ⟨p0, 0, none⟩), .pointer (some ⟨p1, 0, none⟩)]] w fun e w' => ∃ v0_ : Value, e = .returned v0_ ∧ Kd.R k52 52 w' w.heap.size (fun _ => True) v0_ (l0.map (strG n d)) ∧ Below w.heap.size w w' := by
  have hu := Try.underlying52
  have HR0 := Aside0.mk hr0
  have HL := Aside0.mk hlen
  have HD := Aside0.mk hd
  have HP0 := Aside0.mk hp0
  have HQ0 := Aside0.mk (Array.getElem?_eq_some_iff.1 hp0).1
  have HP1 := Aside0.mk hp1
  have HQ1 := Aside0.mk (Array.getElem?_eq_some_iff.1 hp1).1
  clear hr0 hlen hd hp0 hp1
  go_enter Try.func45, Try.ntmps45
  go_wp2
  go_loopw [5, 10] (fun v i wr => ∃ k : Nat, k ≤ l0.length ∧ i = .int .i64 k ∧ Aside0 (Kd.R k52 52 wr w.heap.size (fun _ => True) v ((l0.take k).map (strG n d))) ∧ Aside0 (Below w.heap.size w wr)) (fun _ i _ => l0.length - (intOf i).toNat)
  case atStart => exact ⟨0, Nat.zero_le _, rfl, ⟨Kd.R_nil _ _ _ _ _⟩, ⟨Below.refl _ _⟩⟩
  case round =>
    obtain ⟨k, hk, rfl, HO, HB⟩ := hrel
    have hn : l0.length ≤ 9223372036854775807 := HR0.out.2.1
    by_cases hlt : k < l0.length
    · obtain ⟨ad, e, hx0, hx1⟩ := at_T52 HR0.out (k : Int) (by omega) (by omega)
      subst e
      have hy0 := (HB.out.cell (World.block_lt_of_cell? w _ hx0)).trans hx0
      have hy1 := (HB.out.cell (World.block_lt_of_cell? w _ hx1)).trans hx1
      rw [Int.toNat_natCast] at hy0 hy1
      clear hx0 hx1
      go_wp2_with (first | (go_at_call 55; refine (strclo n d p0 p1 _ _ _ HD.out ?c0 ?c1).mono ?_; (case c0 => exact ((show Below w.heap.size w _ from by repeat (first | (with_reducible first | exact HB.out | apply below_alloc | apply pw_below_drewN | apply below_drew1) | exact HB.out)).block p0 HQ0.out).trans HP0.out); (case c1 => exact ((show Below w.heap.size w _ from by repeat (first | (with_reducible first | exact HB.out | apply below_alloc | apply pw_below_drewN | apply below_drew1) | exact HB.out)).block p1 HQ1.out).trans HP1.out); rintro e w1 ⟨rfl, hb⟩; have n0_ := Aside0.mk (Kd.R_below (by (with_reducible repeat (first | apply Kd.R_alloc | apply Kd.R_drewN | apply Kd.R_drew)); exact HO.out) hb); have n1_ := Aside0.mk (below_step (by repeat (first | (with_reducible first | exact HB.out | apply below_alloc | apply pw_below_drewN | apply below_drew1) | exact HB.out)) hb); clear HO HB hb; have HO := n0_; have HB := n1_; clear n0_ n1_) | ((with_reducible refine gate_builtin (b := .append) (xs := #[.tmp 14, .tmp 18]) rfl ?_); at_builtin; refine Kd.R_append k52 (w0 := w) w.heap.size rfl (.tmp 14) (.tmp 18) 24 52 (.agg #[(.int .i64 0), (.int .i64 0)]) 16 rfl Try.underlying24 info52 rfl (by decide) (by omega) u5 ((l0.take k).map (strG n d)) (strG n d ⟨(rd_T52 l0 k).f0, (rd_T52 l0 k).f1⟩) [.int .i64 (strG n d ⟨(rd_T52 l0 k).f0, (rd_T52 l0 k).f1⟩).f0, .int .i64 (strG n d ⟨(rd_T52 l0 k).f0, (rd_T52 l0 k).f1⟩).f1] (fun _ => True) (fun _ => False) rfl rfl ?aP (fun _ hk => hk.elim) ?aF ?aO ?aB ?aS ?aL ?_; (case aP => exact k52_mkM _ _ _ (strG n d ⟨(rd_T52 l0 k).f0, (rd_T52 l0 k).f1⟩)); (case aB => exact (by repeat (first | (with_reducible first | exact HB.out | apply below_alloc | apply pw_below_drewN | apply below_drew1) | exact HB.out))); (case aF => exact (fun _ _ => trivial)); (case aO => exact HO.out); (case aS => exact (below_size (by repeat (first | (with_reducible first | exact HB.out | apply below_alloc | apply pw_below_drewN | apply below_drew1) | exact HB.out)))); (case aL => have := HL.out; simp; omega); intro v1 w2 ho hb hg hat; have n0_ := Aside0.mk hb; have n1_ := Aside0.mk ho; clear HB HO ho hb hg hat; have HB := n0_; have HO := n1_; clear n0_ n1_))
      go_roundw
      case rel => exact ⟨k + 1, by omega, by go_num, ⟨by have := HO.out; rw [List.take_succ_eq_append_getElem hlt, List.map_append]; rwa [show rd_T52 l0 (k : Int) = l0[k] from by simp [rd_T52, List.getD_eq_getElem?_getD, List.getElem?_eq_getElem hlt]] at this⟩, HB⟩
      case measure => simp [intOf]; omega
    · go_wp2
      go_ret
      exact ⟨_, rfl, by have := HO.out; rw [List.take_of_length_le (by omega)] at this; exact this, HB.out⟩
theorem strret {a b : Bool} (h : a = b) : Ending.returned (.bool a) = .returned (.bool b) := by rw [h]
theorem strall_take {α : Type} (l : List α) (p : α → Bool) (z : α) (k : Nat) (h : k < l.length) (h1 : (l.take k).all p = true) (h2 : p (l.getD k z) = true) : (l.take (k + 1)).all p = true := by
  rw [List.take_succ_eq_append_getElem h, List.all_append, h1]
  simp only [List.all_cons, List.all_nil, Bool.and_true, Bool.true_and]
  rwa [List.getD_eq_getElem?_getD, List.getElem?_eq_getElem h] at h2
theorem strall_no {α : Type} (l : List α) (p : α → Bool) (z : α) (k : Nat) (h : k < l.length) (h2 : p (l.getD k z) = false) : l.all p = false := by
  rw [List.all_eq_false]
  rw [List.getD_eq_getElem?_getD, List.getElem?_eq_getElem h] at h2
  exact ⟨_, List.getElem_mem h, by simpa using h2⟩
def strFound (l : List S52) (p : S52 → Bool) (w : World) (e : Ending) (w' : World) : Prop := (∃ n : Int, e = .returned (.int .i64 n) ∧ (decide (n ≥ 0) = !l.all p)) ∧ Below w.heap.size w w'
set_option maxHeartbeats 1600000 in
set_option maxRecDepth 100000 in
theorem strixf (n d : Int) (p0 p1 : Nat) (A0 : Option Addr) (c0 : Nat) (l0 : List S52) (w : World) (hr0 : Kd.C k52 w A0 l0.length l0) (hd : 1 ≤ d) (hp0 : w.heap[p0]? = some (.cells #[.int .i64 n] 2 (0, 0))) (hp1 : w.heap[p1]? = some (.cells #[.int .i64 d] 2 (0, 0))) :
    Calls Try.prog 74 #[.slice A0 l0.length c0, .func (.func 54) #[] #[.pointer (some ⟨p0, 0, none⟩), .pointer (some ⟨p1, 0, none⟩)]] w (strFound l0 (strZ n d) w) := by
  have hu := Try.underlying52
  have HR0 := Aside0.mk hr0
  have HD := Aside0.mk hd
  have HP0 := Aside0.mk hp0
  have HQ0 := Aside0.mk (Array.getElem?_eq_some_iff.1 hp0).1
  have HP1 := Aside0.mk hp1
  have HQ1 := Aside0.mk (Array.getElem?_eq_some_iff.1 hp1).1
  clear hr0 hd hp0 hp1
  go_enter Try.func74, Try.ntmps74
  go_wp2
  go_loopw [8] (fun i wr => ∃ k : Nat, k ≤ l0.length ∧ i = .int .i64 k ∧ Aside0 ((l0.take k).all (strZ n d) = true) ∧ Aside0 (Below w.heap.size w wr)) (fun i _ => l0.length - (intOf i).toNat)
  case atStart => exact ⟨0, Nat.zero_le _, rfl, ⟨rfl⟩, ⟨Below.refl _ _⟩⟩
  case round =>
    obtain ⟨k, hk, rfl, HALL, HB⟩ := hrel
    have hn : l0.length ≤ 9223372036854775807 := HR0.out.2.1
    by_cases hlt : k < l0.length
    · obtain ⟨ad, e, hx0, hx1⟩ := at_T52 HR0.out (k : Int) (by omega) (by omega)
      subst e
      have hy0 := (HB.out.cell (World.block_lt_of_cell? w _ hx0)).trans hx0
      have hy1 := (HB.out.cell (World.block_lt_of_cell? w _ hx1)).trans hx1
      rw [Int.toNat_natCast] at hy0 hy1
      clear hx0 hx1
      cases hp : (strZ n d) (rd_T52 l0 k)
      · have HP := Aside0.mk hp
        clear hp
        go_wp2_with (go_at_call 54; refine (strzlo n d p0 p1 _ _ _ HD.out ?c0 ?c1 (true) ?cq).mono ?_; (case cq => rw [show strZ n d ⟨(rd_T52 l0 k).f0, (rd_T52 l0 k).f1⟩ = false from HP.out]; rfl); (case c0 => exact ((show Below w.heap.size w _ from by repeat (first | (with_reducible first | exact HB.out | apply below_alloc | apply pw_below_drewN | apply below_drew1) | exact HB.out)).block p0 HQ0.out).trans HP0.out); (case c1 => exact ((show Below w.heap.size w _ from by repeat (first | (with_reducible first | exact HB.out | apply below_alloc | apply pw_below_drewN | apply below_drew1) | exact HB.out)).block p1 HQ1.out).trans HP1.out); rintro e w' ⟨rfl, hb⟩; have HB2 := Aside0.mk hb; have n1_ := Aside0.mk (below_step (by repeat (first | (with_reducible first | exact HB.out | apply below_alloc | apply pw_below_drewN | apply below_drew1) | exact HB.out)) hb); clear hb HB; have HB := n1_; clear n1_)
        go_ret
        exact ⟨⟨k, rfl, by rw [strall_no l0 (strZ n d) z52 k hlt HP.out]; exact decide_eq_true (Int.natCast_nonneg k)⟩, HB.out⟩
      · have HP := Aside0.mk hp
        clear hp
        go_wp2_with (go_at_call 54; refine (strzlo n d p0 p1 _ _ _ HD.out ?c0 ?c1 (false) ?cq).mono ?_; (case cq => rw [show strZ n d ⟨(rd_T52 l0 k).f0, (rd_T52 l0 k).f1⟩ = true from HP.out]; rfl); (case c0 => exact ((show Below w.heap.size w _ from by repeat (first | (with_reducible first | exact HB.out | apply below_alloc | apply pw_below_drewN | apply below_drew1) | exact HB.out)).block p0 HQ0.out).trans HP0.out); (case c1 => exact ((show Below w.heap.size w _ from by repeat (first | (with_reducible first | exact HB.out | apply below_alloc | apply pw_below_drewN | apply below_drew1) | exact HB.out)).block p1 HQ1.out).trans HP1.out); rintro e w' ⟨rfl, hb⟩; have HB2 := Aside0.mk hb; have n1_ := Aside0.mk (below_step (by repeat (first | (with_reducible first | exact HB.out | apply below_alloc | apply pw_below_drewN | apply below_drew1) | exact HB.out)) hb); clear hb HB; have HB := n1_; clear n1_)
        go_roundw
        case rel => exact ⟨k + 1, by omega, by go_num, ⟨strall_take l0 _ z52 k hlt HALL.out HP.out⟩, HB⟩
        case measure => simp [intOf]; omega
    · go_wp2
      go_ret
      exact ⟨⟨-1, rfl, by
        have := HALL.out
        rw [List.take_of_length_le (by omega)] at this
        rw [this]
        rfl⟩, HB.out⟩
set_option maxHeartbeats 1600000 in
set_option maxRecDepth 100000 in
theorem strcnf (n d : Int) (p0 p1 : Nat) (A0 : Option Addr) (c0 : Nat) (l0 : List S52) (q : Bool) (hq : (!l0.all (strZ n d)) = q) (w : World) (hr0 : Kd.C k52 w A0 l0.length l0) (hd : 1 ≤ d) (hp0 : w.heap[p0]? = some (.cells #[.int .i64 n] 2 (0, 0))) (hp1 : w.heap[p1]? = some (.cells #[.int .i64 d] 2 (0, 0))) :
    Calls Try.prog 53 #[.slice A0 l0.length c0, .func (.func 54) #[] #[.pointer (some ⟨p0, 0, none⟩), .pointer (some ⟨p1, 0, none⟩)]] w fun e w' => e = .returned (.bool q) ∧ Below w.heap.size w w' := by
  have hq1 := Aside0.mk hq
  clear hq
  have HR0 := Aside0.mk hr0
  have HD := Aside0.mk hd
  have HP0 := Aside0.mk hp0
  have HQ0 := Aside0.mk (Array.getElem?_eq_some_iff.1 hp0).1
  have HP1 := Aside0.mk hp1
  have HQ1 := Aside0.mk (Array.getElem?_eq_some_iff.1 hp1).1
  clear hr0 hd hp0 hp1
  go_enter Try.func53, Try.ntmps53
  go_wp2_with (go_at_call 74; refine (strixf n d p0 p1 A0 c0 l0 _ HR0.out HD.out HP0.out HP1.out).mono ?_; rintro e w' ⟨⟨n, rfl, hn⟩, hb⟩; have HN := Aside0.mk hn; have HB := Aside0.mk hb; clear hn hb)
  all_goals
    go_ret
    refine ⟨strret ?_, HB.out⟩
    rw [← hq1.out, ← HN.out]
    try first | rfl | simp | (simp; omega)
def impl_StretchMelody.f (k : Nat) (l0 : List S52) (a1 : Int) (a2 : Int) : Option (List S52 × Int) := (impl_ValidMelody.f k l0).bind fun t9 => if t9 = true then ((impl_lengthOk.f a1).bind fun t0 => if t0 = true then ((impl_lengthOk.f a2).bind fun t1 => if t1 = true then (if l0.all (strZ a1 a2) = true then (if l0.length < 8796093022208 then impl_checkedMelody.f (l0.map (strG a1 a2)) else none) else some ([], 6)) else some ([], 2)) else some ([], 2)) else some ([], 1)
theorem impl_StretchMelody.mono : ∀ a0 a1 a2 k, LeO (impl_StretchMelody.f k a0 a1 a2) (impl_StretchMelody.f (k + 1) a0 a1 a2) := by
  intro a0 a1 a2 k
  unfold impl_StretchMelody.f
  exact LeO.bind (impl_ValidMelody.mono _ _) (fun _ => LeO.refl _)
set_option maxHeartbeats 4000000 in
set_option maxRecDepth 100000 in
theorem impl_StretchMelody.calls (k : Nat) (A0 : Option Addr) (c0 : Nat) (l0 : List S52) (a1 : Int) (a2 : Int) (r1 : List S52) (r2 : Int) (w : World) (hr0 : Kd.C k52 w A0 l0.length l0) (hc0 : l0.length ≤ c0) (h : impl_StretchMelody.f k l0 a1 a2 = some (r1, r2)) :
    Calls Try.prog 20 #[.slice A0 l0.length c0, .int .i64 a1, .int .i64 a2] w fun e w' => ∃ v0_ : Value, e = .returned (.tuple #[v0_, .int .i64 r2]) ∧ Kd.R k52 52 w' w.heap.size (fun _ => True) v0_ r1 ∧ Below w.heap.size w w' := by
  have HR0 := Aside0.mk hr0
  have HC0 := Aside0.mk hc0
  have HB := Aside0.mk (Below.refl w.heap.size w)
  have hn0 := heap_alloc_new w (.cells #[.int .i64 a1] 2)
  have hn1 := heap_alloc_new (w.alloc (.cells #[.int .i64 a1] 2)) (.cells #[.int .i64 a2] 2)
  have HE := Aside0.mk (show ((w.alloc (.cells #[.int .i64 a1] 2)).alloc (.cells #[.int .i64 a2] 2)).heap[w.heap.size]? = some (.cells #[.int .i64 a1] 2 (0, 0)) from blk_alloc hn0 _)
  have HE1 := Aside0.mk (show ((w.alloc (.cells #[.int .i64 a1] 2)).alloc (.cells #[.int .i64 a2] 2)).heap[w.heap.size + 1]? = some (.cells #[.int .i64 a2] 2 (0, 0)) from by simpa using hn1)
  clear hr0 hc0 hn0 hn1
  unfold impl_StretchMelody.f at h
  cases hv : impl_ValidMelody.f k l0 with
  | none => rw [hv] at h; cases h
  | some b =>
    rw [hv, Option.bind_some] at h
    have HV := Aside0.mk hv
    clear hv
    cases b with
    | false =>
      rw [if_neg (by decide)] at h
      obtain ⟨rfl, rfl⟩ := Prod.mk.inj (Option.some.inj h)
      clear h
      have HX := HE; have HY := HE1
      go_enter Try.func20, Try.ntmps20
      go_wp2_with (first | (go_at_call 42; refine (impl_ValidMelody.calls k A0 c0 l0 false _ ?s1 HC0.out HV.out).mono ?_; (case s1 => repeat (first | exact (Kd.C_below HR0.out HB.out) | (with_reducible refine Kd.C_alloc ?_ _) | (with_reducible refine Kd.C_drewN ?_ _) | (with_reducible refine Kd.C_drew ?_))); rintro e w1 ⟨rfl, hb⟩; have m0_ := Aside0.mk ((hb.block _ (Array.getElem?_eq_some_iff.1 HX.out).1).trans HX.out); have m1_ := Aside0.mk ((hb.block _ (Array.getElem?_eq_some_iff.1 HY.out).1).trans HY.out); have n1_ := Aside0.mk (below_step (by repeat (first | (with_reducible first | exact HB.out | apply below_alloc | apply pw_below_drewN | apply below_drew1) | exact HB.out)) hb); clear HB hb; have HB := n1_; clear n1_; clear HX HY; have HX := m0_; have HY := m1_; clear m0_ m1_; have hc0_ := (blk_cell HX.out 0).trans (rfl : _ = some (Value.int .i64 a1)); have hc1_ := (blk_cell HY.out 0).trans (rfl : _ = some (Value.int .i64 a2))))
      go_ret2
      exact ⟨_, rfl, Kd.R_nil _ _ _ _ _, by repeat (first | (with_reducible first | exact HB.out | apply below_alloc | apply pw_below_drewN | apply below_drew1) | exact HB.out)⟩
    | true =>
      rw [if_pos rfl] at h
      cases hv0 : impl_lengthOk.f a1 with
      | none => rw [hv0] at h; cases h
      | some b0 =>
        rw [hv0, Option.bind_some] at h
        cases b0 with
        | false =>
          rw [if_neg (by decide)] at h
          have HV0 := Aside0.mk hv0
          clear hv0
          obtain ⟨rfl, rfl⟩ := Prod.mk.inj (Option.some.inj h)
          clear h
          have HX := HE; have HY := HE1
          go_enter Try.func20, Try.ntmps20
          go_wp2_with (first | (go_at_call 42; refine (impl_ValidMelody.calls k A0 c0 l0 true _ ?s1 HC0.out HV.out).mono ?_; (case s1 => repeat (first | exact (Kd.C_below HR0.out HB.out) | (with_reducible refine Kd.C_alloc ?_ _) | (with_reducible refine Kd.C_drewN ?_ _) | (with_reducible refine Kd.C_drew ?_))); rintro e w1 ⟨rfl, hb⟩; have m0_ := Aside0.mk ((hb.block _ (Array.getElem?_eq_some_iff.1 HX.out).1).trans HX.out); have m1_ := Aside0.mk ((hb.block _ (Array.getElem?_eq_some_iff.1 HY.out).1).trans HY.out); have n1_ := Aside0.mk (below_step (by repeat (first | (with_reducible first | exact HB.out | apply below_alloc | apply pw_below_drewN | apply below_drew1) | exact HB.out)) hb); clear HB hb; have HB := n1_; clear n1_; clear HX HY; have HX := m0_; have HY := m1_; clear m0_ m1_; have hc0_ := (blk_cell HX.out 0).trans (rfl : _ = some (Value.int .i64 a1)); have hc1_ := (blk_cell HY.out 0).trans (rfl : _ = some (Value.int .i64 a2))) | (go_at_call 52; (with_reducible refine (impl_lengthOk.calls a1 false _ HV0.out).mono ?_); rintro e w' ⟨rfl, ⟨nd0, rfl⟩⟩))
          go_ret2
          exact ⟨_, rfl, Kd.R_nil _ _ _ _ _, by repeat (first | (with_reducible first | exact HB.out | apply below_alloc | apply pw_below_drewN | apply below_drew1) | exact HB.out)⟩
        | true =>
          rw [if_pos rfl] at h
          have HV0 := Aside0.mk hv0
          clear hv0
          cases hv1 : impl_lengthOk.f a2 with
          | none => rw [hv1] at h; cases h
          | some b1 =>
            rw [hv1, Option.bind_some] at h
            cases b1 with
            | false =>
              rw [if_neg (by decide)] at h
              have HV1 := Aside0.mk hv1
              clear hv1
              obtain ⟨rfl, rfl⟩ := Prod.mk.inj (Option.some.inj h)
              clear h
              have HX := HE; have HY := HE1
              go_enter Try.func20, Try.ntmps20
              go_wp2_with (first | (go_at_call 42; refine (impl_ValidMelody.calls k A0 c0 l0 true _ ?s1 HC0.out HV.out).mono ?_; (case s1 => repeat (first | exact (Kd.C_below HR0.out HB.out) | (with_reducible refine Kd.C_alloc ?_ _) | (with_reducible refine Kd.C_drewN ?_ _) | (with_reducible refine Kd.C_drew ?_))); rintro e w1 ⟨rfl, hb⟩; have m0_ := Aside0.mk ((hb.block _ (Array.getElem?_eq_some_iff.1 HX.out).1).trans HX.out); have m1_ := Aside0.mk ((hb.block _ (Array.getElem?_eq_some_iff.1 HY.out).1).trans HY.out); have n1_ := Aside0.mk (below_step (by repeat (first | (with_reducible first | exact HB.out | apply below_alloc | apply pw_below_drewN | apply below_drew1) | exact HB.out)) hb); clear HB hb; have HB := n1_; clear n1_; clear HX HY; have HX := m0_; have HY := m1_; clear m0_ m1_; have hc0_ := (blk_cell HX.out 0).trans (rfl : _ = some (Value.int .i64 a1)); have hc1_ := (blk_cell HY.out 0).trans (rfl : _ = some (Value.int .i64 a2))) | (go_at_call 52; (with_reducible refine (impl_lengthOk.calls a1 true _ HV0.out).mono ?_); rintro e w' ⟨rfl, ⟨nd0, rfl⟩⟩) | (go_at_call 52; (with_reducible refine (impl_lengthOk.calls a2 false _ HV1.out).mono ?_); rintro e w' ⟨rfl, ⟨nd1, rfl⟩⟩))
              go_ret2
              exact ⟨_, rfl, Kd.R_nil _ _ _ _ _, by repeat (first | (with_reducible first | exact HB.out | apply below_alloc | apply pw_below_drewN | apply below_drew1) | exact HB.out)⟩
            | true =>
              rw [if_pos rfl] at h
              have HV1 := Aside0.mk hv1
              clear hv1
              have HD := Aside0.mk (strlen HV1.out)
              cases hz : l0.all (strZ a1 a2) with
              | false =>
                rw [hz, if_neg (by decide)] at h
                have HZ := Aside0.mk (show (!l0.all (strZ a1 a2)) = true by rw [hz]; rfl)
                clear hz
                obtain ⟨rfl, rfl⟩ := Prod.mk.inj (Option.some.inj h)
                clear h
                have HX := HE; have HY := HE1
                go_enter Try.func20, Try.ntmps20
                go_wp2_with (first | (go_at_call 42; refine (impl_ValidMelody.calls k A0 c0 l0 true _ ?s1 HC0.out HV.out).mono ?_; (case s1 => repeat (first | exact (Kd.C_below HR0.out HB.out) | (with_reducible refine Kd.C_alloc ?_ _) | (with_reducible refine Kd.C_drewN ?_ _) | (with_reducible refine Kd.C_drew ?_))); rintro e w1 ⟨rfl, hb⟩; have m0_ := Aside0.mk ((hb.block _ (Array.getElem?_eq_some_iff.1 HX.out).1).trans HX.out); have m1_ := Aside0.mk ((hb.block _ (Array.getElem?_eq_some_iff.1 HY.out).1).trans HY.out); have n1_ := Aside0.mk (below_step (by repeat (first | (with_reducible first | exact HB.out | apply below_alloc | apply pw_below_drewN | apply below_drew1) | exact HB.out)) hb); clear HB hb; have HB := n1_; clear n1_; clear HX HY; have HX := m0_; have HY := m1_; clear m0_ m1_; have hc0_ := (blk_cell HX.out 0).trans (rfl : _ = some (Value.int .i64 a1)); have hc1_ := (blk_cell HY.out 0).trans (rfl : _ = some (Value.int .i64 a2))) | (go_at_call 52; (with_reducible refine (impl_lengthOk.calls a1 true _ HV0.out).mono ?_); rintro e w' ⟨rfl, ⟨nd0, rfl⟩⟩) | (go_at_call 52; (with_reducible refine (impl_lengthOk.calls a2 true _ HV1.out).mono ?_); rintro e w' ⟨rfl, ⟨nd1, rfl⟩⟩) | (go_at_call 53; refine (strcnf a1 a2 w.heap.size (w.heap.size + 1) A0 c0 l0 true HZ.out _ ?s1 HD.out ?x0 ?x1).mono ?_; (case s1 => repeat (first | exact (Kd.C_below HR0.out HB.out) | (with_reducible refine Kd.C_alloc ?_ _) | (with_reducible refine Kd.C_drewN ?_ _) | (with_reducible refine Kd.C_drew ?_))); (case x0 => exact HX.out); (case x1 => exact HY.out); rintro e w4 ⟨rfl, hb⟩; have m0_ := Aside0.mk ((hb.block _ (Array.getElem?_eq_some_iff.1 HX.out).1).trans HX.out); have m1_ := Aside0.mk ((hb.block _ (Array.getElem?_eq_some_iff.1 HY.out).1).trans HY.out); have n1_ := Aside0.mk (below_step (by repeat (first | (with_reducible first | exact HB.out | apply below_alloc | apply pw_below_drewN | apply below_drew1) | exact HB.out)) hb); clear HB hb; have HB := n1_; clear n1_; clear HX HY; have HX := m0_; have HY := m1_; clear m0_ m1_; have hc0_ := (blk_cell HX.out 0).trans (rfl : _ = some (Value.int .i64 a1)); have hc1_ := (blk_cell HY.out 0).trans (rfl : _ = some (Value.int .i64 a2))))
                go_ret2
                exact ⟨_, rfl, Kd.R_nil _ _ _ _ _, by repeat (first | (with_reducible first | exact HB.out | apply below_alloc | apply pw_below_drewN | apply below_drew1) | exact HB.out)⟩
              | true =>
                rw [hz, if_pos rfl] at h
                have HZ := Aside0.mk (show (!l0.all (strZ a1 a2)) = false by rw [hz]; rfl)
                clear hz
                by_cases hl : l0.length < 8796093022208
                · rw [if_pos hl] at h
                  have HL := Aside0.mk hl
                  have HK := Aside0.mk h
                  clear hl h
                  have HX := HE; have HY := HE1
                  go_enter Try.func20, Try.ntmps20
                  go_wp2_with (first | (go_at_call 42; refine (impl_ValidMelody.calls k A0 c0 l0 true _ ?s1 HC0.out HV.out).mono ?_; (case s1 => repeat (first | exact (Kd.C_below HR0.out HB.out) | (with_reducible refine Kd.C_alloc ?_ _) | (with_reducible refine Kd.C_drewN ?_ _) | (with_reducible refine Kd.C_drew ?_))); rintro e w1 ⟨rfl, hb⟩; have m0_ := Aside0.mk ((hb.block _ (Array.getElem?_eq_some_iff.1 HX.out).1).trans HX.out); have m1_ := Aside0.mk ((hb.block _ (Array.getElem?_eq_some_iff.1 HY.out).1).trans HY.out); have n1_ := Aside0.mk (below_step (by repeat (first | (with_reducible first | exact HB.out | apply below_alloc | apply pw_below_drewN | apply below_drew1) | exact HB.out)) hb); clear HB hb; have HB := n1_; clear n1_; clear HX HY; have HX := m0_; have HY := m1_; clear m0_ m1_; have hc0_ := (blk_cell HX.out 0).trans (rfl : _ = some (Value.int .i64 a1)); have hc1_ := (blk_cell HY.out 0).trans (rfl : _ = some (Value.int .i64 a2))) | (go_at_call 52; (with_reducible refine (impl_lengthOk.calls a1 true _ HV0.out).mono ?_); rintro e w' ⟨rfl, ⟨nd0, rfl⟩⟩) | (go_at_call 52; (with_reducible refine (impl_lengthOk.calls a2 true _ HV1.out).mono ?_); rintro e w' ⟨rfl, ⟨nd1, rfl⟩⟩) | (go_at_call 53; refine (strcnf a1 a2 w.heap.size (w.heap.size + 1) A0 c0 l0 false HZ.out _ ?s1 HD.out ?x0 ?x1).mono ?_; (case s1 => repeat (first | exact (Kd.C_below HR0.out HB.out) | (with_reducible refine Kd.C_alloc ?_ _) | (with_reducible refine Kd.C_drewN ?_ _) | (with_reducible refine Kd.C_drew ?_))); (case x0 => exact HX.out); (case x1 => exact HY.out); rintro e w4 ⟨rfl, hb⟩; have m0_ := Aside0.mk ((hb.block _ (Array.getElem?_eq_some_iff.1 HX.out).1).trans HX.out); have m1_ := Aside0.mk ((hb.block _ (Array.getElem?_eq_some_iff.1 HY.out).1).trans HY.out); have n1_ := Aside0.mk (below_step (by repeat (first | (with_reducible first | exact HB.out | apply below_alloc | apply pw_below_drewN | apply below_drew1) | exact HB.out)) hb); clear HB hb; have HB := n1_; clear n1_; clear HX HY; have HX := m0_; have HY := m1_; clear m0_ m1_; have hc0_ := (blk_cell HX.out 0).trans (rfl : _ = some (Value.int .i64 a1)); have hc1_ := (blk_cell HY.out 0).trans (rfl : _ = some (Value.int .i64 a2))) | (go_at_call 45; refine (strchg a1 a2 w.heap.size (w.heap.size + 1) A0 c0 l0 _ ?s1 HL.out HD.out ?x0 ?x1).mono ?_; (case s1 => repeat (first | exact (Kd.C_below HR0.out HB.out) | (with_reducible refine Kd.C_alloc ?_ _) | (with_reducible refine Kd.C_drewN ?_ _) | (with_reducible refine Kd.C_drew ?_))); (case x0 => exact HX.out); (case x1 => exact HY.out); rintro e w2 ⟨v0, rfl, ho, hb⟩; have n0_ := Aside0.mk (Kd.R_lower ho (below_size (by repeat (first | (with_reducible first | exact HB.out | apply below_alloc | apply pw_below_drewN | apply below_drew1) | exact HB.out)))); have n1_ := Aside0.mk (below_step (by repeat (first | (with_reducible first | exact HB.out | apply below_alloc | apply pw_below_drewN | apply below_drew1) | exact HB.out)) hb); clear HB hb ho; have HB := n1_; have HO := n0_; clear n0_ n1_) | (go_at_call 44; refine (impl_checkedMelody.calls (fun _ => True) v0 _ r1 r2 w _ HB.out HO.out HK.out).mono ?_; rintro e w3 ⟨v1, rfl, ho, hb, _⟩; have n0_ := Aside0.mk (Kd.R_mono ho (fun _ _ => trivial : ∀ k_, _ → True)); have n1_ := Aside0.mk hb; clear HB HO hb ho; have HB := n1_; have HO := n0_; clear n0_ n1_))
                  go_ret2
                  exact ⟨_, rfl, HO.out, HB.out⟩
                · rw [if_neg hl] at h
                  cases h

end Go.Proofs.Ytnpifkjbnkfiaaa.M
