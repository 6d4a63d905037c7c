/- What functions of the given program compute, as plain Lean functions, and that the code comes to just that; by a program of this session over the kit's print. No condition. -/
import Derived.Test.YteljnbhbpidjpaaGx0
import Derived.Test.YteljnbhbpidjpaaGx1
import Derived.Test.YteljnbhbpidjpaaGx8
import Derived.Test.YteljnbhbpidjpaaGx10
import Derived.Test.YteljnbhbpidjpaaGx17
import Derived.Test.YteljnbhbpidjpaaGx20
import Derived.Test.YteljnbhbpidjpaaGx21
import Derived.Test.YteljnbhbpidjpaaGx22
namespace Go.Proofs.Yteljnbhbpidjpaa.G
open Go.RowKit Go.Proofs.YteljnbhbpidjpaaW.PrintWords Go.Proofs.YteljnbhbpidjpaaW.PrintLast Go.Proofs.YteljnbhbpidjpaaW.PrintMore
open Go.Proofs.YteljnbhbpidjpaaW.PrintWords renaming below_alloc → bA, pw_below_drewN → bN, below_drew1 → bD, below_set → bS, blk_drewN → kN, blk_drew → kD, blk_below → kB, below_size → bZ, below_step → bP, blk_lt → kL, gate_callee → gC, box_event → bE, blk_cell → kC
open Go.Proofs.YteljnbhbpidjpaaW.PrintLast renaming take_ofW → tW, any_of → aO, one_of → oO, i64_w → iW, i32_w → jW
open Go.Proofs.YteljnbhbpidjpaaW.PrintWords.Kd renaming C_below → cB, R_lower → rL, R_below → rB, R_mono → rM
open List renaming setIfInBounds_toArray → sI, set_cons_zero → sZ, set_cons_succ → sS
open Bool renaming true → T, false → F
attribute [local go_sem] max2_int min2_int max_two min_two max_three min_three max_four min_four   -- for this text's walks alone
set_option linter.unusedVariables false
set_option linter.unusedSimpArgs false

/-! ### laws_FnExactMeetGrammars: function 4 -/
/-- Between two heap sizes. -/
def In (lo hi k : Nat) : Prop := lo ≤ k ∧ k < hi
/-- It outlasts whatever leaves these blocks alone. -/
def Lasts (lo hi : Nat) (p : World → Prop) : Prop := ∀ u u' : World, p u → (∀ k, lo ≤ k → k < hi → k < u.heap.size → u'.heap[k]? = u.heap[k]?) → p u'
/-- It holds now, and outlasts whatever leaves these blocks alone. -/
structure Live (lo hi : Nat) (p : World → Prop) (u : World) : Prop where
 lasts : Lasts lo hi p
 here : p u
 size : hi ≤ u.heap.size
section
variable {lo hi : Nat} {p p2 : World → Prop} {u u' : World}
theorem Live.below (h : Live lo hi p u) (hb : Below u.heap.size u u') : Live lo hi p u' := ⟨h.lasts, h.lasts u u' h.here (fun k _ _ hk => hb.block k hk), Nat.le_trans h.size hb.size⟩
theorem Live.drew (h : Live lo hi p u) : Live lo hi p u.drew := h.below (bD (Below.refl _ _))
theorem Live.kept {S : Nat → Prop} (h : Live lo hi p u) (hk : Kept u u' S) (hn : ∀ k, lo ≤ k → k < hi → ¬ S k) : Live lo hi p u' := ⟨h.lasts, h.lasts u u' h.here (fun k h1 h2 h3 => hk.2 k h3 (hn k h1 h2)), Nat.le_trans h.size hk.1⟩
theorem Live.wider {hi' : Nat} (h : Live lo hi p u) (hh : hi ≤ hi') (hs : hi' ≤ u.heap.size) : Live lo hi' p u := ⟨fun a b ha hm => h.lasts a b ha (fun k h1 h2 h3 => hm k h1 (Nat.lt_of_lt_of_le h2 hh) h3), h.here, hs⟩
theorem live_and (h : Live lo hi p u) (h2 : Live lo hi p2 u) : Live lo hi (fun z => p z ∧ p2 z) u := ⟨fun a b ha hm => ⟨h.lasts a b ha.1 hm, h2.lasts a b ha.2 hm⟩, ⟨h.here, h2.here⟩, h.size⟩
theorem live_blk_at {g : Nat} {o : Obj} (h : u.heap[g]? = some o) (hg : lo ≤ g) : Live lo u.heap.size (fun z => z.heap[g]? = some o) u :=
 ⟨fun a b ha hm => (hm g hg (kL h) (kL ha)).trans ha, h, Nat.le_refl _⟩
theorem live_blk {g : Nat} {o : Obj} (h : u.heap[g]? = some o) : Live 0 u.heap.size (fun z => z.heap[g]? = some o) u := live_blk_at h (Nat.zero_le _)
theorem live_R {α : Type} {d : Kd α} {e b base : Nat} {ok : Nat → Prop} {v : Value} {xs : List α} (h : d.R e u b ok v xs) (h1 : base ≤ b) (h2 : lo ≤ b) : Live lo u.heap.size (fun z => d.R e z base (In lo u.heap.size) v xs) u :=
 ⟨fun _ _ ha hm => Kd.R_step ha (fun k hk h3 => hm k hk.1 hk.2 h3), rL (rM (Kd.R_bound h) (fun _ hk => ⟨Nat.le_trans h2 hk.2.1, hk.2.2.1⟩)) h1, Nat.le_refl _⟩
theorem in_or {a b k : Nat} (h : In a b k ∨ In a b k) : a ≤ k ∧ k < b := by
 rcases h with h | h
 ·exact h
 ·exact h
end
section
variable {u u1 : World} {g t : Nat} {z0 z1 z2 z3 v0 v1 v2 v3 : Value}
theorem put4 (h : u.heap[g]? = some (.cells #[z0, z1, z2, z3] t (0, 0))) (hw : u1 = (((u.setCell ⟨g, 0, none⟩ v0).setCell ⟨g, 1, none⟩ v1).setCell ⟨g, 2, none⟩ v2).setCell ⟨g, 3, none⟩ v3) : u1.heap[g]? = some (.cells #[v0, v1, v2, v3] t (0, 0)) ∧ Kept u u1 (fun k => k = g) := by
 subst hw
 have k0 : Kept u u (fun k => k = g) := Kept.refl u _
 have k1 := k0.setCell (p := ⟨g, 0, none⟩) (.inl rfl) v0
 have k2 := k1.setCell (p := ⟨g, 1, none⟩) (.inl rfl) v1
 have k3 := k2.setCell (p := ⟨g, 2, none⟩) (.inl rfl) v2
 have k4 := k3.setCell (p := ⟨g, 3, none⟩) (.inl rfl) v3
 exact ⟨blk_put (blk_put (blk_put (blk_put h 0 v0 rfl) 1 v1 rfl) 2 v2 rfl) 3 v3 rfl, k4⟩
theorem below_put4 {w : World} (hb : Below w.heap.size w u) (hg : w.heap.size ≤ g) (hw : u1 = (((u.setCell ⟨g, 0, none⟩ v0).setCell ⟨g, 1, none⟩ v1).setCell ⟨g, 2, none⟩ v2).setCell ⟨g, 3, none⟩ v3) : Below w.heap.size w u1 := by
 subst hw
 exact bS (bS (bS (bS hb hg) hg) hg) hg
theorem r_put4 {α : Type} {d : Kd α} {e base : Nat} {ok : Nat → Prop} {v : Value} {xs : List α} (h : d.R e u base ok v xs) (hz : u.heap[g]? = some (.cells #[z0, z1, z2, z3] t (0, 0))) (ht : ∀ q, q ∈ e :: d.E → q ≠ t) (hw : u1 = (((u.setCell ⟨g, 0, none⟩ v0).setCell ⟨g, 1, none⟩ v1).setCell ⟨g, 2, none⟩ v2).setCell ⟨g, 3, none⟩ v3) : d.R e u1 base ok v xs :=
 rM (Kd.R_kept (Kd.R_types h hz ht) (put4 hz hw).2 (fun _ hk => hk.2)) (fun _ hk => hk.1)
end
theorem skipE {P : Program} {ops : Array Oper} {a : Act} {Q : Exit → Act → World → Prop} {oi : Oper} {u w1 : World} {K : Act → World → Prop} (hw : Region.wanted oi (yielded ops a.tmps) = true) (hN : oi.dst = none) (hrun : (execOp a.eval oi).run P u = .ok .skip w1)
  (h : ∀ u1, u1 = w1 → K a u1) : if Region.wanted oi (yielded ops a.tmps) = true then Oper.wp P oi a u K Q else K (a.put none undef) u := skip_ hw hN hrun (h _ rfl)
def laws_FnExactMeetGrammars.f (k : Nat) (a0_0 a0_1 : Int) (l0_2 : List Int) (l0_3 : List S84) (a1_0 a1_1 : Int) (l1_2 : List Int) (l1_3 : List S84) : Option Bool :=
 (laws_szGrammar.f a0_0 a0_1 l0_2 l0_3 1048576).bind fun n0 => if n0 < 0 then some true else (laws_szGrammar.f a1_0 a1_1 l1_2 l1_3 n0).bind fun n1 => if n1 < 0 then some true else
 (laws_toGrammar.f k a0_0 a0_1 l0_2 l0_3).bind fun x => (laws_toGrammar.f k a1_0 a1_1 l1_2 l1_3).bind fun y =>
 (spec_MeetGrammars.f k x.1 x.2.1 x.2.2.1 x.2.2.2 y.1 y.2.1 y.2.2.1 y.2.2.2).bind fun s => (impl_MeetGrammars.f k x.1 x.2.1 x.2.2.1 x.2.2.2 y.1 y.2.1 y.2.2.1 y.2.2.2).bind fun g =>
 (laws_eqGrammar.f k g.1 g.2.1 g.2.2.1 g.2.2.2.1 s.1 s.2.1 s.2.2.1 s.2.2.2.1).bind fun t1 => (laws_eqGrammar.f k x.1 x.2.1 x.2.2.1 x.2.2.2 x.1 x.2.1 x.2.2.1 x.2.2.2).bind fun t2 => (laws_eqGrammar.f k y.1 y.2.1 y.2.2.1 y.2.2.2 y.1 y.2.1 y.2.2.1 y.2.2.2).bind fun t3 =>
 (laws_markGrammar.f k x.1 x.2.1 x.2.2.1 x.2.2.2 1).bind fun m0 => (laws_markGrammar.f k y.1 y.2.1 y.2.2.1 y.2.2.2 m0.1).bind fun m1 => (laws_markGrammar.f k g.1 g.2.1 g.2.2.1 g.2.2.2.1 1).bind fun m => (laws_heldGrammar.f k g.1 g.2.1 m.2.1 m.2.2 1).bind fun q =>
 if g.2.2.2.2 = s.2.2.2.2 ∧ t1 = true ∧ t2 = true ∧ t3 = true ∧ 0 ≤ m1.1 ∧ 0 ≤ q ∧ q = m.1 then some true else none
def laws_FnExactMeetGrammars.T8 : Bool × List (List Nat × List Nat) := (true, [([], []), ([0], [0]), ([], []), ([2, 1], [2]), ([1, 3, 3], [1, 3]), ([4], [4]), ([5], [5]), ([5], [5]), ([], []), ([8, 6, 4, 0, 1, 2, 3, 4, 5, 6, 8], [6, 8]), ([7, 9, 0, 1, 2, 3, 4, 5, 6, 7, 8, 9], [7])])
def laws_FnExactMeetGrammars.B8 : List Nat := [0, 1, 0, 7, 15, 31, 63, 63, 0, 383, 1023]
theorem laws_FnExactMeetGrammars.tab8 : rtab .any (opsOf Try.f4 8) = laws_FnExactMeetGrammars.T8 := by kernel_rfl
theorem laws_FnExactMeetGrammars.bits8 : waitsOk laws_FnExactMeetGrammars.T8.2 laws_FnExactMeetGrammars.B8 = true := by kernel_rfl
theorem laws_FnExactMeetGrammars.tab31 : rtab .any (opsOf Try.f4 31) = laws_FnExactMeetGrammars.T8 := by kernel_rfl
theorem laws_FnExactMeetGrammars.bits31 : waitsOk laws_FnExactMeetGrammars.T8.2 laws_FnExactMeetGrammars.B8 = true := by kernel_rfl
/-- THE ONE PURE STATEMENT of laws_FnExactMeetGrammars. -/
def laws_FnExactMeetGrammars.Pure : Prop := ∀ (a0_0 : Int) (a0_1 : Int) (l0_2 : List Int) (l0_3 : List S84) (a1_0 : Int) (a1_1 : Int) (l1_2 : List Int) (l1_3 : List S84), (Lit.int .i64 a0_0).wf = true → (Lit.int .i64 a0_1).wf = true → (l0_2.length ≤ maxLen ∧ ∀ x ∈ l0_2, (Lit.int .i64 x).wf = true) → (l0_3.length ≤ maxLen ∧ ∀ x ∈ l0_3, (Lit.int .i64 x.f0).wf = true ∧ (Lit.int .i64 x.f1).wf = true ∧ (Lit.int .i64 x.f2).wf = true) → (Lit.int .i64 a1_0).wf = true → (Lit.int .i64 a1_1).wf = true → (l1_2.length ≤ maxLen ∧ ∀ x ∈ l1_2, (Lit.int .i64 x).wf = true) → (l1_3.length ≤ maxLen ∧ ∀ x ∈ l1_3, (Lit.int .i64 x.f0).wf = true ∧ (Lit.int .i64 x.f1).wf = true ∧ (Lit.int .i64 x.f2).wf = true) → ∃ k, laws_FnExactMeetGrammars.f k a0_0 a0_1 l0_2 l0_3 a1_0 a1_1 l1_2 l1_3 = some true
set_option maxHeartbeats 8000000 in
set_option maxRecDepth 100000 in
theorem laws_FnExactMeetGrammars.calls (k : Nat) (a0_0 : Int) (a0_1 : Int) (A0_2 : Option Addr) (c0_2 : Nat) (l0_2 : List Int) (A0_3 : Option Addr) (c0_3 : Nat) (l0_3 : List S84) (a1_0 : Int) (a1_1 : Int) (A1_2 : Option Addr) (c1_2 : Nat) (l1_2 : List Int) (A1_3 : Option Addr) (c1_3 : Nat) (l1_3 : List S84) (r : Bool) (w : World) (hr0_2 : Kd.C (Kd.int .i64) w A0_2 l0_2.length l0_2) (hc0_2 : l0_2.length ≤ c0_2) (hr0_3 : Kd.C k84 w A0_3 l0_3.length l0_3) (hc0_3 : l0_3.length ≤ c0_3) (hr1_2 : Kd.C (Kd.int .i64) w A1_2 l1_2.length l1_2) (hc1_2 : l1_2.length ≤ c1_2) (hr1_3 : Kd.C k84 w A1_3 l1_3.length l1_3) (hc1_3 : l1_3.length ≤ c1_3) (h : laws_FnExactMeetGrammars.f k a0_0 a0_1 l0_2 l0_3 a1_0 a1_1 l1_2 l1_3 = some r) :
  Calls Try.prog 4 #[.agg #[.int .i64 a0_0, .int .i64 a0_1, .slice A0_2 l0_2.length c0_2, .slice A0_3 l0_3.length c0_3], .agg #[.int .i64 a1_0, .int .i64 a1_1, .slice A1_2 l1_2.length c1_2, .slice A1_3 l1_3.length c1_3]] w fun e w' => e = .returned (.bool r) ∧ Below w.heap.size w w' := by
 have hu35 := Try.underlying35
 have hu39 := Try.underlying39
 have HR0_2 := Aside0.mk hr0_2
 have HC0_2 := Aside0.mk hc0_2
 have HR0_3 := Aside0.mk hr0_3
 have HC0_3 := Aside0.mk hc0_3
 have HR1_2 := Aside0.mk hr1_2
 have HC1_2 := Aside0.mk hc1_2
 have HR1_3 := Aside0.mk hr1_3
 have HC1_3 := Aside0.mk hc1_3
 clear hr0_2 hc0_2 hr0_3 hc0_3 hr1_2 hc1_2 hr1_3 hc1_3
 have HB := Aside0.mk (Below.refl w.heap.size w)
 unfold laws_FnExactMeetGrammars.f at h
 obtain ⟨n0, e0, h⟩ := Option.bind_eq_some_iff.1 h
 have E0 := Aside0.mk e0
 clear e0
 by_cases p0 : n0 < 0
 ·rw [if_pos p0] at h
  obtain rfl := Option.some.inj h
  have p0b : decide (n0 < 0) = true := decide_eq_true p0
  clear h p0
  go_enter Try.func4, Try.ntmps4
  go_wp2_with (first | ((with_reducible refine gate_dst (N := 2) rfl ?_); refine bE ?hg (N := 2) ?hd (cs := #[.int .i64 a0_0, .int .i64 a0_1, .slice A0_2 l0_2.length c0_2, .slice A0_3 l0_3.length c0_3]) (t := 35) ?hr ?_; (case hd => rfl); (case hg => rfl); (case hr => first | (go_simp; done) | (go_simp; rfl)); intro ga hg_ v1 hbox hb; have HB2 := Aside0.mk (bP (by repeat (first | exact HB.out | apply bN | apply bD | apply bA)) hb); have BKa := Aside0.mk hbox; clear HB hb hbox hg_; have HB := HB2; clear HB2) | ((with_reducible refine gate_dst (N := 3) rfl ?_); refine bE ?hg (N := 3) ?hd (cs := #[.int .i64 a1_0, .int .i64 a1_1, .slice A1_2 l1_2.length c1_2, .slice A1_3 l1_3.length c1_3]) (t := 35) ?hr ?_; (case hd => rfl); (case hg => rfl); (case hr => first | (go_simp; done) | (go_simp; rfl)); intro gb hg_ v2 hbox hb; have HB2 := Aside0.mk (bP (by repeat (first | exact HB.out | apply bN | apply bD | apply bA)) hb); replace BKa := Aside0.mk (kB (by (with_reducible repeat (first | refine kN ?_ _ | refine kD ?_)); exact BKa.out) hb); have BKb := Aside0.mk hbox; clear HB hb hbox hg_; have HB := HB2; clear HB2; have ca0 : (v2).cell? ⟨ga, 0, none⟩ = some (.int .i64 a0_0) := (kC BKa.out 0).trans rfl; have fa0 := blk_frozen BKa.out 0; have ca1 : (v2).cell? ⟨ga, 1, none⟩ = some (.int .i64 a0_1) := (kC BKa.out 1).trans rfl; have fa1 := blk_frozen BKa.out 1; have ca2 : (v2).cell? ⟨ga, 2, none⟩ = some (.slice A0_2 l0_2.length c0_2) := (kC BKa.out 2).trans rfl; have fa2 := blk_frozen BKa.out 2; have ca3 : (v2).cell? ⟨ga, 3, none⟩ = some (.slice A0_3 l0_3.length c0_3) := (kC BKa.out 3).trans rfl; have fa3 := blk_frozen BKa.out 3) | ((with_reducible refine gC (f := 15) rfl ?_); refine goesL_ (some 19) rfl rfl Try.func15 (by kernel_rfl) rfl #[.agg #[.int .i64 a0_0, .int .i64 a0_1, .slice A0_2 l0_2.length c0_2, .slice A0_3 l0_3.length c0_3], .int .i64 1048576] rfl (by (try simp only [List.map_toArray, List.map_cons, List.map_nil]); first | done | rfl | (simp only [List.length_drop, List.length_take]; rfl)) ?_; (with_reducible refine (laws_szGrammar.calls a0_0 a0_1 _ _ l0_2 _ _ l0_3 1048576 n0 _ (cB HR0_2.out (by repeat (first | exact HB.out | apply bN | apply bD | apply bA))) HC0_2.out (cB HR0_3.out (by repeat (first | exact HB.out | apply bN | apply bD | apply bA))) HC0_3.out E0.out).mono ?_); rintro e v3 ⟨rfl, hb⟩; refine ⟨_, rfl, ?_⟩; clear ca0 fa0 ca1 fa1 ca2 fa2 ca3 fa3; have HB2 := Aside0.mk (bP (by repeat (first | exact HB.out | apply bN | apply bD | apply bA)) hb); replace BKa := Aside0.mk (kB BKa.out hb); replace BKb := Aside0.mk (kB BKb.out hb); clear HB hb; have HB := HB2; clear HB2; have cb0 : (v3).cell? ⟨gb, 0, none⟩ = some (.int .i64 a1_0) := (kC BKb.out 0).trans rfl; have fb0 := blk_frozen BKb.out 0; have cb1 : (v3).cell? ⟨gb, 1, none⟩ = some (.int .i64 a1_1) := (kC BKb.out 1).trans rfl; have fb1 := blk_frozen BKb.out 1; have cb2 : (v3).cell? ⟨gb, 2, none⟩ = some (.slice A1_2 l1_2.length c1_2) := (kC BKb.out 2).trans rfl; have fb2 := blk_frozen BKb.out 2; have cb3 : (v3).cell? ⟨gb, 3, none⟩ = some (.slice A1_3 l1_3.length c1_3) := (kC BKb.out 3).trans rfl; have fb3 := blk_frozen BKb.out 3))
  go_ret
  exact ⟨rfl, (by repeat (first | exact HB.out | apply bN | apply bD | apply bA))⟩
 rw [if_neg p0] at h
 have p0b : decide (n0 < 0) = false := decide_eq_false p0
 clear p0
 obtain ⟨n1, e1, h⟩ := Option.bind_eq_some_iff.1 h
 have E1 := Aside0.mk e1
 clear e1
 by_cases p1 : n1 < 0
 ·rw [if_pos p1] at h
  obtain rfl := Option.some.inj h
  have p1b : decide (n1 < 0) = true := decide_eq_true p1
  clear h p1
  go_enter Try.func4, Try.ntmps4
  go_wp2_with (first | ((with_reducible refine gate_dst (N := 2) rfl ?_); refine bE ?hg (N := 2) ?hd (cs := #[.int .i64 a0_0, .int .i64 a0_1, .slice A0_2 l0_2.length c0_2, .slice A0_3 l0_3.length c0_3]) (t := 35) ?hr ?_; (case hd => rfl); (case hg => rfl); (case hr => first | (go_simp; done) | (go_simp; rfl)); intro ga hg_ v1 hbox hb; have HB2 := Aside0.mk (bP (by repeat (first | exact HB.out | apply bN | apply bD | apply bA)) hb); have BKa := Aside0.mk hbox; clear HB hb hbox hg_; have HB := HB2; clear HB2) | ((with_reducible refine gate_dst (N := 3) rfl ?_); refine bE ?hg (N := 3) ?hd (cs := #[.int .i64 a1_0, .int .i64 a1_1, .slice A1_2 l1_2.length c1_2, .slice A1_3 l1_3.length c1_3]) (t := 35) ?hr ?_; (case hd => rfl); (case hg => rfl); (case hr => first | (go_simp; done) | (go_simp; rfl)); intro gb hg_ v2 hbox hb; have HB2 := Aside0.mk (bP (by repeat (first | exact HB.out | apply bN | apply bD | apply bA)) hb); replace BKa := Aside0.mk (kB (by (with_reducible repeat (first | refine kN ?_ _ | refine kD ?_)); exact BKa.out) hb); have BKb := Aside0.mk hbox; clear HB hb hbox hg_; have HB := HB2; clear HB2; have ca0 : (v2).cell? ⟨ga, 0, none⟩ = some (.int .i64 a0_0) := (kC BKa.out 0).trans rfl; have fa0 := blk_frozen BKa.out 0; have ca1 : (v2).cell? ⟨ga, 1, none⟩ = some (.int .i64 a0_1) := (kC BKa.out 1).trans rfl; have fa1 := blk_frozen BKa.out 1; have ca2 : (v2).cell? ⟨ga, 2, none⟩ = some (.slice A0_2 l0_2.length c0_2) := (kC BKa.out 2).trans rfl; have fa2 := blk_frozen BKa.out 2; have ca3 : (v2).cell? ⟨ga, 3, none⟩ = some (.slice A0_3 l0_3.length c0_3) := (kC BKa.out 3).trans rfl; have fa3 := blk_frozen BKa.out 3) | ((with_reducible refine gC (f := 15) rfl ?_); refine goesL_ (some 19) rfl rfl Try.func15 (by kernel_rfl) rfl #[.agg #[.int .i64 a0_0, .int .i64 a0_1, .slice A0_2 l0_2.length c0_2, .slice A0_3 l0_3.length c0_3], .int .i64 1048576] rfl (by (try simp only [List.map_toArray, List.map_cons, List.map_nil]); first | done | rfl | (simp only [List.length_drop, List.length_take]; rfl)) ?_; (with_reducible refine (laws_szGrammar.calls a0_0 a0_1 _ _ l0_2 _ _ l0_3 1048576 n0 _ (cB HR0_2.out (by repeat (first | exact HB.out | apply bN | apply bD | apply bA))) HC0_2.out (cB HR0_3.out (by repeat (first | exact HB.out | apply bN | apply bD | apply bA))) HC0_3.out E0.out).mono ?_); rintro e v3 ⟨rfl, hb⟩; refine ⟨_, rfl, ?_⟩; clear ca0 fa0 ca1 fa1 ca2 fa2 ca3 fa3; have HB2 := Aside0.mk (bP (by repeat (first | exact HB.out | apply bN | apply bD | apply bA)) hb); replace BKa := Aside0.mk (kB BKa.out hb); replace BKb := Aside0.mk (kB BKb.out hb); clear HB hb; have HB := HB2; clear HB2; have cb0 : (v3).cell? ⟨gb, 0, none⟩ = some (.int .i64 a1_0) := (kC BKb.out 0).trans rfl; have fb0 := blk_frozen BKb.out 0; have cb1 : (v3).cell? ⟨gb, 1, none⟩ = some (.int .i64 a1_1) := (kC BKb.out 1).trans rfl; have fb1 := blk_frozen BKb.out 1; have cb2 : (v3).cell? ⟨gb, 2, none⟩ = some (.slice A1_2 l1_2.length c1_2) := (kC BKb.out 2).trans rfl; have fb2 := blk_frozen BKb.out 2; have cb3 : (v3).cell? ⟨gb, 3, none⟩ = some (.slice A1_3 l1_3.length c1_3) := (kC BKb.out 3).trans rfl; have fb3 := blk_frozen BKb.out 3) | ((with_reducible refine gC (f := 15) rfl ?_); refine goesL_ (some 24) rfl rfl Try.func15 (by kernel_rfl) rfl #[.agg #[.int .i64 a1_0, .int .i64 a1_1, .slice A1_2 l1_2.length c1_2, .slice A1_3 l1_3.length c1_3], .int .i64 n0] rfl (by (try simp only [List.map_toArray, List.map_cons, List.map_nil]); first | done | rfl | (simp only [List.length_drop, List.length_take]; rfl)) ?_; (with_reducible refine (laws_szGrammar.calls a1_0 a1_1 _ _ l1_2 _ _ l1_3 n0 n1 _ (cB HR1_2.out (by repeat (first | exact HB.out | apply bN | apply bD | apply bA))) HC1_2.out (cB HR1_3.out (by repeat (first | exact HB.out | apply bN | apply bD | apply bA))) HC1_3.out E1.out).mono ?_); rintro e v4 ⟨rfl, hb⟩; refine ⟨_, rfl, ?_⟩; clear cb0 fb0 cb1 fb1 cb2 fb2 cb3 fb3; have HB2 := Aside0.mk (bP (by repeat (first | exact HB.out | apply bN | apply bD | apply bA)) hb); replace BKa := Aside0.mk (kB BKa.out hb); replace BKb := Aside0.mk (kB BKb.out hb); clear HB hb; have HB := HB2; clear HB2))
  go_ret
  exact ⟨rfl, (by repeat (first | exact HB.out | apply bN | apply bD | apply bA))⟩
 rw [if_neg p1] at h
 have p1b : decide (n1 < 0) = false := decide_eq_false p1
 clear p1
 obtain ⟨⟨x1, x2, x3, x4⟩, ex, h⟩ := Option.bind_eq_some_iff.1 h
 obtain ⟨⟨y1, y2, y3, y4⟩, ey, h⟩ := Option.bind_eq_some_iff.1 h
 obtain ⟨⟨s1, s2, s3, s4, s5⟩, es, h⟩ := Option.bind_eq_some_iff.1 h
 obtain ⟨⟨g1, g2, g3, g4, g5⟩, eg, h⟩ := Option.bind_eq_some_iff.1 h
 obtain ⟨t1, et1, h⟩ := Option.bind_eq_some_iff.1 h
 obtain ⟨t2, et2, h⟩ := Option.bind_eq_some_iff.1 h
 obtain ⟨t3, et3, h⟩ := Option.bind_eq_some_iff.1 h
 obtain ⟨⟨m0, mx3, mx4⟩, em0, h⟩ := Option.bind_eq_some_iff.1 h
 obtain ⟨⟨m1, my3, my4⟩, em1, h⟩ := Option.bind_eq_some_iff.1 h
 obtain ⟨⟨m, mg3, mg4⟩, em, h⟩ := Option.bind_eq_some_iff.1 h
 obtain ⟨q, eq, h⟩ := Option.bind_eq_some_iff.1 h
 dsimp only at es eg et1 et2 et3 em0 em1 em eq h
 by_cases cc : g5 = s5 ∧ t1 = true ∧ t2 = true ∧ t3 = true ∧ 0 ≤ m1 ∧ 0 ≤ q ∧ q = m
 rotate_left
 ·rw [if_neg cc] at h
  cases h
 rw [if_pos cc] at h
 obtain rfl := Option.some.inj h
 clear h
 obtain ⟨rfl, rfl, rfl, rfl, o1, o2, rfl⟩ := cc
 have EX := Aside0.mk ex
 have EY := Aside0.mk ey
 have ES := Aside0.mk es
 have EG := Aside0.mk eg
 have ET1 := Aside0.mk et1
 have ET2 := Aside0.mk et2
 have ET3 := Aside0.mk et3
 have EM0 := Aside0.mk em0
 have EM1 := Aside0.mk em1
 have EM := Aside0.mk em
 have EQ := Aside0.mk eq
 have p3 : decide (m1 < 0) = false := decide_eq_false (by omega)
 have p4 : decide (q < 0) = false := decide_eq_false (by omega)
 clear ex ey es eg et1 et2 et3 em0 em1 em eq o1 o2
 go_enter Try.func4, Try.ntmps4
 go_wp2_with (first | ((with_reducible refine gate_dst (N := 2) rfl ?_); refine bE ?hg (N := 2) ?hd (cs := #[.int .i64 a0_0, .int .i64 a0_1, .slice A0_2 l0_2.length c0_2, .slice A0_3 l0_3.length c0_3]) (t := 35) ?hr ?_; (case hd => rfl); (case hg => rfl); (case hr => first | (go_simp; done) | (go_simp; rfl)); intro ga hg_ v1 hbox hb; have HB2 := Aside0.mk (bP (by repeat (first | exact HB.out | apply bN | apply bD | apply bA)) hb); have BKa := Aside0.mk hbox; clear HB hb hbox hg_; have HB := HB2; clear HB2) | ((with_reducible refine gate_dst (N := 3) rfl ?_); refine bE ?hg (N := 3) ?hd (cs := #[.int .i64 a1_0, .int .i64 a1_1, .slice A1_2 l1_2.length c1_2, .slice A1_3 l1_3.length c1_3]) (t := 35) ?hr ?_; (case hd => rfl); (case hg => rfl); (case hr => first | (go_simp; done) | (go_simp; rfl)); intro gb hg_ v2 hbox hb; have HB2 := Aside0.mk (bP (by repeat (first | exact HB.out | apply bN | apply bD | apply bA)) hb); replace BKa := Aside0.mk (kB (by (with_reducible repeat (first | refine kN ?_ _ | refine kD ?_)); exact BKa.out) hb); have BKb := Aside0.mk hbox; clear HB hb hbox hg_; have HB := HB2; clear HB2; have ca0 : (v2).cell? ⟨ga, 0, none⟩ = some (.int .i64 a0_0) := (kC BKa.out 0).trans rfl; have fa0 := blk_frozen BKa.out 0; have ca1 : (v2).cell? ⟨ga, 1, none⟩ = some (.int .i64 a0_1) := (kC BKa.out 1).trans rfl; have fa1 := blk_frozen BKa.out 1; have ca2 : (v2).cell? ⟨ga, 2, none⟩ = some (.slice A0_2 l0_2.length c0_2) := (kC BKa.out 2).trans rfl; have fa2 := blk_frozen BKa.out 2; have ca3 : (v2).cell? ⟨ga, 3, none⟩ = some (.slice A0_3 l0_3.length c0_3) := (kC BKa.out 3).trans rfl; have fa3 := blk_frozen BKa.out 3) | ((with_reducible refine gC (f := 15) rfl ?_); refine goesL_ (some 19) rfl rfl Try.func15 (by kernel_rfl) rfl #[.agg #[.int .i64 a0_0, .int .i64 a0_1, .slice A0_2 l0_2.length c0_2, .slice A0_3 l0_3.length c0_3], .int .i64 1048576] rfl (by (try simp only [List.map_toArray, List.map_cons, List.map_nil]); first | done | rfl | (simp only [List.length_drop, List.length_take]; rfl)) ?_; (with_reducible refine (laws_szGrammar.calls a0_0 a0_1 _ _ l0_2 _ _ l0_3 1048576 n0 _ (cB HR0_2.out (by repeat (first | exact HB.out | apply bN | apply bD | apply bA))) HC0_2.out (cB HR0_3.out (by repeat (first | exact HB.out | apply bN | apply bD | apply bA))) HC0_3.out E0.out).mono ?_); rintro e v3 ⟨rfl, hb⟩; refine ⟨_, rfl, ?_⟩; clear ca0 fa0 ca1 fa1 ca2 fa2 ca3 fa3; have HB2 := Aside0.mk (bP (by repeat (first | exact HB.out | apply bN | apply bD | apply bA)) hb); replace BKa := Aside0.mk (kB BKa.out hb); replace BKb := Aside0.mk (kB BKb.out hb); clear HB hb; have HB := HB2; clear HB2; have cb0 : (v3).cell? ⟨gb, 0, none⟩ = some (.int .i64 a1_0) := (kC BKb.out 0).trans rfl; have fb0 := blk_frozen BKb.out 0; have cb1 : (v3).cell? ⟨gb, 1, none⟩ = some (.int .i64 a1_1) := (kC BKb.out 1).trans rfl; have fb1 := blk_frozen BKb.out 1; have cb2 : (v3).cell? ⟨gb, 2, none⟩ = some (.slice A1_2 l1_2.length c1_2) := (kC BKb.out 2).trans rfl; have fb2 := blk_frozen BKb.out 2; have cb3 : (v3).cell? ⟨gb, 3, none⟩ = some (.slice A1_3 l1_3.length c1_3) := (kC BKb.out 3).trans rfl; have fb3 := blk_frozen BKb.out 3) | ((with_reducible refine gC (f := 15) rfl ?_); refine goesL_ (some 24) rfl rfl Try.func15 (by kernel_rfl) rfl #[.agg #[.int .i64 a1_0, .int .i64 a1_1, .slice A1_2 l1_2.length c1_2, .slice A1_3 l1_3.length c1_3], .int .i64 n0] rfl (by (try simp only [List.map_toArray, List.map_cons, List.map_nil]); first | done | rfl | (simp only [List.length_drop, List.length_take]; rfl)) ?_; (with_reducible refine (laws_szGrammar.calls a1_0 a1_1 _ _ l1_2 _ _ l1_3 n0 n1 _ (cB HR1_2.out (by repeat (first | exact HB.out | apply bN | apply bD | apply bA))) HC1_2.out (cB HR1_3.out (by repeat (first | exact HB.out | apply bN | apply bD | apply bA))) HC1_3.out E1.out).mono ?_); rintro e v4 ⟨rfl, hb⟩; refine ⟨_, rfl, ?_⟩; clear cb0 fb0 cb1 fb1 cb2 fb2 cb3 fb3; have HB2 := Aside0.mk (bP (by repeat (first | exact HB.out | apply bN | apply bD | apply bA)) hb); replace BKa := Aside0.mk (kB BKa.out hb); replace BKb := Aside0.mk (kB BKb.out hb); clear HB hb; have HB := HB2; clear HB2))
 have AB0 : Live 0 v4.drew.heap.size (fun z => z.heap[ga]? = some (.cells #[.int .i64 a0_0, .int .i64 a0_1, .slice A0_2 l0_2.length c0_2, .slice A0_3 l0_3.length c0_3] 35 (0, 0)) ∧ z.heap[gb]? = some (.cells #[.int .i64 a1_0, .int .i64 a1_1, .slice A1_2 l1_2.length c1_2, .slice A1_3 l1_3.length c1_3] 35 (0, 0))) v4.drew := live_and (live_blk (kD BKa.out)) (live_blk (kD BKb.out))
 have HA := Aside0.mk AB0
 replace HB := Aside0.mk (bD HB.out)
 clear AB0 BKa BKb E0 E1 p0b p1b
 refine start_ (n := 11) (S := fun z => z.heap[ga]? = some (.cells #[.int .i64 a0_0, .int .i64 a0_1, .slice A0_2 l0_2.length c0_2, .slice A0_3 l0_3.length c0_3] 35 (0, 0)) ∧ z.heap[gb]? = some (.cells #[.int .i64 a1_0, .int .i64 a1_1, .slice A1_2 l1_2.length c1_2, .slice A1_3 l1_3.length c1_3] 35 (0, 0))) (ds := []) #[F,F,F,F,F,F,F,F,F,F,F] (by kernel_rfl) rfl rfl ⟨HA.out.here.1, HA.out.here.2⟩ (fun hHeld => ?_); refine with_tabW laws_FnExactMeetGrammars.tab8 laws_FnExactMeetGrammars.bits8 (fun HT_ HW_ => ?_)
 generalize v4.drew = u at HA HB hHeld ⊢
 have HU := Aside0.mk (Below.refl u.heap.size u)
 refine take_ (i := 0) (N := some 28) (v := ?_) (a' := ?_) #[T,F,F,F,F,F,F,F,F,F,F] rfl rfl (tW HT_.out HW_.out (by kernel_rfl)) (fun _ _ _ h => h) (Or.inl ⟨by rfl, ?_⟩) hHeld ?_ ?_
 rotate_left
 ·rintro z_ ⟨h1_, h2_⟩
  have cz0 : (z_).cell? ⟨ga, 0, none⟩ = some (.int .i64 a0_0) := (kC h1_ 0).trans rfl
  have fz0 := blk_frozen h1_ 0
  have cz1 : (z_).cell? ⟨ga, 1, none⟩ = some (.int .i64 a0_1) := (kC h1_ 1).trans rfl
  have fz1 := blk_frozen h1_ 1
  have cz2 : (z_).cell? ⟨ga, 2, none⟩ = some (.slice A0_2 l0_2.length c0_2) := (kC h1_ 2).trans rfl
  have fz2 := blk_frozen h1_ 2
  have cz3 : (z_).cell? ⟨ga, 3, none⟩ = some (.slice A0_3 l0_3.length c0_3) := (kC h1_ 3).trans rfl
  have fz3 := blk_frozen h1_ 3
  go_simp
  with_reducible rfl
 rotate_left
 ·simp only [Act.put, sI, sZ, sS, iW, jW]
  rfl
 refine take_ (i := 2) (N := some 30) (v := ?_) (a' := ?_) #[T,F,T,F,F,F,F,F,F,F,F] rfl rfl (tW HT_.out HW_.out (by kernel_rfl)) (fun _ _ _ h => h) (Or.inl ⟨by rfl, ?_⟩) hHeld ?_ ?_
 rotate_left
 ·rintro z_ ⟨h1_, h2_⟩
  have cz0 : (z_).cell? ⟨gb, 0, none⟩ = some (.int .i64 a1_0) := (kC h2_ 0).trans rfl
  have fz0 := blk_frozen h2_ 0
  have cz1 : (z_).cell? ⟨gb, 1, none⟩ = some (.int .i64 a1_1) := (kC h2_ 1).trans rfl
  have fz1 := blk_frozen h2_ 1
  have cz2 : (z_).cell? ⟨gb, 2, none⟩ = some (.slice A1_2 l1_2.length c1_2) := (kC h2_ 2).trans rfl
  have fz2 := blk_frozen h2_ 2
  have cz3 : (z_).cell? ⟨gb, 3, none⟩ = some (.slice A1_3 l1_3.length c1_3) := (kC h2_ 3).trans rfl
  have fz3 := blk_frozen h2_ 3
  go_simp
  with_reducible rfl
 rotate_left
 ·simp only [Act.put, sI, sZ, sS, iW, jW]
  rfl
 refine join_ (σ := Value × Value × Value × Value × Value × Value × Nat) 2 #[T,T,T,T,T,T,T,T,T,F,F] (fun s_ => [(29, .agg #[.int .i64 x1, .int .i64 x2, s_.1, s_.2.1]), (31, .agg #[.int .i64 y1, .int .i64 y2, s_.2.2.1, s_.2.2.2.1]), (32, .tuple #[.agg #[.int .i64 s1, .int .i64 s2, s_.2.2.2.2.1, s_.2.2.2.2.2.1], .int .i64 g5]), (6, .pointer (some ⟨s_.2.2.2.2.2.2, 0, none⟩)), (27, .tuple #[.agg #[.int .i64 s1, .int .i64 s2, s_.2.2.2.2.1, s_.2.2.2.2.2.1], .int .i64 g5]), (33, .agg #[.int .i64 s1, .int .i64 s2, s_.2.2.2.2.1, s_.2.2.2.2.2.1]), (34, .int .i64 g5)]) (fun s_ z => Below u.heap.size u z ∧ Kd.R (Kd.int .i64) 2 z w.heap.size (fun _ => True) s_.2.2.2.2.1 s3 ∧ Kd.R k68 68 z w.heap.size (fun _ => True) s_.2.2.2.2.2.1 s4 ∧ z.heap[s_.2.2.2.2.2.2]? = some (.cells #[.int .i64 0, .int .i64 0, .slice none 0 0, .slice none 0 0] 39 (0, 0)) ∧ u.heap.size ≤ s_.2.2.2.2.2.2) ?_ ?_
 rotate_left
 ·intro hCont
  refine two_ (i := 1) (j := 8) (Ni := some 29) (Nj := some 6) #[T,T,T,F,F,F,F,F,F,F,F] #[T,F,T,F,F,F,F,F,T,F,F] rfl rfl rfl rfl (two_of HT_.out (by kernel_rfl)) (by decide) (by decide) (fun K hK => ?_) (fun K hK => ?_)
  ·skip
   refine goes_ Try.func17 (by kernel_rfl) rfl #[.agg #[.int .i64 a0_0, .int .i64 a0_1, .slice A0_2 l0_2.length c0_2, .slice A0_3 l0_3.length c0_3]] (by rfl) rfl rfl (by (try simp only [List.map_toArray, List.map_cons, List.map_nil]); first | done | rfl | (simp only [List.length_drop, List.length_take]; rfl)) ?_
   with_reducible refine (laws_toGrammar.calls k a0_0 a0_1 _ _ l0_2 _ _ l0_3 x1 x2 x3 x4 _ (cB HR0_2.out (bP HB.out HU.out)) HC0_2.out (cB HR0_3.out (bP HB.out HU.out)) HC0_3.out EX.out).mono ?_
   rintro e_ z_ ⟨v2_, v3_, rfl, h2, h3, hb⟩
   refine ⟨_, rfl, ?_⟩
   obtain ⟨Ax2, capx2, rfl⟩ := Kd.R_slice h2
   obtain ⟨Ax3, capx3, rfl⟩ := Kd.R_slice h3
   have Hx2 := Aside0.mk h2
   have Hx3 := Aside0.mk h3
   replace HU := Aside0.mk (bP HU.out hb)
   clear hb h2 h3
   refine hK.out _ _ ⟨kB HA.out.here.1 HU.out, kB HA.out.here.2 HU.out⟩ (fun _ => ?_)
   clear hK K
   refine norm_ (a' := ?_) ?_ ?_
   rotate_left
   ·show Act.put _ (some 29) _ = _
    simp only [Act.put, sI, sZ, sS, iW, jW]
    rfl
   refine two_ (i := 3) (j := 8) (Ni := some 31) (Nj := some 6) #[T,T,T,T,F,F,F,F,F,F,F] #[T,T,T,F,F,F,F,F,T,F,F] rfl rfl rfl rfl (two_of HT_.out (by kernel_rfl)) (by decide) (by decide) (fun K hK => ?_) (fun K hK => ?_)
   ·skip
    refine goes_ Try.func17 (by kernel_rfl) rfl #[.agg #[.int .i64 a1_0, .int .i64 a1_1, .slice A1_2 l1_2.length c1_2, .slice A1_3 l1_3.length c1_3]] (by rfl) rfl rfl (by (try simp only [List.map_toArray, List.map_cons, List.map_nil]); first | done | rfl | (simp only [List.length_drop, List.length_take]; rfl)) ?_
    with_reducible refine (laws_toGrammar.calls k a1_0 a1_1 _ _ l1_2 _ _ l1_3 y1 y2 y3 y4 _ (cB HR1_2.out (bP HB.out HU.out)) HC1_2.out (cB HR1_3.out (bP HB.out HU.out)) HC1_3.out EY.out).mono ?_
    rintro e_ z_ ⟨v2_, v3_, rfl, h2, h3, hb⟩
    refine ⟨_, rfl, ?_⟩
    obtain ⟨Ay2, capy2, rfl⟩ := Kd.R_slice h2
    obtain ⟨Ay3, capy3, rfl⟩ := Kd.R_slice h3
    replace Hx2 := Aside0.mk (rB Hx2.out hb)
    replace Hx3 := Aside0.mk (rB Hx3.out hb)
    have Hy2 := Aside0.mk h2
    have Hy3 := Aside0.mk h3
    replace HU := Aside0.mk (bP HU.out hb)
    clear hb h2 h3
    refine hK.out _ _ ⟨kB HA.out.here.1 HU.out, kB HA.out.here.2 HU.out⟩ (fun _ => ?_)
    clear hK K
    refine norm_ (a' := ?_) ?_ ?_
    rotate_left
    ·show Act.put _ (some 31) _ = _
     simp only [Act.put, sI, sZ, sS, iW, jW]
     rfl
    refine two_ (i := 4) (j := 8) (Ni := some 32) (Nj := some 6) #[T,T,T,T,T,F,F,F,F,F,F] #[T,T,T,T,F,F,F,F,T,F,F] rfl rfl rfl rfl (two_of HT_.out (by kernel_rfl)) (by decide) (by decide) (fun K hK => ?_) (fun K hK => ?_)
    ·skip
     refine goes_ Try.func16 (by kernel_rfl) rfl #[.agg #[.int .i64 x1, .int .i64 x2, .slice Ax2 x3.length capx2, .slice Ax3 x4.length capx3], .agg #[.int .i64 y1, .int .i64 y2, .slice Ay2 y3.length capy2, .slice Ay3 y4.length capy3]] (by rfl) rfl rfl (by (try simp only [List.map_toArray, List.map_cons, List.map_nil]); first | done | rfl | (simp only [List.length_drop, List.length_take]; rfl)) ?_
     with_reducible refine (spec_MeetGrammars.calls k x1 x2 _ _ x3 _ _ x4 y1 y2 _ _ y3 _ _ y4 s1 s2 s3 s4 g5 _ (Kd.R_reads' Hx2.out).2.2 (Kd.R_reads' Hx2.out).2.1 (Kd.R_reads' Hx3.out).2.2 (Kd.R_reads' Hx3.out).2.1 (Kd.R_reads' Hy2.out).2.2 (Kd.R_reads' Hy2.out).2.1 (Kd.R_reads' Hy3.out).2.2 (Kd.R_reads' Hy3.out).2.1 ES.out).mono ?_
     rintro e_ z_ ⟨v2_, v3_, rfl, h2, h3, hb⟩
     refine ⟨_, rfl, ?_⟩
     have HO2 := Aside0.mk (rL h2 (bZ (bP HB.out HU.out)))
     have HO3 := Aside0.mk (rL h3 (bZ (bP HB.out HU.out)))
     replace Hx2 := Aside0.mk (rB Hx2.out hb)
     replace Hx3 := Aside0.mk (rB Hx3.out hb)
     replace Hy2 := Aside0.mk (rB Hy2.out hb)
     replace Hy3 := Aside0.mk (rB Hy3.out hb)
     replace HU := Aside0.mk (bP HU.out hb)
     clear hb h2 h3
     refine hK.out _ _ ⟨kB HA.out.here.1 HU.out, kB HA.out.here.2 HU.out⟩ (fun _ => ?_)
     clear hK K
     refine norm_ (a' := ?_) ?_ ?_
     rotate_left
     ·show Act.put _ (some 32) _ = _
      simp only [Act.put, sI, sZ, sS, iW, jW]
      rfl
     refine pure_ (i := 5) (N := some 27) (v := ?_) (a' := ?_) #[T,T,T,T,T,T,F,F,F,F,F] rfl rfl (aO HT_.out (by kernel_rfl)) (fun _ _ _ h => h) (Or.inl ⟨by rfl, ?_⟩) ?_ ?_
     rotate_left
     ·intro z_
      go_simp
      with_reducible rfl
     rotate_left
     ·simp only [Act.put, sI, sZ, sS, iW, jW]
      rfl
     refine pure_ (i := 6) (N := some 33) (v := ?_) (a' := ?_) #[T,T,T,T,T,T,T,F,F,F,F] rfl rfl (aO HT_.out (by kernel_rfl)) (fun _ _ _ h => h) (Or.inl ⟨by rfl, ?_⟩) ?_ ?_
     rotate_left
     ·intro z_
      go_simp
      with_reducible rfl
     rotate_left
     ·simp only [Act.put, sI, sZ, sS, iW, jW]
      rfl
     refine pure_ (i := 7) (N := some 34) (v := ?_) (a' := ?_) #[T,T,T,T,T,T,T,T,F,F,F] rfl rfl (aO HT_.out (by kernel_rfl)) (fun _ _ _ h => h) (Or.inl ⟨by rfl, ?_⟩) ?_ ?_
     rotate_left
     ·intro z_
      go_simp
      with_reducible rfl
     rotate_left
     ·simp only [Act.put, sI, sZ, sS, iW, jW]
      rfl
     refine one_ (i := 8) (N := some 6) #[T,T,T,T,T,T,T,T,T,F,F] rfl rfl (oO HT_.out (by kernel_rfl)) (by decide) (fun K hK => ?_)
     refine box_step ?hg (N := 6) ?hd (cs := #[.int .i64 0, .int .i64 0, .slice none 0 0, .slice none 0 0]) (t := 39) ?hr ?_; (case hd => rfl); (case hg => rfl); (case hr => first | (go_simp; done) | (go_simp; rfl))
     intro go hg_ z_ hbox hb
     replace Hx2 := Aside0.mk (rB Hx2.out hb)
     replace Hx3 := Aside0.mk (rB Hx3.out hb)
     replace Hy2 := Aside0.mk (rB Hy2.out hb)
     replace Hy3 := Aside0.mk (rB Hy3.out hb)
     replace HO2 := Aside0.mk (rB HO2.out hb)
     replace HO3 := Aside0.mk (rB HO3.out hb)
     have HZ := Aside0.mk hbox
     have GZ := Aside0.mk (show u.heap.size ≤ go by rw [hg_]; exact bZ HU.out)
     clear hbox hg_
     replace HU := Aside0.mk (bP HU.out hb)
     clear hb
     refine hK.out _ _ ⟨kB HA.out.here.1 HU.out, kB HA.out.here.2 HU.out⟩ (fun _ => ?_)
     clear hK K
     refine norm_ (a' := ?_) ?_ ?_
     rotate_left
     ·show Act.put _ (some 6) _ = _
      simp only [Act.put, sI, sZ, sS, iW, jW]
      rfl
     exact norm_ (by simp only [putAll, Act.put, sI, sZ, sS]) (hCont (.slice Ax2 x3.length capx2, .slice Ax3 x4.length capx3, .slice Ay2 y3.length capy2, .slice Ay3 y4.length capy3, v2_, v3_, go) _ ⟨HU.out, HO2.out, HO3.out, HZ.out, GZ.out⟩)
    ·skip
     refine box_step ?hg (N := 6) ?hd (cs := #[.int .i64 0, .int .i64 0, .slice none 0 0, .slice none 0 0]) (t := 39) ?hr ?_; (case hd => rfl); (case hg => rfl); (case hr => first | (go_simp; done) | (go_simp; rfl))
     intro go hg_ z_ hbox hb
     replace Hx2 := Aside0.mk (rB Hx2.out hb)
     replace Hx3 := Aside0.mk (rB Hx3.out hb)
     replace Hy2 := Aside0.mk (rB Hy2.out hb)
     replace Hy3 := Aside0.mk (rB Hy3.out hb)
     have HZ := Aside0.mk hbox
     have GZ := Aside0.mk (show u.heap.size ≤ go by rw [hg_]; exact bZ HU.out)
     clear hbox hg_
     replace HU := Aside0.mk (bP HU.out hb)
     clear hb
     refine hK.out _ _ ⟨kB HA.out.here.1 HU.out, kB HA.out.here.2 HU.out⟩ (fun _ => ?_)
     clear hK K
     refine norm_ (a' := ?_) ?_ ?_
     rotate_left
     ·show Act.put _ (some 6) _ = _
      simp only [Act.put, sI, sZ, sS, iW, jW]
      rfl
     refine one_ (i := 4) (N := some 32) #[T,T,T,T,T,F,F,F,T,F,F] rfl rfl (oO HT_.out (by kernel_rfl)) (by decide) (fun K hK => ?_)
     refine goes_ Try.func16 (by kernel_rfl) rfl #[.agg #[.int .i64 x1, .int .i64 x2, .slice Ax2 x3.length capx2, .slice Ax3 x4.length capx3], .agg #[.int .i64 y1, .int .i64 y2, .slice Ay2 y3.length capy2, .slice Ay3 y4.length capy3]] (by rfl) rfl rfl (by (try simp only [List.map_toArray, List.map_cons, List.map_nil]); first | done | rfl | (simp only [List.length_drop, List.length_take]; rfl)) ?_
     with_reducible refine (spec_MeetGrammars.calls k x1 x2 _ _ x3 _ _ x4 y1 y2 _ _ y3 _ _ y4 s1 s2 s3 s4 g5 _ (Kd.R_reads' Hx2.out).2.2 (Kd.R_reads' Hx2.out).2.1 (Kd.R_reads' Hx3.out).2.2 (Kd.R_reads' Hx3.out).2.1 (Kd.R_reads' Hy2.out).2.2 (Kd.R_reads' Hy2.out).2.1 (Kd.R_reads' Hy3.out).2.2 (Kd.R_reads' Hy3.out).2.1 ES.out).mono ?_
     rintro e_ z_ ⟨v2_, v3_, rfl, h2, h3, hb⟩
     refine ⟨_, rfl, ?_⟩
     have HO2 := Aside0.mk (rL h2 (bZ (bP HB.out HU.out)))
     have HO3 := Aside0.mk (rL h3 (bZ (bP HB.out HU.out)))
     replace Hx2 := Aside0.mk (rB Hx2.out hb)
     replace Hx3 := Aside0.mk (rB Hx3.out hb)
     replace Hy2 := Aside0.mk (rB Hy2.out hb)
     replace Hy3 := Aside0.mk (rB Hy3.out hb)
     replace HZ := Aside0.mk (kB HZ.out hb)
     replace HU := Aside0.mk (bP HU.out hb)
     clear hb h2 h3
     refine hK.out _ _ ⟨kB HA.out.here.1 HU.out, kB HA.out.here.2 HU.out⟩ (fun _ => ?_)
     clear hK K
     refine norm_ (a' := ?_) ?_ ?_
     rotate_left
     ·show Act.put _ (some 32) _ = _
      simp only [Act.put, sI, sZ, sS, iW, jW]
      rfl
     refine pure_ (i := 5) (N := some 27) (v := ?_) (a' := ?_) #[T,T,T,T,T,T,F,F,T,F,F] rfl rfl (aO HT_.out (by kernel_rfl)) (fun _ _ _ h => h) (Or.inl ⟨by rfl, ?_⟩) ?_ ?_
     rotate_left
     ·intro z_
      go_simp
      with_reducible rfl
     rotate_left
     ·simp only [Act.put, sI, sZ, sS, iW, jW]
      rfl
     refine pure_ (i := 6) (N := some 33) (v := ?_) (a' := ?_) #[T,T,T,T,T,T,T,F,T,F,F] rfl rfl (aO HT_.out (by kernel_rfl)) (fun _ _ _ h => h) (Or.inl ⟨by rfl, ?_⟩) ?_ ?_
     rotate_left
     ·intro z_
      go_simp
      with_reducible rfl
     rotate_left
     ·simp only [Act.put, sI, sZ, sS, iW, jW]
      rfl
     refine pure_ (i := 7) (N := some 34) (v := ?_) (a' := ?_) #[T,T,T,T,T,T,T,T,T,F,F] rfl rfl (aO HT_.out (by kernel_rfl)) (fun _ _ _ h => h) (Or.inl ⟨by rfl, ?_⟩) ?_ ?_
     rotate_left
     ·intro z_
      go_simp
      with_reducible rfl
     rotate_left
     ·simp only [Act.put, sI, sZ, sS, iW, jW]
      rfl
     exact norm_ (by simp only [putAll, Act.put, sI, sZ, sS]) (hCont (.slice Ax2 x3.length capx2, .slice Ax3 x4.length capx3, .slice Ay2 y3.length capy2, .slice Ay3 y4.length capy3, v2_, v3_, go) _ ⟨HU.out, HO2.out, HO3.out, HZ.out, GZ.out⟩)
   ·skip
    refine box_step ?hg (N := 6) ?hd (cs := #[.int .i64 0, .int .i64 0, .slice none 0 0, .slice none 0 0]) (t := 39) ?hr ?_; (case hd => rfl); (case hg => rfl); (case hr => first | (go_simp; done) | (go_simp; rfl))
    intro go hg_ z_ hbox hb
    replace Hx2 := Aside0.mk (rB Hx2.out hb)
    replace Hx3 := Aside0.mk (rB Hx3.out hb)
    have HZ := Aside0.mk hbox
    have GZ := Aside0.mk (show u.heap.size ≤ go by rw [hg_]; exact bZ HU.out)
    clear hbox hg_
    replace HU := Aside0.mk (bP HU.out hb)
    clear hb
    refine hK.out _ _ ⟨kB HA.out.here.1 HU.out, kB HA.out.here.2 HU.out⟩ (fun _ => ?_)
    clear hK K
    refine norm_ (a' := ?_) ?_ ?_
    rotate_left
    ·show Act.put _ (some 6) _ = _
     simp only [Act.put, sI, sZ, sS, iW, jW]
     rfl
    refine one_ (i := 3) (N := some 31) #[T,T,T,T,F,F,F,F,T,F,F] rfl rfl (oO HT_.out (by kernel_rfl)) (by decide) (fun K hK => ?_)
    refine goes_ Try.func17 (by kernel_rfl) rfl #[.agg #[.int .i64 a1_0, .int .i64 a1_1, .slice A1_2 l1_2.length c1_2, .slice A1_3 l1_3.length c1_3]] (by rfl) rfl rfl (by (try simp only [List.map_toArray, List.map_cons, List.map_nil]); first | done | rfl | (simp only [List.length_drop, List.length_take]; rfl)) ?_
    with_reducible refine (laws_toGrammar.calls k a1_0 a1_1 _ _ l1_2 _ _ l1_3 y1 y2 y3 y4 _ (cB HR1_2.out (bP HB.out HU.out)) HC1_2.out (cB HR1_3.out (bP HB.out HU.out)) HC1_3.out EY.out).mono ?_
    rintro e_ z_ ⟨v2_, v3_, rfl, h2, h3, hb⟩
    refine ⟨_, rfl, ?_⟩
    obtain ⟨Ay2, capy2, rfl⟩ := Kd.R_slice h2
    obtain ⟨Ay3, capy3, rfl⟩ := Kd.R_slice h3
    replace Hx2 := Aside0.mk (rB Hx2.out hb)
    replace Hx3 := Aside0.mk (rB Hx3.out hb)
    replace HZ := Aside0.mk (kB HZ.out hb)
    have Hy2 := Aside0.mk h2
    have Hy3 := Aside0.mk h3
    replace HU := Aside0.mk (bP HU.out hb)
    clear hb h2 h3
    refine hK.out _ _ ⟨kB HA.out.here.1 HU.out, kB HA.out.here.2 HU.out⟩ (fun _ => ?_)
    clear hK K
    refine norm_ (a' := ?_) ?_ ?_
    rotate_left
    ·show Act.put _ (some 31) _ = _
     simp only [Act.put, sI, sZ, sS, iW, jW]
     rfl
    refine one_ (i := 4) (N := some 32) #[T,T,T,T,T,F,F,F,T,F,F] rfl rfl (oO HT_.out (by kernel_rfl)) (by decide) (fun K hK => ?_)
    refine goes_ Try.func16 (by kernel_rfl) rfl #[.agg #[.int .i64 x1, .int .i64 x2, .slice Ax2 x3.length capx2, .slice Ax3 x4.length capx3], .agg #[.int .i64 y1, .int .i64 y2, .slice Ay2 y3.length capy2, .slice Ay3 y4.length capy3]] (by rfl) rfl rfl (by (try simp only [List.map_toArray, List.map_cons, List.map_nil]); first | done | rfl | (simp only [List.length_drop, List.length_take]; rfl)) ?_
    with_reducible refine (spec_MeetGrammars.calls k x1 x2 _ _ x3 _ _ x4 y1 y2 _ _ y3 _ _ y4 s1 s2 s3 s4 g5 _ (Kd.R_reads' Hx2.out).2.2 (Kd.R_reads' Hx2.out).2.1 (Kd.R_reads' Hx3.out).2.2 (Kd.R_reads' Hx3.out).2.1 (Kd.R_reads' Hy2.out).2.2 (Kd.R_reads' Hy2.out).2.1 (Kd.R_reads' Hy3.out).2.2 (Kd.R_reads' Hy3.out).2.1 ES.out).mono ?_
    rintro e_ z_ ⟨v2_, v3_, rfl, h2, h3, hb⟩
    refine ⟨_, rfl, ?_⟩
    have HO2 := Aside0.mk (rL h2 (bZ (bP HB.out HU.out)))
    have HO3 := Aside0.mk (rL h3 (bZ (bP HB.out HU.out)))
    replace Hx2 := Aside0.mk (rB Hx2.out hb)
    replace Hx3 := Aside0.mk (rB Hx3.out hb)
    replace HZ := Aside0.mk (kB HZ.out hb)
    replace Hy2 := Aside0.mk (rB Hy2.out hb)
    replace Hy3 := Aside0.mk (rB Hy3.out hb)
    replace HU := Aside0.mk (bP HU.out hb)
    clear hb h2 h3
    refine hK.out _ _ ⟨kB HA.out.here.1 HU.out, kB HA.out.here.2 HU.out⟩ (fun _ => ?_)
    clear hK K
    refine norm_ (a' := ?_) ?_ ?_
    rotate_left
    ·show Act.put _ (some 32) _ = _
     simp only [Act.put, sI, sZ, sS, iW, jW]
     rfl
    refine pure_ (i := 5) (N := some 27) (v := ?_) (a' := ?_) #[T,T,T,T,T,T,F,F,T,F,F] rfl rfl (aO HT_.out (by kernel_rfl)) (fun _ _ _ h => h) (Or.inl ⟨by rfl, ?_⟩) ?_ ?_
    rotate_left
    ·intro z_
     go_simp
     with_reducible rfl
    rotate_left
    ·simp only [Act.put, sI, sZ, sS, iW, jW]
     rfl
    refine pure_ (i := 6) (N := some 33) (v := ?_) (a' := ?_) #[T,T,T,T,T,T,T,F,T,F,F] rfl rfl (aO HT_.out (by kernel_rfl)) (fun _ _ _ h => h) (Or.inl ⟨by rfl, ?_⟩) ?_ ?_
    rotate_left
    ·intro z_
     go_simp
     with_reducible rfl
    rotate_left
    ·simp only [Act.put, sI, sZ, sS, iW, jW]
     rfl
    refine pure_ (i := 7) (N := some 34) (v := ?_) (a' := ?_) #[T,T,T,T,T,T,T,T,T,F,F] rfl rfl (aO HT_.out (by kernel_rfl)) (fun _ _ _ h => h) (Or.inl ⟨by rfl, ?_⟩) ?_ ?_
    rotate_left
    ·intro z_
     go_simp
     with_reducible rfl
    rotate_left
    ·simp only [Act.put, sI, sZ, sS, iW, jW]
     rfl
    exact norm_ (by simp only [putAll, Act.put, sI, sZ, sS]) (hCont (.slice Ax2 x3.length capx2, .slice Ax3 x4.length capx3, .slice Ay2 y3.length capy2, .slice Ay3 y4.length capy3, v2_, v3_, go) _ ⟨HU.out, HO2.out, HO3.out, HZ.out, GZ.out⟩)
  ·skip
   refine box_step ?hg (N := 6) ?hd (cs := #[.int .i64 0, .int .i64 0, .slice none 0 0, .slice none 0 0]) (t := 39) ?hr ?_; (case hd => rfl); (case hg => rfl); (case hr => first | (go_simp; done) | (go_simp; rfl))
   intro go hg_ z_ hbox hb
   have HZ := Aside0.mk hbox
   have GZ := Aside0.mk (show u.heap.size ≤ go by rw [hg_]; exact bZ HU.out)
   clear hbox hg_
   replace HU := Aside0.mk (bP HU.out hb)
   clear hb
   refine hK.out _ _ ⟨kB HA.out.here.1 HU.out, kB HA.out.here.2 HU.out⟩ (fun _ => ?_)
   clear hK K
   refine norm_ (a' := ?_) ?_ ?_
   rotate_left
   ·show Act.put _ (some 6) _ = _
    simp only [Act.put, sI, sZ, sS, iW, jW]
    rfl
   refine one_ (i := 1) (N := some 29) #[T,T,T,F,F,F,F,F,T,F,F] rfl rfl (oO HT_.out (by kernel_rfl)) (by decide) (fun K hK => ?_)
   refine goes_ Try.func17 (by kernel_rfl) rfl #[.agg #[.int .i64 a0_0, .int .i64 a0_1, .slice A0_2 l0_2.length c0_2, .slice A0_3 l0_3.length c0_3]] (by rfl) rfl rfl (by (try simp only [List.map_toArray, List.map_cons, List.map_nil]); first | done | rfl | (simp only [List.length_drop, List.length_take]; rfl)) ?_
   with_reducible refine (laws_toGrammar.calls k a0_0 a0_1 _ _ l0_2 _ _ l0_3 x1 x2 x3 x4 _ (cB HR0_2.out (bP HB.out HU.out)) HC0_2.out (cB HR0_3.out (bP HB.out HU.out)) HC0_3.out EX.out).mono ?_
   rintro e_ z_ ⟨v2_, v3_, rfl, h2, h3, hb⟩
   refine ⟨_, rfl, ?_⟩
   obtain ⟨Ax2, capx2, rfl⟩ := Kd.R_slice h2
   obtain ⟨Ax3, capx3, rfl⟩ := Kd.R_slice h3
   replace HZ := Aside0.mk (kB HZ.out hb)
   have Hx2 := Aside0.mk h2
   have Hx3 := Aside0.mk h3
   replace HU := Aside0.mk (bP HU.out hb)
   clear hb h2 h3
   refine hK.out _ _ ⟨kB HA.out.here.1 HU.out, kB HA.out.here.2 HU.out⟩ (fun _ => ?_)
   clear hK K
   refine norm_ (a' := ?_) ?_ ?_
   rotate_left
   ·show Act.put _ (some 29) _ = _
    simp only [Act.put, sI, sZ, sS, iW, jW]
    rfl
   refine one_ (i := 3) (N := some 31) #[T,T,T,T,F,F,F,F,T,F,F] rfl rfl (oO HT_.out (by kernel_rfl)) (by decide) (fun K hK => ?_)
   refine goes_ Try.func17 (by kernel_rfl) rfl #[.agg #[.int .i64 a1_0, .int .i64 a1_1, .slice A1_2 l1_2.length c1_2, .slice A1_3 l1_3.length c1_3]] (by rfl) rfl rfl (by (try simp only [List.map_toArray, List.map_cons, List.map_nil]); first | done | rfl | (simp only [List.length_drop, List.length_take]; rfl)) ?_
   with_reducible refine (laws_toGrammar.calls k a1_0 a1_1 _ _ l1_2 _ _ l1_3 y1 y2 y3 y4 _ (cB HR1_2.out (bP HB.out HU.out)) HC1_2.out (cB HR1_3.out (bP HB.out HU.out)) HC1_3.out EY.out).mono ?_
   rintro e_ z_ ⟨v2_, v3_, rfl, h2, h3, hb⟩
   refine ⟨_, rfl, ?_⟩
   obtain ⟨Ay2, capy2, rfl⟩ := Kd.R_slice h2
   obtain ⟨Ay3, capy3, rfl⟩ := Kd.R_slice h3
   replace HZ := Aside0.mk (kB HZ.out hb)
   replace Hx2 := Aside0.mk (rB Hx2.out hb)
   replace Hx3 := Aside0.mk (rB Hx3.out hb)
   have Hy2 := Aside0.mk h2
   have Hy3 := Aside0.mk h3
   replace HU := Aside0.mk (bP HU.out hb)
   clear hb h2 h3
   refine hK.out _ _ ⟨kB HA.out.here.1 HU.out, kB HA.out.here.2 HU.out⟩ (fun _ => ?_)
   clear hK K
   refine norm_ (a' := ?_) ?_ ?_
   rotate_left
   ·show Act.put _ (some 31) _ = _
    simp only [Act.put, sI, sZ, sS, iW, jW]
    rfl
   refine one_ (i := 4) (N := some 32) #[T,T,T,T,T,F,F,F,T,F,F] rfl rfl (oO HT_.out (by kernel_rfl)) (by decide) (fun K hK => ?_)
   refine goes_ Try.func16 (by kernel_rfl) rfl #[.agg #[.int .i64 x1, .int .i64 x2, .slice Ax2 x3.length capx2, .slice Ax3 x4.length capx3], .agg #[.int .i64 y1, .int .i64 y2, .slice Ay2 y3.length capy2, .slice Ay3 y4.length capy3]] (by rfl) rfl rfl (by (try simp only [List.map_toArray, List.map_cons, List.map_nil]); first | done | rfl | (simp only [List.length_drop, List.length_take]; rfl)) ?_
   with_reducible refine (spec_MeetGrammars.calls k x1 x2 _ _ x3 _ _ x4 y1 y2 _ _ y3 _ _ y4 s1 s2 s3 s4 g5 _ (Kd.R_reads' Hx2.out).2.2 (Kd.R_reads' Hx2.out).2.1 (Kd.R_reads' Hx3.out).2.2 (Kd.R_reads' Hx3.out).2.1 (Kd.R_reads' Hy2.out).2.2 (Kd.R_reads' Hy2.out).2.1 (Kd.R_reads' Hy3.out).2.2 (Kd.R_reads' Hy3.out).2.1 ES.out).mono ?_
   rintro e_ z_ ⟨v2_, v3_, rfl, h2, h3, hb⟩
   refine ⟨_, rfl, ?_⟩
   have HO2 := Aside0.mk (rL h2 (bZ (bP HB.out HU.out)))
   have HO3 := Aside0.mk (rL h3 (bZ (bP HB.out HU.out)))
   replace HZ := Aside0.mk (kB HZ.out hb)
   replace Hx2 := Aside0.mk (rB Hx2.out hb)
   replace Hx3 := Aside0.mk (rB Hx3.out hb)
   replace Hy2 := Aside0.mk (rB Hy2.out hb)
   replace Hy3 := Aside0.mk (rB Hy3.out hb)
   replace HU := Aside0.mk (bP HU.out hb)
   clear hb h2 h3
   refine hK.out _ _ ⟨kB HA.out.here.1 HU.out, kB HA.out.here.2 HU.out⟩ (fun _ => ?_)
   clear hK K
   refine norm_ (a' := ?_) ?_ ?_
   rotate_left
   ·show Act.put _ (some 32) _ = _
    simp only [Act.put, sI, sZ, sS, iW, jW]
    rfl
   refine pure_ (i := 5) (N := some 27) (v := ?_) (a' := ?_) #[T,T,T,T,T,T,F,F,T,F,F] rfl rfl (aO HT_.out (by kernel_rfl)) (fun _ _ _ h => h) (Or.inl ⟨by rfl, ?_⟩) ?_ ?_
   rotate_left
   ·intro z_
    go_simp
    with_reducible rfl
   rotate_left
   ·simp only [Act.put, sI, sZ, sS, iW, jW]
    rfl
   refine pure_ (i := 6) (N := some 33) (v := ?_) (a' := ?_) #[T,T,T,T,T,T,T,F,T,F,F] rfl rfl (aO HT_.out (by kernel_rfl)) (fun _ _ _ h => h) (Or.inl ⟨by rfl, ?_⟩) ?_ ?_
   rotate_left
   ·intro z_
    go_simp
    with_reducible rfl
   rotate_left
   ·simp only [Act.put, sI, sZ, sS, iW, jW]
    rfl
   refine pure_ (i := 7) (N := some 34) (v := ?_) (a' := ?_) #[T,T,T,T,T,T,T,T,T,F,F] rfl rfl (aO HT_.out (by kernel_rfl)) (fun _ _ _ h => h) (Or.inl ⟨by rfl, ?_⟩) ?_ ?_
   rotate_left
   ·intro z_
    go_simp
    with_reducible rfl
   rotate_left
   ·simp only [Act.put, sI, sZ, sS, iW, jW]
    rfl
   exact norm_ (by simp only [putAll, Act.put, sI, sZ, sS]) (hCont (.slice Ax2 x3.length capx2, .slice Ax3 x4.length capx3, .slice Ay2 y3.length capy2, .slice Ay3 y4.length capy3, v2_, v3_, go) _ ⟨HU.out, HO2.out, HO3.out, HZ.out, GZ.out⟩)
 rintro ⟨w1_, w2_, w3_, w4_, w5_, w6_, gs⟩ u1 ⟨hu, h2, h3, hz, hge⟩
 obtain ⟨As2, caps2, e2_⟩ := Kd.R_slice h2
 obtain ⟨As3, caps3, e3_⟩ := Kd.R_slice h3
 dsimp only at e2_ e3_ h2 h3 hz hge
 subst e2_ e3_
 refine norm_ (a' := ?_) ?_ ?_
 rotate_left
 ·simp only [putAll, Act.put, sI, sZ, sS]
  rfl
 refine one_ (i := 9) (N := none) #[T,T,T,T,T,T,T,T,T,T,F] rfl rfl (oO HT_.out (by kernel_rfl)) (by decide) (fun K hK => ?_)
 have cs0 : (u1).cell? ⟨gs, 0, none⟩ = some (.int .i64 0) := (kC hz 0).trans rfl
 have fs0 := blk_frozen hz 0
 have cs1 : (u1).cell? ⟨gs, 1, none⟩ = some (.int .i64 0) := (kC hz 1).trans rfl
 have fs1 := blk_frozen hz 1
 have cs2 : (u1).cell? ⟨gs, 2, none⟩ = some (.slice none 0 0) := (kC hz 2).trans rfl
 have fs2 := blk_frozen hz 2
 have cs3 : (u1).cell? ⟨gs, 3, none⟩ = some (.slice none 0 0) := (kC hz 3).trans rfl
 have fs3 := blk_frozen hz 3
 refine skipE (w1 := ((((u1.setCell ⟨gs, 0, none⟩ (.int .i64 s1)).setCell ⟨gs, 1, none⟩ (.int .i64 s2)).setCell ⟨gs, 2, none⟩ (.slice As2 s3.length caps2)).setCell ⟨gs, 3, none⟩ (.slice As3 s4.length caps3))) (by rfl) rfl ?hr (fun u2 hw_ => ?_)
 case hr => first | (go_simp; done) | (go_simp; rfl)
 clear cs0 fs0 cs1 fs1 cs2 fs2 cs3 fs3
 obtain ⟨hz2, hk2⟩ := put4 hz hw_
 have h22 := r_put4 h2 hz (by decide) hw_
 have h32 := r_put4 h3 hz (by decide) hw_
 have hb2 := below_put4 (bP HB.out hu) (Nat.le_trans (bZ HB.out) hge) hw_
 replace HA := Aside0.mk (Live.kept (Live.below HA.out hu) hk2 (fun k_ _ h_ => by have := HA.out.size; omega))
 replace HB := Aside0.mk hb2
 clear hw_ hk2 h2 h3 hz hu hb2 HU hHeld
 refine hK.out _ _ ⟨HA.out.here.1, HA.out.here.2⟩ (fun _ => ?_)
 clear hK K
 refine pure_ (i := 10) (N := some 7) (v := ?_) (a' := ?_) #[T,T,T,T,T,T,T,T,T,T,T] rfl rfl (aO HT_.out (by kernel_rfl)) (fun _ _ _ h => h) (Or.inl ⟨by rfl, ?_⟩) ?_ ?_
 rotate_left
 ·intro z_
  go_simp
  with_reducible rfl
 rotate_left
 ·simp only [Act.put, sI, sZ, sS, iW, jW]
  rfl
 refine done_ (done_of HT_.out (by kernel_rfl)) ?_
 clear HT_ HW_
 have HQ := Aside0.mk (live_and (HA.out.wider (Nat.le_of_lt (Nat.lt_of_le_of_lt hge (kL hz2))) (Nat.le_refl _)) (live_and (live_blk hz2) (live_and (live_R h22 (Nat.le_refl _) (Nat.zero_le _)) (live_R h32 (Nat.le_refl _) (Nat.zero_le _)))))
 clear HA hge hz2 h22 h32 ES
 have HA := HQ
 clear HQ
 have ca0 : (u2).cell? ⟨ga, 0, none⟩ = some (.int .i64 a0_0) := (kC HA.out.here.1.1 0).trans rfl
 have fa0 := blk_frozen HA.out.here.1.1 0
 have ca1 : (u2).cell? ⟨ga, 1, none⟩ = some (.int .i64 a0_1) := (kC HA.out.here.1.1 1).trans rfl
 have fa1 := blk_frozen HA.out.here.1.1 1
 have ca2 : (u2).cell? ⟨ga, 2, none⟩ = some (.slice A0_2 l0_2.length c0_2) := (kC HA.out.here.1.1 2).trans rfl
 have fa2 := blk_frozen HA.out.here.1.1 2
 have ca3 : (u2).cell? ⟨ga, 3, none⟩ = some (.slice A0_3 l0_3.length c0_3) := (kC HA.out.here.1.1 3).trans rfl
 have fa3 := blk_frozen HA.out.here.1.1 3
 go_wp2_with (first | ((with_reducible refine gC (f := 17) rfl ?_); refine goesL_ (some 36) rfl rfl Try.func17 (by kernel_rfl) rfl #[.agg #[.int .i64 a0_0, .int .i64 a0_1, .slice A0_2 l0_2.length c0_2, .slice A0_3 l0_3.length c0_3]] rfl (by (try simp only [List.map_toArray, List.map_cons, List.map_nil]); first | done | rfl | (simp only [List.length_drop, List.length_take]; rfl)) ?_; (with_reducible refine (laws_toGrammar.calls k a0_0 a0_1 _ _ l0_2 _ _ l0_3 x1 x2 x3 x4 _ (cB HR0_2.out (by repeat (first | exact HB.out | apply bN | apply bD | apply bA))) HC0_2.out (cB HR0_3.out (by repeat (first | exact HB.out | apply bN | apply bD | apply bA))) HC0_3.out EX.out).mono ?_); rintro e p1 ⟨v2_, v3_, rfl, h2, h3, hb⟩; refine ⟨_, rfl, ?_⟩; clear ca0 fa0 ca1 fa1 ca2 fa2 ca3 fa3; obtain ⟨Ax2, capx2, rfl⟩ := Kd.R_slice h2; obtain ⟨Ax3, capx3, rfl⟩ := Kd.R_slice h3; replace HA := Aside0.mk (HA.out.below hb); have Hx2 := Aside0.mk h2; have Hx3 := Aside0.mk h3; have HP := Aside0.mk hb; clear h2 h3 hb) | ((with_reducible refine gate_dst (N := 8) rfl ?_); refine bE ?hg (N := 8) ?hd (cs := #[.int .i64 0, .int .i64 0, .slice none 0 0, .slice none 0 0]) (t := 39) ?hr ?_; (case hd => rfl); (case hg => rfl); (case hr => first | (go_simp; done) | (go_simp; rfl)); intro gx hg_ p2 hbox hb; have HZ := Aside0.mk hbox; have HG_ := Aside0.mk hg_; have HP2 := Aside0.mk hb; clear hg_ hb; have cs0 : (p2).cell? ⟨gx, 0, none⟩ = some (.int .i64 0) := (kC hbox 0).trans rfl; have fs0 := blk_frozen hbox 0; have cs1 : (p2).cell? ⟨gx, 1, none⟩ = some (.int .i64 0) := (kC hbox 1).trans rfl; have fs1 := blk_frozen hbox 1; have cs2 : (p2).cell? ⟨gx, 2, none⟩ = some (.slice none 0 0) := (kC hbox 2).trans rfl; have fs2 := blk_frozen hbox 2; have cs3 : (p2).cell? ⟨gx, 3, none⟩ = some (.slice none 0 0) := (kC hbox 3).trans rfl; have fs3 := blk_frozen hbox 3; clear hbox) | ((with_reducible refine gate_store (t := 39) (p := 8) rfl ?_); refine store_event (t := 39) (p := 8) (v := ?vo_p3) (w1 := ((((p2.setCell ⟨gx, 0, none⟩ (.int .i64 x1)).setCell ⟨gx, 1, none⟩ (.int .i64 x2)).setCell ⟨gx, 2, none⟩ (.slice Ax2 x3.length capx2)).setCell ⟨gx, 3, none⟩ (.slice Ax3 x4.length capx3))) ?hg ?ho ?hn ?hr ?_; (case ho => rfl); (case hg => rfl); (case hn => rfl); (case hr => first | (go_simp; done) | (go_simp; rfl)); intro p3 hw_; clear cs0 fs0 cs1 fs1 cs2 fs2 cs3 fs3; obtain ⟨hz2, hk2⟩ := put4 HZ.out hw_; have hb2 := below_put4 HP2.out (Nat.le_of_eq HG_.out.symm) hw_; have HX := Aside0.mk (live_and (live_blk_at hz2 (show u2.heap.size ≤ gx by rw [HG_.out]; exact bZ HP.out)) (live_and (((live_R Hx2.out (bZ HB.out) (Nat.le_refl _)).below hb2).wider (bZ hb2) (Nat.le_refl _)) (((live_R Hx3.out (bZ HB.out) (Nat.le_refl _)).below hb2).wider (bZ hb2) (Nat.le_refl _)))); replace HB := Aside0.mk (bP HB.out (bP HP.out hb2)); replace HA := Aside0.mk (HA.out.below hb2); have LHX := Aside0.mk (show u2.heap.size ≤ p3.heap.size from bZ (bP HP.out hb2)); have MHX := Aside0.mk (show p1.heap.size ≤ p3.heap.size from bZ hb2); have NHX := Aside0.mk (show p1.heap.size ≤ gx from Nat.le_of_eq HG_.out.symm); clear HZ HG_ HP2 HP Hx2 Hx3 hw_ hz2 hk2 hb2; have cb0 : (p3).cell? ⟨gb, 0, none⟩ = some (.int .i64 a1_0) := (kC HA.out.here.1.2 0).trans rfl; have fb0 := blk_frozen HA.out.here.1.2 0; have cb1 : (p3).cell? ⟨gb, 1, none⟩ = some (.int .i64 a1_1) := (kC HA.out.here.1.2 1).trans rfl; have fb1 := blk_frozen HA.out.here.1.2 1; have cb2 : (p3).cell? ⟨gb, 2, none⟩ = some (.slice A1_2 l1_2.length c1_2) := (kC HA.out.here.1.2 2).trans rfl; have fb2 := blk_frozen HA.out.here.1.2 2; have cb3 : (p3).cell? ⟨gb, 3, none⟩ = some (.slice A1_3 l1_3.length c1_3) := (kC HA.out.here.1.2 3).trans rfl; have fb3 := blk_frozen HA.out.here.1.2 3) | ((with_reducible refine gC (f := 17) rfl ?_); refine goesL_ (some 38) rfl rfl Try.func17 (by kernel_rfl) rfl #[.agg #[.int .i64 a1_0, .int .i64 a1_1, .slice A1_2 l1_2.length c1_2, .slice A1_3 l1_3.length c1_3]] rfl (by (try simp only [List.map_toArray, List.map_cons, List.map_nil]); first | done | rfl | (simp only [List.length_drop, List.length_take]; rfl)) ?_; (with_reducible refine (laws_toGrammar.calls k a1_0 a1_1 _ _ l1_2 _ _ l1_3 y1 y2 y3 y4 _ (cB HR1_2.out (by repeat (first | exact HB.out | apply bN | apply bD | apply bA))) HC1_2.out (cB HR1_3.out (by repeat (first | exact HB.out | apply bN | apply bD | apply bA))) HC1_3.out EY.out).mono ?_); rintro e q1 ⟨v2_, v3_, rfl, h2, h3, hb⟩; refine ⟨_, rfl, ?_⟩; clear cb0 fb0 cb1 fb1 cb2 fb2 cb3 fb3; obtain ⟨Ay2, capy2, rfl⟩ := Kd.R_slice h2; obtain ⟨Ay3, capy3, rfl⟩ := Kd.R_slice h3; replace HA := Aside0.mk (HA.out.below hb); replace HX := Aside0.mk (HX.out.below hb); have Hy2 := Aside0.mk h2; have Hy3 := Aside0.mk h3; have HP := Aside0.mk hb; clear h2 h3 hb) | ((with_reducible refine gate_dst (N := 9) rfl ?_); refine bE ?hg (N := 9) ?hd (cs := #[.int .i64 0, .int .i64 0, .slice none 0 0, .slice none 0 0]) (t := 39) ?hr ?_; (case hd => rfl); (case hg => rfl); (case hr => first | (go_simp; done) | (go_simp; rfl)); intro gy hg_ q2 hbox hb; have HZ := Aside0.mk hbox; have HG_ := Aside0.mk hg_; have HP2 := Aside0.mk hb; clear hg_ hb; have cs0 : (q2).cell? ⟨gy, 0, none⟩ = some (.int .i64 0) := (kC hbox 0).trans rfl; have fs0 := blk_frozen hbox 0; have cs1 : (q2).cell? ⟨gy, 1, none⟩ = some (.int .i64 0) := (kC hbox 1).trans rfl; have fs1 := blk_frozen hbox 1; have cs2 : (q2).cell? ⟨gy, 2, none⟩ = some (.slice none 0 0) := (kC hbox 2).trans rfl; have fs2 := blk_frozen hbox 2; have cs3 : (q2).cell? ⟨gy, 3, none⟩ = some (.slice none 0 0) := (kC hbox 3).trans rfl; have fs3 := blk_frozen hbox 3; clear hbox) | ((with_reducible refine gate_store (t := 39) (p := 9) rfl ?_); refine store_event (t := 39) (p := 9) (v := ?vo_q3) (w1 := ((((q2.setCell ⟨gy, 0, none⟩ (.int .i64 y1)).setCell ⟨gy, 1, none⟩ (.int .i64 y2)).setCell ⟨gy, 2, none⟩ (.slice Ay2 y3.length capy2)).setCell ⟨gy, 3, none⟩ (.slice Ay3 y4.length capy3))) ?hg ?ho ?hn ?hr ?_; (case ho => rfl); (case hg => rfl); (case hn => rfl); (case hr => first | (go_simp; done) | (go_simp; rfl)); intro q3 hw_; clear cs0 fs0 cs1 fs1 cs2 fs2 cs3 fs3; obtain ⟨hz2, hk2⟩ := put4 HZ.out hw_; have hb2 := below_put4 HP2.out (Nat.le_of_eq HG_.out.symm) hw_; have HY := Aside0.mk (live_and (live_blk_at hz2 (show p3.heap.size ≤ gy by rw [HG_.out]; exact bZ HP.out)) (live_and (((live_R Hy2.out (bZ HB.out) (Nat.le_refl _)).below hb2).wider (bZ hb2) (Nat.le_refl _)) (((live_R Hy3.out (bZ HB.out) (Nat.le_refl _)).below hb2).wider (bZ hb2) (Nat.le_refl _)))); replace HB := Aside0.mk (bP HB.out (bP HP.out hb2)); replace HA := Aside0.mk (HA.out.below hb2); replace HX := Aside0.mk (HX.out.below hb2); have LHY := Aside0.mk (show p3.heap.size ≤ q3.heap.size from bZ (bP HP.out hb2)); have MHY := Aside0.mk (show q1.heap.size ≤ q3.heap.size from bZ hb2); have NHY := Aside0.mk (show q1.heap.size ≤ gy from Nat.le_of_eq HG_.out.symm); clear HZ HG_ HP2 HP Hy2 Hy3 hw_ hz2 hk2 hb2; have cx0 : (q3).cell? ⟨gx, 0, none⟩ = some (.int .i64 x1) := (kC HX.out.here.1 0).trans rfl; have fx0 := blk_frozen HX.out.here.1 0; have cx1 : (q3).cell? ⟨gx, 1, none⟩ = some (.int .i64 x2) := (kC HX.out.here.1 1).trans rfl; have fx1 := blk_frozen HX.out.here.1 1; have cx2 : (q3).cell? ⟨gx, 2, none⟩ = some (.slice Ax2 x3.length capx2) := (kC HX.out.here.1 2).trans rfl; have fx2 := blk_frozen HX.out.here.1 2; have cx3 : (q3).cell? ⟨gx, 3, none⟩ = some (.slice Ax3 x4.length capx3) := (kC HX.out.here.1 3).trans rfl; have fx3 := blk_frozen HX.out.here.1 3; have cy0 : (q3).cell? ⟨gy, 0, none⟩ = some (.int .i64 y1) := (kC HY.out.here.1 0).trans rfl; have fy0 := blk_frozen HY.out.here.1 0; have cy1 : (q3).cell? ⟨gy, 1, none⟩ = some (.int .i64 y2) := (kC HY.out.here.1 1).trans rfl; have fy1 := blk_frozen HY.out.here.1 1; have cy2 : (q3).cell? ⟨gy, 2, none⟩ = some (.slice Ay2 y3.length capy2) := (kC HY.out.here.1 2).trans rfl; have fy2 := blk_frozen HY.out.here.1 2; have cy3 : (q3).cell? ⟨gy, 3, none⟩ = some (.slice Ay3 y4.length capy3) := (kC HY.out.here.1 3).trans rfl; have fy3 := blk_frozen HY.out.here.1 3) | ((with_reducible refine gC (f := 18) rfl ?_); refine goesL_ (some 42) rfl rfl Try.func18 (by kernel_rfl) rfl #[.agg #[.int .i64 x1, .int .i64 x2, .slice Ax2 x3.length capx2, .slice Ax3 x4.length capx3], .agg #[.int .i64 y1, .int .i64 y2, .slice Ay2 y3.length capy2, .slice Ay3 y4.length capy3]] rfl (by (try simp only [List.map_toArray, List.map_cons, List.map_nil]); first | done | rfl | (simp only [List.length_drop, List.length_take]; rfl)) ?_; (with_reducible refine (impl_MeetGrammars.calls k x1 x2 _ _ x3 _ _ x4 y1 y2 _ _ y3 _ _ y4 g1 g2 g3 g4 g5 _ (Kd.R_reads' HX.out.here.2.1).2.2 (Kd.R_reads' HX.out.here.2.1).2.1 (Kd.R_reads' HX.out.here.2.2).2.2 (Kd.R_reads' HX.out.here.2.2).2.1 (Kd.R_reads' HY.out.here.2.1).2.2 (Kd.R_reads' HY.out.here.2.1).2.1 (Kd.R_reads' HY.out.here.2.2).2.2 (Kd.R_reads' HY.out.here.2.2).2.1 EG.out).mono ?_); rintro e r1 ⟨v2_, v3_, rfl, h2, h3, hb⟩; refine ⟨_, rfl, ?_⟩; clear cx0 fx0 cx1 fx1 cx2 fx2 cx3 fx3; clear cy0 fy0 cy1 fy1 cy2 fy2 cy3 fy3; obtain ⟨Ag2, capg2, rfl⟩ := Kd.R_slice h2; obtain ⟨Ag3, capg3, rfl⟩ := Kd.R_slice h3; replace HA := Aside0.mk (HA.out.below hb); replace HX := Aside0.mk (HX.out.below hb); replace HY := Aside0.mk (HY.out.below hb); have Hg2 := Aside0.mk h2; have Hg3 := Aside0.mk h3; have HP := Aside0.mk hb; clear h2 h3 hb) | ((with_reducible refine gate_dst (N := 10) rfl ?_); refine bE ?hg (N := 10) ?hd (cs := #[.int .i64 0, .int .i64 0, .slice none 0 0, .slice none 0 0]) (t := 39) ?hr ?_; (case hd => rfl); (case hg => rfl); (case hr => first | (go_simp; done) | (go_simp; rfl)); intro gg hg_ r2 hbox hb; have HZ := Aside0.mk hbox; have HG_ := Aside0.mk hg_; have HP2 := Aside0.mk hb; clear hg_ hb; have cs0 : (r2).cell? ⟨gg, 0, none⟩ = some (.int .i64 0) := (kC hbox 0).trans rfl; have fs0 := blk_frozen hbox 0; have cs1 : (r2).cell? ⟨gg, 1, none⟩ = some (.int .i64 0) := (kC hbox 1).trans rfl; have fs1 := blk_frozen hbox 1; have cs2 : (r2).cell? ⟨gg, 2, none⟩ = some (.slice none 0 0) := (kC hbox 2).trans rfl; have fs2 := blk_frozen hbox 2; have cs3 : (r2).cell? ⟨gg, 3, none⟩ = some (.slice none 0 0) := (kC hbox 3).trans rfl; have fs3 := blk_frozen hbox 3; clear hbox) | ((with_reducible refine gate_store (t := 39) (p := 10) rfl ?_); refine store_event (t := 39) (p := 10) (v := ?vo_r3) (w1 := ((((r2.setCell ⟨gg, 0, none⟩ (.int .i64 g1)).setCell ⟨gg, 1, none⟩ (.int .i64 g2)).setCell ⟨gg, 2, none⟩ (.slice Ag2 g3.length capg2)).setCell ⟨gg, 3, none⟩ (.slice Ag3 g4.length capg3))) ?hg ?ho ?hn ?hr ?_; (case ho => rfl); (case hg => rfl); (case hn => rfl); (case hr => first | (go_simp; done) | (go_simp; rfl)); intro r3 hw_; clear cs0 fs0 cs1 fs1 cs2 fs2 cs3 fs3; obtain ⟨hz2, hk2⟩ := put4 HZ.out hw_; have hb2 := below_put4 HP2.out (Nat.le_of_eq HG_.out.symm) hw_; have HG := Aside0.mk (live_and (live_blk_at hz2 (show q3.heap.size ≤ gg by rw [HG_.out]; exact bZ HP.out)) (live_and (((live_R Hg2.out (bZ HB.out) (Nat.le_refl _)).below hb2).wider (bZ hb2) (Nat.le_refl _)) (((live_R Hg3.out (bZ HB.out) (Nat.le_refl _)).below hb2).wider (bZ hb2) (Nat.le_refl _)))); replace HB := Aside0.mk (bP HB.out (bP HP.out hb2)); replace HA := Aside0.mk (HA.out.below hb2); replace HX := Aside0.mk (HX.out.below hb2); replace HY := Aside0.mk (HY.out.below hb2); have LHG := Aside0.mk (show q3.heap.size ≤ r3.heap.size from bZ (bP HP.out hb2)); have MHG := Aside0.mk (show r1.heap.size ≤ r3.heap.size from bZ hb2); have NHG := Aside0.mk (show r1.heap.size ≤ gg from Nat.le_of_eq HG_.out.symm); clear HZ HG_ HP2 HP Hg2 Hg3 hw_ hz2 hk2 hb2; have cg0 : (r3).cell? ⟨gg, 0, none⟩ = some (.int .i64 g1) := (kC HG.out.here.1 0).trans rfl; have fg0 := blk_frozen HG.out.here.1 0; have cg1 : (r3).cell? ⟨gg, 1, none⟩ = some (.int .i64 g2) := (kC HG.out.here.1 1).trans rfl; have fg1 := blk_frozen HG.out.here.1 1; have cg2 : (r3).cell? ⟨gg, 2, none⟩ = some (.slice Ag2 g3.length capg2) := (kC HG.out.here.1 2).trans rfl; have fg2 := blk_frozen HG.out.here.1 2; have cg3 : (r3).cell? ⟨gg, 3, none⟩ = some (.slice Ag3 g4.length capg3) := (kC HG.out.here.1 3).trans rfl; have fg3 := blk_frozen HG.out.here.1 3; have cw0 : (r3).cell? ⟨gs, 0, none⟩ = some (.int .i64 s1) := (kC HA.out.here.2.1 0).trans rfl; have fw0 := blk_frozen HA.out.here.2.1 0; have cw1 : (r3).cell? ⟨gs, 1, none⟩ = some (.int .i64 s2) := (kC HA.out.here.2.1 1).trans rfl; have fw1 := blk_frozen HA.out.here.2.1 1; have cw2 : (r3).cell? ⟨gs, 2, none⟩ = some (.slice As2 s3.length caps2) := (kC HA.out.here.2.1 2).trans rfl; have fw2 := blk_frozen HA.out.here.2.1 2; have cw3 : (r3).cell? ⟨gs, 3, none⟩ = some (.slice As3 s4.length caps3) := (kC HA.out.here.2.1 3).trans rfl; have fw3 := blk_frozen HA.out.here.2.1 3) | ((with_reducible refine gC (f := 19) rfl ?_); refine goesL_ (some 47) rfl rfl Try.func19 (by kernel_rfl) rfl #[.agg #[.int .i64 g1, .int .i64 g2, .slice Ag2 g3.length capg2, .slice Ag3 g4.length capg3], .agg #[.int .i64 s1, .int .i64 s2, .slice As2 s3.length caps2, .slice As3 s4.length caps3]] rfl (by (try simp only [List.map_toArray, List.map_cons, List.map_nil]); first | done | rfl | (simp only [List.length_drop, List.length_take]; rfl)) ?_; (with_reducible refine (laws_eqGrammar.calls k g1 g2 _ _ g3 _ _ g4 s1 s2 _ _ s3 _ _ s4 true _ (Kd.R_reads' HG.out.here.2.1).2.2 (Kd.R_reads' HG.out.here.2.1).2.1 (Kd.R_reads' HG.out.here.2.2).2.2 (Kd.R_reads' HG.out.here.2.2).2.1 (Kd.R_reads' HA.out.here.2.2.1).2.2 (Kd.R_reads' HA.out.here.2.2.1).2.1 (Kd.R_reads' HA.out.here.2.2.2).2.2 (Kd.R_reads' HA.out.here.2.2.2).2.1 ET1.out).mono ?_); rintro e r4 ⟨rfl, hb⟩; refine ⟨_, rfl, ?_⟩; clear cg0 fg0 cg1 fg1 cg2 fg2 cg3 fg3; clear cw0 fw0 cw1 fw1 cw2 fw2 cw3 fw3; have HB2 := Aside0.mk (bP (by repeat (first | exact HB.out | apply bN | apply bD | apply bA)) hb); replace HA := Aside0.mk (HA.out.below hb); replace HX := Aside0.mk (HX.out.below hb); replace HY := Aside0.mk (HY.out.below hb); replace HG := Aside0.mk (HG.out.below hb); clear HB hb; have HB := HB2; clear HB2))
 replace HA := Aside0.mk (HA.out.drew)
 replace HX := Aside0.mk (HX.out.drew)
 replace HY := Aside0.mk (HY.out.drew)
 replace HG := Aside0.mk (HG.out.drew)
 replace HB := Aside0.mk (bD HB.out)
 refine start_ (n := 5) (S := fun z => z.heap[gx]? = some (.cells #[.int .i64 x1, .int .i64 x2, .slice Ax2 x3.length capx2, .slice Ax3 x4.length capx3] 39 (0, 0)) ∧ z.heap[ga]? = some (.cells #[.int .i64 a0_0, .int .i64 a0_1, .slice A0_2 l0_2.length c0_2, .slice A0_3 l0_3.length c0_3] 35 (0, 0))) (ds := []) #[F,F,F,F,F] (by kernel_rfl) rfl rfl ⟨HX.out.here.1, HA.out.here.1.1⟩ (fun hHeld => ?_)
 generalize r4.drew = d at HA HX HY HG HB hHeld ⊢
 refine take_ (i := 0) (N := some 54) (v := ?_) (a' := ?_) #[T,F,F,F,F] rfl rfl (by kernel_rfl) (fun _ _ _ h => h) (Or.inl ⟨by rfl, ?_⟩) hHeld ?_ ?_
 rotate_left
 ·rintro z_ ⟨h1_, h2_⟩
  have cz0 : (z_).cell? ⟨gx, 0, none⟩ = some (.int .i64 x1) := (kC h1_ 0).trans rfl
  have fz0 := blk_frozen h1_ 0
  have cz1 : (z_).cell? ⟨gx, 1, none⟩ = some (.int .i64 x2) := (kC h1_ 1).trans rfl
  have fz1 := blk_frozen h1_ 1
  have cz2 : (z_).cell? ⟨gx, 2, none⟩ = some (.slice Ax2 x3.length capx2) := (kC h1_ 2).trans rfl
  have fz2 := blk_frozen h1_ 2
  have cz3 : (z_).cell? ⟨gx, 3, none⟩ = some (.slice Ax3 x4.length capx3) := (kC h1_ 3).trans rfl
  have fz3 := blk_frozen h1_ 3
  go_simp
  with_reducible rfl
 rotate_left
 ·simp only [Act.put, sI, sZ, sS, iW, jW]
  rfl
 refine take_ (i := 1) (N := some 55) (v := ?_) (a' := ?_) #[T,T,F,F,F] rfl rfl (by kernel_rfl) (fun _ _ _ h => h) (Or.inl ⟨by rfl, ?_⟩) hHeld ?_ ?_
 rotate_left
 ·rintro z_ ⟨h1_, h2_⟩
  have cz0 : (z_).cell? ⟨ga, 0, none⟩ = some (.int .i64 a0_0) := (kC h2_ 0).trans rfl
  have fz0 := blk_frozen h2_ 0
  have cz1 : (z_).cell? ⟨ga, 1, none⟩ = some (.int .i64 a0_1) := (kC h2_ 1).trans rfl
  have fz1 := blk_frozen h2_ 1
  have cz2 : (z_).cell? ⟨ga, 2, none⟩ = some (.slice A0_2 l0_2.length c0_2) := (kC h2_ 2).trans rfl
  have fz2 := blk_frozen h2_ 2
  have cz3 : (z_).cell? ⟨ga, 3, none⟩ = some (.slice A0_3 l0_3.length c0_3) := (kC h2_ 3).trans rfl
  have fz3 := blk_frozen h2_ 3
  go_simp
  with_reducible rfl
 rotate_left
 ·simp only [Act.put, sI, sZ, sS, iW, jW]
  rfl
 refine one_ (i := 2) (N := some 56) #[T,T,T,F,F] rfl rfl (by kernel_rfl) (by decide) (fun K hK => ?_)
 refine goes_ Try.func17 (by kernel_rfl) rfl #[.agg #[.int .i64 a0_0, .int .i64 a0_1, .slice A0_2 l0_2.length c0_2, .slice A0_3 l0_3.length c0_3]] (by rfl) rfl rfl (by (try simp only [List.map_toArray, List.map_cons, List.map_nil]); first | done | rfl | (simp only [List.length_drop, List.length_take]; rfl)) ?_
 with_reducible refine (laws_toGrammar.calls k a0_0 a0_1 _ _ l0_2 _ _ l0_3 x1 x2 x3 x4 _ (cB HR0_2.out (by repeat (first | exact HB.out | apply bN | apply bD | apply bA))) HC0_2.out (cB HR0_3.out (by repeat (first | exact HB.out | apply bN | apply bD | apply bA))) HC0_3.out EX.out).mono ?_
 rintro e_ d1 ⟨v2_, v3_, rfl, h2, h3, hb⟩
 refine ⟨_, rfl, ?_⟩
 obtain ⟨At2, capt2, rfl⟩ := Kd.R_slice h2
 obtain ⟨At3, capt3, rfl⟩ := Kd.R_slice h3
 replace HA := Aside0.mk (HA.out.below hb)
 replace HX := Aside0.mk (HX.out.below hb)
 replace HY := Aside0.mk (HY.out.below hb)
 replace HG := Aside0.mk (HG.out.below hb)
 replace HB := Aside0.mk (bP HB.out hb)
 have HT2 := Aside0.mk h2
 have HT3 := Aside0.mk h3
 clear h2 h3 hb
 refine hK.out _ _ ⟨HX.out.here.1, HA.out.here.1.1⟩ (fun _ => ?_)
 clear hK K
 refine norm_ (a' := ?_) ?_ ?_
 rotate_left
 ·show Act.put _ (some 56) _ = _
  simp only [Act.put, sI, sZ, sS, iW, jW]
  rfl
 refine one_ (i := 3) (N := some 57) #[T,T,T,T,F] rfl rfl (by kernel_rfl) (by decide) (fun K hK => ?_)
 refine goes_ Try.func19 (by kernel_rfl) rfl #[.agg #[.int .i64 x1, .int .i64 x2, .slice Ax2 x3.length capx2, .slice Ax3 x4.length capx3], .agg #[.int .i64 x1, .int .i64 x2, .slice At2 x3.length capt2, .slice At3 x4.length capt3]] (by rfl) rfl rfl (by (try simp only [List.map_toArray, List.map_cons, List.map_nil]); first | done | rfl | (simp only [List.length_drop, List.length_take]; rfl)) ?_
 with_reducible refine (laws_eqGrammar.calls k x1 x2 _ _ x3 _ _ x4 x1 x2 _ _ x3 _ _ x4 true _ (Kd.R_reads' HX.out.here.2.1).2.2 (Kd.R_reads' HX.out.here.2.1).2.1 (Kd.R_reads' HX.out.here.2.2).2.2 (Kd.R_reads' HX.out.here.2.2).2.1 (Kd.R_reads' HT2.out).2.2 (Kd.R_reads' HT2.out).2.1 (Kd.R_reads' HT3.out).2.2 (Kd.R_reads' HT3.out).2.1 ET2.out).mono ?_
 rintro e_ d2 ⟨rfl, hb⟩
 refine ⟨_, rfl, ?_⟩
 replace HA := Aside0.mk (HA.out.below hb)
 replace HX := Aside0.mk (HX.out.below hb)
 replace HY := Aside0.mk (HY.out.below hb)
 replace HG := Aside0.mk (HG.out.below hb)
 replace HB := Aside0.mk (bP HB.out hb)
 clear hb HT2 HT3
 refine hK.out _ _ ⟨HX.out.here.1, HA.out.here.1.1⟩ (fun _ => ?_)
 clear hK K
 refine norm_ (a' := ?_) ?_ ?_
 rotate_left
 ·show Act.put _ (some 57) _ = _
  simp only [Act.put, sI, sZ, sS, iW, jW]
  rfl
 refine pure_ (i := 4) (N := some 58) (v := ?_) (a' := ?_) #[T,T,T,T,T] rfl rfl (by kernel_rfl) (fun _ _ _ h => h) (Or.inl ⟨by rfl, ?_⟩) ?_ ?_
 rotate_left
 ·intro z_
  go_simp
  with_reducible rfl
 rotate_left
 ·simp only [Act.put, sI, sZ, sS, iW, jW]
  rfl
 refine done_ (by kernel_rfl) ?_
 clear hHeld
 go_wp2
 replace HA := Aside0.mk (HA.out.drew)
 replace HX := Aside0.mk (HX.out.drew)
 replace HY := Aside0.mk (HY.out.drew)
 replace HG := Aside0.mk (HG.out.drew)
 replace HB := Aside0.mk (bD HB.out)
 refine start_ (n := 5) (S := fun z => z.heap[gy]? = some (.cells #[.int .i64 y1, .int .i64 y2, .slice Ay2 y3.length capy2, .slice Ay3 y4.length capy3] 39 (0, 0)) ∧ z.heap[gb]? = some (.cells #[.int .i64 a1_0, .int .i64 a1_1, .slice A1_2 l1_2.length c1_2, .slice A1_3 l1_3.length c1_3] 35 (0, 0))) (ds := []) #[F,F,F,F,F] (by kernel_rfl) rfl rfl ⟨HY.out.here.1, HA.out.here.1.2⟩ (fun hHeld => ?_)
 generalize d2.drew = f at HA HX HY HG HB hHeld ⊢
 refine take_ (i := 0) (N := some 59) (v := ?_) (a' := ?_) #[T,F,F,F,F] rfl rfl (by kernel_rfl) (fun _ _ _ h => h) (Or.inl ⟨by rfl, ?_⟩) hHeld ?_ ?_
 rotate_left
 ·rintro z_ ⟨h1_, h2_⟩
  have cz0 : (z_).cell? ⟨gy, 0, none⟩ = some (.int .i64 y1) := (kC h1_ 0).trans rfl
  have fz0 := blk_frozen h1_ 0
  have cz1 : (z_).cell? ⟨gy, 1, none⟩ = some (.int .i64 y2) := (kC h1_ 1).trans rfl
  have fz1 := blk_frozen h1_ 1
  have cz2 : (z_).cell? ⟨gy, 2, none⟩ = some (.slice Ay2 y3.length capy2) := (kC h1_ 2).trans rfl
  have fz2 := blk_frozen h1_ 2
  have cz3 : (z_).cell? ⟨gy, 3, none⟩ = some (.slice Ay3 y4.length capy3) := (kC h1_ 3).trans rfl
  have fz3 := blk_frozen h1_ 3
  go_simp
  with_reducible rfl
 rotate_left
 ·simp only [Act.put, sI, sZ, sS, iW, jW]
  rfl
 refine take_ (i := 1) (N := some 60) (v := ?_) (a' := ?_) #[T,T,F,F,F] rfl rfl (by kernel_rfl) (fun _ _ _ h => h) (Or.inl ⟨by rfl, ?_⟩) hHeld ?_ ?_
 rotate_left
 ·rintro z_ ⟨h1_, h2_⟩
  have cz0 : (z_).cell? ⟨gb, 0, none⟩ = some (.int .i64 a1_0) := (kC h2_ 0).trans rfl
  have fz0 := blk_frozen h2_ 0
  have cz1 : (z_).cell? ⟨gb, 1, none⟩ = some (.int .i64 a1_1) := (kC h2_ 1).trans rfl
  have fz1 := blk_frozen h2_ 1
  have cz2 : (z_).cell? ⟨gb, 2, none⟩ = some (.slice A1_2 l1_2.length c1_2) := (kC h2_ 2).trans rfl
  have fz2 := blk_frozen h2_ 2
  have cz3 : (z_).cell? ⟨gb, 3, none⟩ = some (.slice A1_3 l1_3.length c1_3) := (kC h2_ 3).trans rfl
  have fz3 := blk_frozen h2_ 3
  go_simp
  with_reducible rfl
 rotate_left
 ·simp only [Act.put, sI, sZ, sS, iW, jW]
  rfl
 refine one_ (i := 2) (N := some 61) #[T,T,T,F,F] rfl rfl (by kernel_rfl) (by decide) (fun K hK => ?_)
 refine goes_ Try.func17 (by kernel_rfl) rfl #[.agg #[.int .i64 a1_0, .int .i64 a1_1, .slice A1_2 l1_2.length c1_2, .slice A1_3 l1_3.length c1_3]] (by rfl) rfl rfl (by (try simp only [List.map_toArray, List.map_cons, List.map_nil]); first | done | rfl | (simp only [List.length_drop, List.length_take]; rfl)) ?_
 with_reducible refine (laws_toGrammar.calls k a1_0 a1_1 _ _ l1_2 _ _ l1_3 y1 y2 y3 y4 _ (cB HR1_2.out (by repeat (first | exact HB.out | apply bN | apply bD | apply bA))) HC1_2.out (cB HR1_3.out (by repeat (first | exact HB.out | apply bN | apply bD | apply bA))) HC1_3.out EY.out).mono ?_
 rintro e_ f1 ⟨v2_, v3_, rfl, h2, h3, hb⟩
 refine ⟨_, rfl, ?_⟩
 obtain ⟨At2, capt2, rfl⟩ := Kd.R_slice h2
 obtain ⟨At3, capt3, rfl⟩ := Kd.R_slice h3
 replace HA := Aside0.mk (HA.out.below hb)
 replace HX := Aside0.mk (HX.out.below hb)
 replace HY := Aside0.mk (HY.out.below hb)
 replace HG := Aside0.mk (HG.out.below hb)
 replace HB := Aside0.mk (bP HB.out hb)
 have HT2 := Aside0.mk h2
 have HT3 := Aside0.mk h3
 clear h2 h3 hb
 refine hK.out _ _ ⟨HY.out.here.1, HA.out.here.1.2⟩ (fun _ => ?_)
 clear hK K
 refine norm_ (a' := ?_) ?_ ?_
 rotate_left
 ·show Act.put _ (some 61) _ = _
  simp only [Act.put, sI, sZ, sS, iW, jW]
  rfl
 refine one_ (i := 3) (N := some 62) #[T,T,T,T,F] rfl rfl (by kernel_rfl) (by decide) (fun K hK => ?_)
 refine goes_ Try.func19 (by kernel_rfl) rfl #[.agg #[.int .i64 y1, .int .i64 y2, .slice Ay2 y3.length capy2, .slice Ay3 y4.length capy3], .agg #[.int .i64 y1, .int .i64 y2, .slice At2 y3.length capt2, .slice At3 y4.length capt3]] (by rfl) rfl rfl (by (try simp only [List.map_toArray, List.map_cons, List.map_nil]); first | done | rfl | (simp only [List.length_drop, List.length_take]; rfl)) ?_
 with_reducible refine (laws_eqGrammar.calls k y1 y2 _ _ y3 _ _ y4 y1 y2 _ _ y3 _ _ y4 true _ (Kd.R_reads' HY.out.here.2.1).2.2 (Kd.R_reads' HY.out.here.2.1).2.1 (Kd.R_reads' HY.out.here.2.2).2.2 (Kd.R_reads' HY.out.here.2.2).2.1 (Kd.R_reads' HT2.out).2.2 (Kd.R_reads' HT2.out).2.1 (Kd.R_reads' HT3.out).2.2 (Kd.R_reads' HT3.out).2.1 ET3.out).mono ?_
 rintro e_ f2 ⟨rfl, hb⟩
 refine ⟨_, rfl, ?_⟩
 replace HA := Aside0.mk (HA.out.below hb)
 replace HX := Aside0.mk (HX.out.below hb)
 replace HY := Aside0.mk (HY.out.below hb)
 replace HG := Aside0.mk (HG.out.below hb)
 replace HB := Aside0.mk (bP HB.out hb)
 clear hb HT2 HT3
 refine hK.out _ _ ⟨HY.out.here.1, HA.out.here.1.2⟩ (fun _ => ?_)
 clear hK K
 refine norm_ (a' := ?_) ?_ ?_
 rotate_left
 ·show Act.put _ (some 62) _ = _
  simp only [Act.put, sI, sZ, sS, iW, jW]
  rfl
 refine pure_ (i := 4) (N := some 63) (v := ?_) (a' := ?_) #[T,T,T,T,T] rfl rfl (by kernel_rfl) (fun _ _ _ h => h) (Or.inl ⟨by rfl, ?_⟩) ?_ ?_
 rotate_left
 ·intro z_
  go_simp
  with_reducible rfl
 rotate_left
 ·simp only [Act.put, sI, sZ, sS, iW, jW]
  rfl
 refine done_ (by kernel_rfl) ?_
 clear hHeld
 have cx0 : (f2).cell? ⟨gx, 0, none⟩ = some (.int .i64 x1) := (kC HX.out.here.1 0).trans rfl
 have fx0 := blk_frozen HX.out.here.1 0
 have cx1 : (f2).cell? ⟨gx, 1, none⟩ = some (.int .i64 x2) := (kC HX.out.here.1 1).trans rfl
 have fx1 := blk_frozen HX.out.here.1 1
 have cx2 : (f2).cell? ⟨gx, 2, none⟩ = some (.slice Ax2 x3.length capx2) := (kC HX.out.here.1 2).trans rfl
 have fx2 := blk_frozen HX.out.here.1 2
 have cx3 : (f2).cell? ⟨gx, 3, none⟩ = some (.slice Ax3 x4.length capx3) := (kC HX.out.here.1 3).trans rfl
 have fx3 := blk_frozen HX.out.here.1 3
 go_wp2_with (first | ((with_reducible refine gC (f := 20) rfl ?_); refine goesL_ (some 66) rfl rfl Try.func20 (by kernel_rfl) rfl #[.agg #[.int .i64 x1, .int .i64 x2, .slice Ax2 x3.length capx2, .slice Ax3 x4.length capx3], .int .i64 1] rfl (by (try simp only [List.map_toArray, List.map_cons, List.map_nil]); first | done | rfl | (simp only [List.length_drop, List.length_take]; rfl)) ?_; (with_reducible refine (laws_markGrammar.calls k x1 x2 (In u2.heap.size p1.heap.size) (.slice Ax2 x3.length capx2) x3 (In u2.heap.size p1.heap.size) (.slice Ax3 x4.length capx3) x4 1 m0 mx3 mx4 w _ (by repeat (first | exact HB.out | apply bN | apply bD | apply bA)) HX.out.here.2.1 HX.out.here.2.2 EM0.out).mono ?_); rintro e m_1 ⟨rfl, h2, h3, hb, hk⟩; refine ⟨_, rfl, ?_⟩; clear cx0 fx0 cx1 fx1 cx2 fx2 cx3 fx3; replace HA := Aside0.mk (HA.out.kept hk (fun k_ h1_ h2_ h3_ => by have h4_ := in_or h3_; clear h3_; omega)); replace HY := Aside0.mk (HY.out.kept hk (fun k_ h1_ h2_ h3_ => by have h4_ := in_or h3_; clear h3_; have := MHX.out; omega)); replace HG := Aside0.mk (HG.out.kept hk (fun k_ h1_ h2_ h3_ => by have h4_ := in_or h3_; clear h3_; have := MHX.out; have := LHY.out; omega)); replace HB := Aside0.mk hb; clear h2 h3 hb hk HX EM0; have cy0 : (m_1).cell? ⟨gy, 0, none⟩ = some (.int .i64 y1) := (kC HY.out.here.1 0).trans rfl; have fy0 := blk_frozen HY.out.here.1 0; have cy1 : (m_1).cell? ⟨gy, 1, none⟩ = some (.int .i64 y2) := (kC HY.out.here.1 1).trans rfl; have fy1 := blk_frozen HY.out.here.1 1; have cy2 : (m_1).cell? ⟨gy, 2, none⟩ = some (.slice Ay2 y3.length capy2) := (kC HY.out.here.1 2).trans rfl; have fy2 := blk_frozen HY.out.here.1 2; have cy3 : (m_1).cell? ⟨gy, 3, none⟩ = some (.slice Ay3 y4.length capy3) := (kC HY.out.here.1 3).trans rfl; have fy3 := blk_frozen HY.out.here.1 3) | ((with_reducible refine gC (f := 20) rfl ?_); refine goesL_ (some 69) rfl rfl Try.func20 (by kernel_rfl) rfl #[.agg #[.int .i64 y1, .int .i64 y2, .slice Ay2 y3.length capy2, .slice Ay3 y4.length capy3], .int .i64 m0] rfl (by (try simp only [List.map_toArray, List.map_cons, List.map_nil]); first | done | rfl | (simp only [List.length_drop, List.length_take]; rfl)) ?_; (with_reducible refine (laws_markGrammar.calls k y1 y2 (In p3.heap.size q1.heap.size) (.slice Ay2 y3.length capy2) y3 (In p3.heap.size q1.heap.size) (.slice Ay3 y4.length capy3) y4 m0 m1 my3 my4 w _ (by repeat (first | exact HB.out | apply bN | apply bD | apply bA)) HY.out.here.2.1 HY.out.here.2.2 EM1.out).mono ?_); rintro e m_2 ⟨rfl, h2, h3, hb, hk⟩; refine ⟨_, rfl, ?_⟩; clear cy0 fy0 cy1 fy1 cy2 fy2 cy3 fy3; replace HA := Aside0.mk (HA.out.kept hk (fun k_ h1_ h2_ h3_ => by have h4_ := in_or h3_; clear h3_; have := LHX.out; omega)); replace HG := Aside0.mk (HG.out.kept hk (fun k_ h1_ h2_ h3_ => by have h4_ := in_or h3_; clear h3_; have := MHY.out; omega)); replace HB := Aside0.mk hb; clear h2 h3 hb hk HY EM1; have cg0 : (m_2).cell? ⟨gg, 0, none⟩ = some (.int .i64 g1) := (kC HG.out.here.1 0).trans rfl; have fg0 := blk_frozen HG.out.here.1 0; have cg1 : (m_2).cell? ⟨gg, 1, none⟩ = some (.int .i64 g2) := (kC HG.out.here.1 1).trans rfl; have fg1 := blk_frozen HG.out.here.1 1; have cg2 : (m_2).cell? ⟨gg, 2, none⟩ = some (.slice Ag2 g3.length capg2) := (kC HG.out.here.1 2).trans rfl; have fg2 := blk_frozen HG.out.here.1 2; have cg3 : (m_2).cell? ⟨gg, 3, none⟩ = some (.slice Ag3 g4.length capg3) := (kC HG.out.here.1 3).trans rfl; have fg3 := blk_frozen HG.out.here.1 3; have cw0 : (m_2).cell? ⟨gs, 0, none⟩ = some (.int .i64 s1) := (kC HA.out.here.2.1 0).trans rfl; have fw0 := blk_frozen HA.out.here.2.1 0; have cw1 : (m_2).cell? ⟨gs, 1, none⟩ = some (.int .i64 s2) := (kC HA.out.here.2.1 1).trans rfl; have fw1 := blk_frozen HA.out.here.2.1 1; have cw2 : (m_2).cell? ⟨gs, 2, none⟩ = some (.slice As2 s3.length caps2) := (kC HA.out.here.2.1 2).trans rfl; have fw2 := blk_frozen HA.out.here.2.1 2; have cw3 : (m_2).cell? ⟨gs, 3, none⟩ = some (.slice As3 s4.length caps3) := (kC HA.out.here.2.1 3).trans rfl; have fw3 := blk_frozen HA.out.here.2.1 3) | (go_at_call 19; (with_reducible refine (laws_eqGrammar.calls k g1 g2 _ _ g3 _ _ g4 s1 s2 _ _ s3 _ _ s4 true _ (Kd.R_reads' HG.out.here.2.1).2.2 (Kd.R_reads' HG.out.here.2.1).2.1 (Kd.R_reads' HG.out.here.2.2).2.2 (Kd.R_reads' HG.out.here.2.2).2.1 (Kd.R_reads' HA.out.here.2.2.1).2.2 (Kd.R_reads' HA.out.here.2.2.1).2.1 (Kd.R_reads' HA.out.here.2.2.2).2.2 (Kd.R_reads' HA.out.here.2.2.2).2.1 ET1.out).mono ?_); rintro e m_3 ⟨rfl, hb⟩; clear cg0 fg0 cg1 fg1 cg2 fg2 cg3 fg3; clear cw0 fw0 cw1 fw1 cw2 fw2 cw3 fw3; have HB2 := Aside0.mk (bP (by repeat (first | exact HB.out | apply bN | apply bD | apply bA)) hb); replace HA := Aside0.mk (HA.out.below hb); replace HG := Aside0.mk (HG.out.below hb); clear HB hb; have HB := HB2; clear HB2; have cg0 : (m_3).cell? ⟨gg, 0, none⟩ = some (.int .i64 g1) := (kC HG.out.here.1 0).trans rfl; have fg0 := blk_frozen HG.out.here.1 0; have cg1 : (m_3).cell? ⟨gg, 1, none⟩ = some (.int .i64 g2) := (kC HG.out.here.1 1).trans rfl; have fg1 := blk_frozen HG.out.here.1 1; have cg2 : (m_3).cell? ⟨gg, 2, none⟩ = some (.slice Ag2 g3.length capg2) := (kC HG.out.here.1 2).trans rfl; have fg2 := blk_frozen HG.out.here.1 2; have cg3 : (m_3).cell? ⟨gg, 3, none⟩ = some (.slice Ag3 g4.length capg3) := (kC HG.out.here.1 3).trans rfl; have fg3 := blk_frozen HG.out.here.1 3) | ((with_reducible refine gC (f := 20) rfl ?_); refine goesL_ (some 85) rfl rfl Try.func20 (by kernel_rfl) rfl #[.agg #[.int .i64 g1, .int .i64 g2, .slice Ag2 g3.length capg2, .slice Ag3 g4.length capg3], .int .i64 1] rfl (by (try simp only [List.map_toArray, List.map_cons, List.map_nil]); first | done | rfl | (simp only [List.length_drop, List.length_take]; rfl)) ?_; (with_reducible refine (laws_markGrammar.calls k g1 g2 (In q3.heap.size r1.heap.size) (.slice Ag2 g3.length capg2) g3 (In q3.heap.size r1.heap.size) (.slice Ag3 g4.length capg3) g4 1 q mg3 mg4 w _ (by repeat (first | exact HB.out | apply bN | apply bD | apply bA)) HG.out.here.2.1 HG.out.here.2.2 EM.out).mono ?_); rintro e m_4 ⟨rfl, h2, h3, hb, hk⟩; refine ⟨_, rfl, ?_⟩; clear cg0 fg0 cg1 fg1 cg2 fg2 cg3 fg3; replace HA := Aside0.mk (HA.out.kept hk (fun k_ h1_ h2_ h3_ => by have h4_ := in_or h3_; clear h3_; have := LHX.out; have := LHY.out; omega)); replace HB := Aside0.mk hb; have BG_ := blk_kept HG.out.here.1 hk (by intro h3_; have := NHG.out; have h4_ := in_or h3_; clear h3_; omega); replace HG := Aside0.mk (live_and (live_blk BG_) (live_and (live_R h2 (Nat.le_refl _) (Nat.zero_le _)) (live_R h3 (Nat.le_refl _) (Nat.zero_le _)))); have NG3 := Aside0.mk (Kd.R_reads' h2).1; have NG4 := Aside0.mk (Kd.R_reads' h3).1; clear h2 h3 hb hk BG_ EM; have cg0 : (m_4).cell? ⟨gg, 0, none⟩ = some (.int .i64 g1) := (kC HG.out.here.1 0).trans rfl; have fg0 := blk_frozen HG.out.here.1 0; have cg1 : (m_4).cell? ⟨gg, 1, none⟩ = some (.int .i64 g2) := (kC HG.out.here.1 1).trans rfl; have fg1 := blk_frozen HG.out.here.1 1; have cg2 : (m_4).cell? ⟨gg, 2, none⟩ = some (.slice Ag2 g3.length capg2) := (kC HG.out.here.1 2).trans rfl; have fg2 := blk_frozen HG.out.here.1 2; have cg3 : (m_4).cell? ⟨gg, 3, none⟩ = some (.slice Ag3 g4.length capg3) := (kC HG.out.here.1 3).trans rfl; have fg3 := blk_frozen HG.out.here.1 3) | ((with_reducible refine gC (f := 21) rfl ?_); refine goesL_ (some 88) rfl rfl Try.func21 (by kernel_rfl) rfl #[.agg #[.int .i64 g1, .int .i64 g2, .slice Ag2 g3.length capg2, .slice Ag3 g4.length capg3], .int .i64 1] rfl (by (try simp only [List.map_toArray, List.map_cons, List.map_nil]); first | done | rfl | (simp only [List.length_drop, List.length_take]; rfl)) ?_; have hc_ := fun w_ => laws_heldGrammar.calls k g1 g2 Ag2 capg2 mg3 Ag3 capg3 mg4 1 q w_; simp only [← NG3.out, ← NG4.out] at hc_; refine (hc_ _ ?s1 ?s2 ?s3 ?s4 EQ.out).mono ?_; (case s1 => rw [NG3.out]; exact (Kd.R_reads' HG.out.here.2.1).2.2); (case s2 => exact (Kd.R_reads' HG.out.here.2.1).2.1); (case s3 => rw [NG4.out]; exact (Kd.R_reads' HG.out.here.2.2).2.2); (case s4 => exact (Kd.R_reads' HG.out.here.2.2).2.1); rintro e m_5 ⟨rfl, hb⟩; refine ⟨_, rfl, ?_⟩; clear cg0 fg0 cg1 fg1 cg2 fg2 cg3 fg3; clear hc_; have HB2 := Aside0.mk (bP (by repeat (first | exact HB.out | apply bN | apply bD | apply bA)) hb); replace HA := Aside0.mk (HA.out.below hb); replace HG := Aside0.mk (HG.out.below hb); clear HB hb; have HB := HB2; clear HB2))
 replace HA := Aside0.mk (HA.out.drew)
 replace HG := Aside0.mk (HG.out.drew)
 replace HB := Aside0.mk (bD HB.out)
 refine start_ (n := 11) (S := fun z => z.heap[ga]? = some (.cells #[.int .i64 a0_0, .int .i64 a0_1, .slice A0_2 l0_2.length c0_2, .slice A0_3 l0_3.length c0_3] 35 (0, 0)) ∧ z.heap[gb]? = some (.cells #[.int .i64 a1_0, .int .i64 a1_1, .slice A1_2 l1_2.length c1_2, .slice A1_3 l1_3.length c1_3] 35 (0, 0))) (ds := []) #[F,F,F,F,F,F,F,F,F,F,F] (by kernel_rfl) rfl rfl ⟨HA.out.here.1.1, HA.out.here.1.2⟩ (fun hHeld => ?_); refine with_tabW laws_FnExactMeetGrammars.tab31 laws_FnExactMeetGrammars.bits31 (fun HT_ HW_ => ?_)
 generalize m_5.drew = t at HA HG HB hHeld ⊢
 have HU := Aside0.mk (Below.refl t.heap.size t)
 refine take_ (i := 0) (N := some 95) (v := ?_) (a' := ?_) #[T,F,F,F,F,F,F,F,F,F,F] rfl rfl (tW HT_.out HW_.out (by kernel_rfl)) (fun _ _ _ h => h) (Or.inl ⟨by rfl, ?_⟩) hHeld ?_ ?_
 rotate_left
 ·rintro z_ ⟨h1_, h2_⟩
  have cz0 : (z_).cell? ⟨ga, 0, none⟩ = some (.int .i64 a0_0) := (kC h1_ 0).trans rfl
  have fz0 := blk_frozen h1_ 0
  have cz1 : (z_).cell? ⟨ga, 1, none⟩ = some (.int .i64 a0_1) := (kC h1_ 1).trans rfl
  have fz1 := blk_frozen h1_ 1
  have cz2 : (z_).cell? ⟨ga, 2, none⟩ = some (.slice A0_2 l0_2.length c0_2) := (kC h1_ 2).trans rfl
  have fz2 := blk_frozen h1_ 2
  have cz3 : (z_).cell? ⟨ga, 3, none⟩ = some (.slice A0_3 l0_3.length c0_3) := (kC h1_ 3).trans rfl
  have fz3 := blk_frozen h1_ 3
  go_simp
  with_reducible rfl
 rotate_left
 ·simp only [Act.put, sI, sZ, sS, iW, jW]
  rfl
 refine take_ (i := 2) (N := some 97) (v := ?_) (a' := ?_) #[T,F,T,F,F,F,F,F,F,F,F] rfl rfl (tW HT_.out HW_.out (by kernel_rfl)) (fun _ _ _ h => h) (Or.inl ⟨by rfl, ?_⟩) hHeld ?_ ?_
 rotate_left
 ·rintro z_ ⟨h1_, h2_⟩
  have cz0 : (z_).cell? ⟨gb, 0, none⟩ = some (.int .i64 a1_0) := (kC h2_ 0).trans rfl
  have fz0 := blk_frozen h2_ 0
  have cz1 : (z_).cell? ⟨gb, 1, none⟩ = some (.int .i64 a1_1) := (kC h2_ 1).trans rfl
  have fz1 := blk_frozen h2_ 1
  have cz2 : (z_).cell? ⟨gb, 2, none⟩ = some (.slice A1_2 l1_2.length c1_2) := (kC h2_ 2).trans rfl
  have fz2 := blk_frozen h2_ 2
  have cz3 : (z_).cell? ⟨gb, 3, none⟩ = some (.slice A1_3 l1_3.length c1_3) := (kC h2_ 3).trans rfl
  have fz3 := blk_frozen h2_ 3
  go_simp
  with_reducible rfl
 rotate_left
 ·simp only [Act.put, sI, sZ, sS, iW, jW]
  rfl
 refine join_ (σ := Value × Value × Value × Value × Value × Value × Nat) 2 #[T,T,T,T,T,T,T,T,T,F,F] (fun s_ => [(96, .agg #[.int .i64 x1, .int .i64 x2, s_.1, s_.2.1]), (98, .agg #[.int .i64 y1, .int .i64 y2, s_.2.2.1, s_.2.2.2.1]), (99, .tuple #[.agg #[.int .i64 g1, .int .i64 g2, s_.2.2.2.2.1, s_.2.2.2.2.2.1], .int .i64 g5]), (15, .pointer (some ⟨s_.2.2.2.2.2.2, 0, none⟩)), (94, .tuple #[.agg #[.int .i64 g1, .int .i64 g2, s_.2.2.2.2.1, s_.2.2.2.2.2.1], .int .i64 g5]), (100, .agg #[.int .i64 g1, .int .i64 g2, s_.2.2.2.2.1, s_.2.2.2.2.2.1]), (101, .int .i64 g5)]) (fun s_ z => Below t.heap.size t z ∧ Kd.R (Kd.int .i64) 2 z w.heap.size (fun _ => True) s_.2.2.2.2.1 g3 ∧ Kd.R k68 68 z w.heap.size (fun _ => True) s_.2.2.2.2.2.1 g4 ∧ z.heap[s_.2.2.2.2.2.2]? = some (.cells #[.int .i64 0, .int .i64 0, .slice none 0 0, .slice none 0 0] 39 (0, 0)) ∧ t.heap.size ≤ s_.2.2.2.2.2.2) ?_ ?_
 rotate_left
 ·intro hCont
  refine two_ (i := 1) (j := 8) (Ni := some 96) (Nj := some 15) #[T,T,T,F,F,F,F,F,F,F,F] #[T,F,T,F,F,F,F,F,T,F,F] rfl rfl rfl rfl (two_of HT_.out (by kernel_rfl)) (by decide) (by decide) (fun K hK => ?_) (fun K hK => ?_)
  ·skip
   refine goes_ Try.func17 (by kernel_rfl) rfl #[.agg #[.int .i64 a0_0, .int .i64 a0_1, .slice A0_2 l0_2.length c0_2, .slice A0_3 l0_3.length c0_3]] (by rfl) rfl rfl (by (try simp only [List.map_toArray, List.map_cons, List.map_nil]); first | done | rfl | (simp only [List.length_drop, List.length_take]; rfl)) ?_
   with_reducible refine (laws_toGrammar.calls k a0_0 a0_1 _ _ l0_2 _ _ l0_3 x1 x2 x3 x4 _ (cB HR0_2.out (bP HB.out HU.out)) HC0_2.out (cB HR0_3.out (bP HB.out HU.out)) HC0_3.out EX.out).mono ?_
   rintro e_ z_ ⟨v2_, v3_, rfl, h2, h3, hb⟩
   refine ⟨_, rfl, ?_⟩
   obtain ⟨Ax2, capx2, rfl⟩ := Kd.R_slice h2
   obtain ⟨Ax3, capx3, rfl⟩ := Kd.R_slice h3
   have Hx2 := Aside0.mk h2
   have Hx3 := Aside0.mk h3
   replace HU := Aside0.mk (bP HU.out hb)
   clear hb h2 h3
   refine hK.out _ _ ⟨kB HA.out.here.1.1 HU.out, kB HA.out.here.1.2 HU.out⟩ (fun _ => ?_)
   clear hK K
   refine norm_ (a' := ?_) ?_ ?_
   rotate_left
   ·show Act.put _ (some 96) _ = _
    simp only [Act.put, sI, sZ, sS, iW, jW]
    rfl
   refine two_ (i := 3) (j := 8) (Ni := some 98) (Nj := some 15) #[T,T,T,T,F,F,F,F,F,F,F] #[T,T,T,F,F,F,F,F,T,F,F] rfl rfl rfl rfl (two_of HT_.out (by kernel_rfl)) (by decide) (by decide) (fun K hK => ?_) (fun K hK => ?_)
   ·skip
    refine goes_ Try.func17 (by kernel_rfl) rfl #[.agg #[.int .i64 a1_0, .int .i64 a1_1, .slice A1_2 l1_2.length c1_2, .slice A1_3 l1_3.length c1_3]] (by rfl) rfl rfl (by (try simp only [List.map_toArray, List.map_cons, List.map_nil]); first | done | rfl | (simp only [List.length_drop, List.length_take]; rfl)) ?_
    with_reducible refine (laws_toGrammar.calls k a1_0 a1_1 _ _ l1_2 _ _ l1_3 y1 y2 y3 y4 _ (cB HR1_2.out (bP HB.out HU.out)) HC1_2.out (cB HR1_3.out (bP HB.out HU.out)) HC1_3.out EY.out).mono ?_
    rintro e_ z_ ⟨v2_, v3_, rfl, h2, h3, hb⟩
    refine ⟨_, rfl, ?_⟩
    obtain ⟨Ay2, capy2, rfl⟩ := Kd.R_slice h2
    obtain ⟨Ay3, capy3, rfl⟩ := Kd.R_slice h3
    replace Hx2 := Aside0.mk (rB Hx2.out hb)
    replace Hx3 := Aside0.mk (rB Hx3.out hb)
    have Hy2 := Aside0.mk h2
    have Hy3 := Aside0.mk h3
    replace HU := Aside0.mk (bP HU.out hb)
    clear hb h2 h3
    refine hK.out _ _ ⟨kB HA.out.here.1.1 HU.out, kB HA.out.here.1.2 HU.out⟩ (fun _ => ?_)
    clear hK K
    refine norm_ (a' := ?_) ?_ ?_
    rotate_left
    ·show Act.put _ (some 98) _ = _
     simp only [Act.put, sI, sZ, sS, iW, jW]
     rfl
    refine two_ (i := 4) (j := 8) (Ni := some 99) (Nj := some 15) #[T,T,T,T,T,F,F,F,F,F,F] #[T,T,T,T,F,F,F,F,T,F,F] rfl rfl rfl rfl (two_of HT_.out (by kernel_rfl)) (by decide) (by decide) (fun K hK => ?_) (fun K hK => ?_)
    ·skip
     refine goes_ Try.func18 (by kernel_rfl) rfl #[.agg #[.int .i64 x1, .int .i64 x2, .slice Ax2 x3.length capx2, .slice Ax3 x4.length capx3], .agg #[.int .i64 y1, .int .i64 y2, .slice Ay2 y3.length capy2, .slice Ay3 y4.length capy3]] (by rfl) rfl rfl (by (try simp only [List.map_toArray, List.map_cons, List.map_nil]); first | done | rfl | (simp only [List.length_drop, List.length_take]; rfl)) ?_
     with_reducible refine (impl_MeetGrammars.calls k x1 x2 _ _ x3 _ _ x4 y1 y2 _ _ y3 _ _ y4 g1 g2 g3 g4 g5 _ (Kd.R_reads' Hx2.out).2.2 (Kd.R_reads' Hx2.out).2.1 (Kd.R_reads' Hx3.out).2.2 (Kd.R_reads' Hx3.out).2.1 (Kd.R_reads' Hy2.out).2.2 (Kd.R_reads' Hy2.out).2.1 (Kd.R_reads' Hy3.out).2.2 (Kd.R_reads' Hy3.out).2.1 EG.out).mono ?_
     rintro e_ z_ ⟨v2_, v3_, rfl, h2, h3, hb⟩
     refine ⟨_, rfl, ?_⟩
     have HO2 := Aside0.mk (rL h2 (bZ (bP HB.out HU.out)))
     have HO3 := Aside0.mk (rL h3 (bZ (bP HB.out HU.out)))
     replace Hx2 := Aside0.mk (rB Hx2.out hb)
     replace Hx3 := Aside0.mk (rB Hx3.out hb)
     replace Hy2 := Aside0.mk (rB Hy2.out hb)
     replace Hy3 := Aside0.mk (rB Hy3.out hb)
     replace HU := Aside0.mk (bP HU.out hb)
     clear hb h2 h3
     refine hK.out _ _ ⟨kB HA.out.here.1.1 HU.out, kB HA.out.here.1.2 HU.out⟩ (fun _ => ?_)
     clear hK K
     refine norm_ (a' := ?_) ?_ ?_
     rotate_left
     ·show Act.put _ (some 99) _ = _
      simp only [Act.put, sI, sZ, sS, iW, jW]
      rfl
     refine pure_ (i := 5) (N := some 94) (v := ?_) (a' := ?_) #[T,T,T,T,T,T,F,F,F,F,F] rfl rfl (aO HT_.out (by kernel_rfl)) (fun _ _ _ h => h) (Or.inl ⟨by rfl, ?_⟩) ?_ ?_
     rotate_left
     ·intro z_
      go_simp
      with_reducible rfl
     rotate_left
     ·simp only [Act.put, sI, sZ, sS, iW, jW]
      rfl
     refine pure_ (i := 6) (N := some 100) (v := ?_) (a' := ?_) #[T,T,T,T,T,T,T,F,F,F,F] rfl rfl (aO HT_.out (by kernel_rfl)) (fun _ _ _ h => h) (Or.inl ⟨by rfl, ?_⟩) ?_ ?_
     rotate_left
     ·intro z_
      go_simp
      with_reducible rfl
     rotate_left
     ·simp only [Act.put, sI, sZ, sS, iW, jW]
      rfl
     refine pure_ (i := 7) (N := some 101) (v := ?_) (a' := ?_) #[T,T,T,T,T,T,T,T,F,F,F] rfl rfl (aO HT_.out (by kernel_rfl)) (fun _ _ _ h => h) (Or.inl ⟨by rfl, ?_⟩) ?_ ?_
     rotate_left
     ·intro z_
      go_simp
      with_reducible rfl
     rotate_left
     ·simp only [Act.put, sI, sZ, sS, iW, jW]
      rfl
     refine one_ (i := 8) (N := some 15) #[T,T,T,T,T,T,T,T,T,F,F] rfl rfl (oO HT_.out (by kernel_rfl)) (by decide) (fun K hK => ?_)
     refine box_step ?hg (N := 15) ?hd (cs := #[.int .i64 0, .int .i64 0, .slice none 0 0, .slice none 0 0]) (t := 39) ?hr ?_; (case hd => rfl); (case hg => rfl); (case hr => first | (go_simp; done) | (go_simp; rfl))
     intro go hg_ z_ hbox hb
     replace Hx2 := Aside0.mk (rB Hx2.out hb)
     replace Hx3 := Aside0.mk (rB Hx3.out hb)
     replace Hy2 := Aside0.mk (rB Hy2.out hb)
     replace Hy3 := Aside0.mk (rB Hy3.out hb)
     replace HO2 := Aside0.mk (rB HO2.out hb)
     replace HO3 := Aside0.mk (rB HO3.out hb)
     have HZ := Aside0.mk hbox
     have GZ := Aside0.mk (show t.heap.size ≤ go by rw [hg_]; exact bZ HU.out)
     clear hbox hg_
     replace HU := Aside0.mk (bP HU.out hb)
     clear hb
     refine hK.out _ _ ⟨kB HA.out.here.1.1 HU.out, kB HA.out.here.1.2 HU.out⟩ (fun _ => ?_)
     clear hK K
     refine norm_ (a' := ?_) ?_ ?_
     rotate_left
     ·show Act.put _ (some 15) _ = _
      simp only [Act.put, sI, sZ, sS, iW, jW]
      rfl
     exact norm_ (by simp only [putAll, Act.put, sI, sZ, sS]) (hCont (.slice Ax2 x3.length capx2, .slice Ax3 x4.length capx3, .slice Ay2 y3.length capy2, .slice Ay3 y4.length capy3, v2_, v3_, go) _ ⟨HU.out, HO2.out, HO3.out, HZ.out, GZ.out⟩)
    ·skip
     refine box_step ?hg (N := 15) ?hd (cs := #[.int .i64 0, .int .i64 0, .slice none 0 0, .slice none 0 0]) (t := 39) ?hr ?_; (case hd => rfl); (case hg => rfl); (case hr => first | (go_simp; done) | (go_simp; rfl))
     intro go hg_ z_ hbox hb
     replace Hx2 := Aside0.mk (rB Hx2.out hb)
     replace Hx3 := Aside0.mk (rB Hx3.out hb)
     replace Hy2 := Aside0.mk (rB Hy2.out hb)
     replace Hy3 := Aside0.mk (rB Hy3.out hb)
     have HZ := Aside0.mk hbox
     have GZ := Aside0.mk (show t.heap.size ≤ go by rw [hg_]; exact bZ HU.out)
     clear hbox hg_
     replace HU := Aside0.mk (bP HU.out hb)
     clear hb
     refine hK.out _ _ ⟨kB HA.out.here.1.1 HU.out, kB HA.out.here.1.2 HU.out⟩ (fun _ => ?_)
     clear hK K
     refine norm_ (a' := ?_) ?_ ?_
     rotate_left
     ·show Act.put _ (some 15) _ = _
      simp only [Act.put, sI, sZ, sS, iW, jW]
      rfl
     refine one_ (i := 4) (N := some 99) #[T,T,T,T,T,F,F,F,T,F,F] rfl rfl (oO HT_.out (by kernel_rfl)) (by decide) (fun K hK => ?_)
     refine goes_ Try.func18 (by kernel_rfl) rfl #[.agg #[.int .i64 x1, .int .i64 x2, .slice Ax2 x3.length capx2, .slice Ax3 x4.length capx3], .agg #[.int .i64 y1, .int .i64 y2, .slice Ay2 y3.length capy2, .slice Ay3 y4.length capy3]] (by rfl) rfl rfl (by (try simp only [List.map_toArray, List.map_cons, List.map_nil]); first | done | rfl | (simp only [List.length_drop, List.length_take]; rfl)) ?_
     with_reducible refine (impl_MeetGrammars.calls k x1 x2 _ _ x3 _ _ x4 y1 y2 _ _ y3 _ _ y4 g1 g2 g3 g4 g5 _ (Kd.R_reads' Hx2.out).2.2 (Kd.R_reads' Hx2.out).2.1 (Kd.R_reads' Hx3.out).2.2 (Kd.R_reads' Hx3.out).2.1 (Kd.R_reads' Hy2.out).2.2 (Kd.R_reads' Hy2.out).2.1 (Kd.R_reads' Hy3.out).2.2 (Kd.R_reads' Hy3.out).2.1 EG.out).mono ?_
     rintro e_ z_ ⟨v2_, v3_, rfl, h2, h3, hb⟩
     refine ⟨_, rfl, ?_⟩
     have HO2 := Aside0.mk (rL h2 (bZ (bP HB.out HU.out)))
     have HO3 := Aside0.mk (rL h3 (bZ (bP HB.out HU.out)))
     replace Hx2 := Aside0.mk (rB Hx2.out hb)
     replace Hx3 := Aside0.mk (rB Hx3.out hb)
     replace Hy2 := Aside0.mk (rB Hy2.out hb)
     replace Hy3 := Aside0.mk (rB Hy3.out hb)
     replace HZ := Aside0.mk (kB HZ.out hb)
     replace HU := Aside0.mk (bP HU.out hb)
     clear hb h2 h3
     refine hK.out _ _ ⟨kB HA.out.here.1.1 HU.out, kB HA.out.here.1.2 HU.out⟩ (fun _ => ?_)
     clear hK K
     refine norm_ (a' := ?_) ?_ ?_
     rotate_left
     ·show Act.put _ (some 99) _ = _
      simp only [Act.put, sI, sZ, sS, iW, jW]
      rfl
     refine pure_ (i := 5) (N := some 94) (v := ?_) (a' := ?_) #[T,T,T,T,T,T,F,F,T,F,F] rfl rfl (aO HT_.out (by kernel_rfl)) (fun _ _ _ h => h) (Or.inl ⟨by rfl, ?_⟩) ?_ ?_
     rotate_left
     ·intro z_
      go_simp
      with_reducible rfl
     rotate_left
     ·simp only [Act.put, sI, sZ, sS, iW, jW]
      rfl
     refine pure_ (i := 6) (N := some 100) (v := ?_) (a' := ?_) #[T,T,T,T,T,T,T,F,T,F,F] rfl rfl (aO HT_.out (by kernel_rfl)) (fun _ _ _ h => h) (Or.inl ⟨by rfl, ?_⟩) ?_ ?_
     rotate_left
     ·intro z_
      go_simp
      with_reducible rfl
     rotate_left
     ·simp only [Act.put, sI, sZ, sS, iW, jW]
      rfl
     refine pure_ (i := 7) (N := some 101) (v := ?_) (a' := ?_) #[T,T,T,T,T,T,T,T,T,F,F] rfl rfl (aO HT_.out (by kernel_rfl)) (fun _ _ _ h => h) (Or.inl ⟨by rfl, ?_⟩) ?_ ?_
     rotate_left
     ·intro z_
      go_simp
      with_reducible rfl
     rotate_left
     ·simp only [Act.put, sI, sZ, sS, iW, jW]
      rfl
     exact norm_ (by simp only [putAll, Act.put, sI, sZ, sS]) (hCont (.slice Ax2 x3.length capx2, .slice Ax3 x4.length capx3, .slice Ay2 y3.length capy2, .slice Ay3 y4.length capy3, v2_, v3_, go) _ ⟨HU.out, HO2.out, HO3.out, HZ.out, GZ.out⟩)
   ·skip
    refine box_step ?hg (N := 15) ?hd (cs := #[.int .i64 0, .int .i64 0, .slice none 0 0, .slice none 0 0]) (t := 39) ?hr ?_; (case hd => rfl); (case hg => rfl); (case hr => first | (go_simp; done) | (go_simp; rfl))
    intro go hg_ z_ hbox hb
    replace Hx2 := Aside0.mk (rB Hx2.out hb)
    replace Hx3 := Aside0.mk (rB Hx3.out hb)
    have HZ := Aside0.mk hbox
    have GZ := Aside0.mk (show t.heap.size ≤ go by rw [hg_]; exact bZ HU.out)
    clear hbox hg_
    replace HU := Aside0.mk (bP HU.out hb)
    clear hb
    refine hK.out _ _ ⟨kB HA.out.here.1.1 HU.out, kB HA.out.here.1.2 HU.out⟩ (fun _ => ?_)
    clear hK K
    refine norm_ (a' := ?_) ?_ ?_
    rotate_left
    ·show Act.put _ (some 15) _ = _
     simp only [Act.put, sI, sZ, sS, iW, jW]
     rfl
    refine one_ (i := 3) (N := some 98) #[T,T,T,T,F,F,F,F,T,F,F] rfl rfl (oO HT_.out (by kernel_rfl)) (by decide) (fun K hK => ?_)
    refine goes_ Try.func17 (by kernel_rfl) rfl #[.agg #[.int .i64 a1_0, .int .i64 a1_1, .slice A1_2 l1_2.length c1_2, .slice A1_3 l1_3.length c1_3]] (by rfl) rfl rfl (by (try simp only [List.map_toArray, List.map_cons, List.map_nil]); first | done | rfl | (simp only [List.length_drop, List.length_take]; rfl)) ?_
    with_reducible refine (laws_toGrammar.calls k a1_0 a1_1 _ _ l1_2 _ _ l1_3 y1 y2 y3 y4 _ (cB HR1_2.out (bP HB.out HU.out)) HC1_2.out (cB HR1_3.out (bP HB.out HU.out)) HC1_3.out EY.out).mono ?_
    rintro e_ z_ ⟨v2_, v3_, rfl, h2, h3, hb⟩
    refine ⟨_, rfl, ?_⟩
    obtain ⟨Ay2, capy2, rfl⟩ := Kd.R_slice h2
    obtain ⟨Ay3, capy3, rfl⟩ := Kd.R_slice h3
    replace Hx2 := Aside0.mk (rB Hx2.out hb)
    replace Hx3 := Aside0.mk (rB Hx3.out hb)
    replace HZ := Aside0.mk (kB HZ.out hb)
    have Hy2 := Aside0.mk h2
    have Hy3 := Aside0.mk h3
    replace HU := Aside0.mk (bP HU.out hb)
    clear hb h2 h3
    refine hK.out _ _ ⟨kB HA.out.here.1.1 HU.out, kB HA.out.here.1.2 HU.out⟩ (fun _ => ?_)
    clear hK K
    refine norm_ (a' := ?_) ?_ ?_
    rotate_left
    ·show Act.put _ (some 98) _ = _
     simp only [Act.put, sI, sZ, sS, iW, jW]
     rfl
    refine one_ (i := 4) (N := some 99) #[T,T,T,T,T,F,F,F,T,F,F] rfl rfl (oO HT_.out (by kernel_rfl)) (by decide) (fun K hK => ?_)
    refine goes_ Try.func18 (by kernel_rfl) rfl #[.agg #[.int .i64 x1, .int .i64 x2, .slice Ax2 x3.length capx2, .slice Ax3 x4.length capx3], .agg #[.int .i64 y1, .int .i64 y2, .slice Ay2 y3.length capy2, .slice Ay3 y4.length capy3]] (by rfl) rfl rfl (by (try simp only [List.map_toArray, List.map_cons, List.map_nil]); first | done | rfl | (simp only [List.length_drop, List.length_take]; rfl)) ?_
    with_reducible refine (impl_MeetGrammars.calls k x1 x2 _ _ x3 _ _ x4 y1 y2 _ _ y3 _ _ y4 g1 g2 g3 g4 g5 _ (Kd.R_reads' Hx2.out).2.2 (Kd.R_reads' Hx2.out).2.1 (Kd.R_reads' Hx3.out).2.2 (Kd.R_reads' Hx3.out).2.1 (Kd.R_reads' Hy2.out).2.2 (Kd.R_reads' Hy2.out).2.1 (Kd.R_reads' Hy3.out).2.2 (Kd.R_reads' Hy3.out).2.1 EG.out).mono ?_
    rintro e_ z_ ⟨v2_, v3_, rfl, h2, h3, hb⟩
    refine ⟨_, rfl, ?_⟩
    have HO2 := Aside0.mk (rL h2 (bZ (bP HB.out HU.out)))
    have HO3 := Aside0.mk (rL h3 (bZ (bP HB.out HU.out)))
    replace Hx2 := Aside0.mk (rB Hx2.out hb)
    replace Hx3 := Aside0.mk (rB Hx3.out hb)
    replace HZ := Aside0.mk (kB HZ.out hb)
    replace Hy2 := Aside0.mk (rB Hy2.out hb)
    replace Hy3 := Aside0.mk (rB Hy3.out hb)
    replace HU := Aside0.mk (bP HU.out hb)
    clear hb h2 h3
    refine hK.out _ _ ⟨kB HA.out.here.1.1 HU.out, kB HA.out.here.1.2 HU.out⟩ (fun _ => ?_)
    clear hK K
    refine norm_ (a' := ?_) ?_ ?_
    rotate_left
    ·show Act.put _ (some 99) _ = _
     simp only [Act.put, sI, sZ, sS, iW, jW]
     rfl
    refine pure_ (i := 5) (N := some 94) (v := ?_) (a' := ?_) #[T,T,T,T,T,T,F,F,T,F,F] rfl rfl (aO HT_.out (by kernel_rfl)) (fun _ _ _ h => h) (Or.inl ⟨by rfl, ?_⟩) ?_ ?_
    rotate_left
    ·intro z_
     go_simp
     with_reducible rfl
    rotate_left
    ·simp only [Act.put, sI, sZ, sS, iW, jW]
     rfl
    refine pure_ (i := 6) (N := some 100) (v := ?_) (a' := ?_) #[T,T,T,T,T,T,T,F,T,F,F] rfl rfl (aO HT_.out (by kernel_rfl)) (fun _ _ _ h => h) (Or.inl ⟨by rfl, ?_⟩) ?_ ?_
    rotate_left
    ·intro z_
     go_simp
     with_reducible rfl
    rotate_left
    ·simp only [Act.put, sI, sZ, sS, iW, jW]
     rfl
    refine pure_ (i := 7) (N := some 101) (v := ?_) (a' := ?_) #[T,T,T,T,T,T,T,T,T,F,F] rfl rfl (aO HT_.out (by kernel_rfl)) (fun _ _ _ h => h) (Or.inl ⟨by rfl, ?_⟩) ?_ ?_
    rotate_left
    ·intro z_
     go_simp
     with_reducible rfl
    rotate_left
    ·simp only [Act.put, sI, sZ, sS, iW, jW]
     rfl
    exact norm_ (by simp only [putAll, Act.put, sI, sZ, sS]) (hCont (.slice Ax2 x3.length capx2, .slice Ax3 x4.length capx3, .slice Ay2 y3.length capy2, .slice Ay3 y4.length capy3, v2_, v3_, go) _ ⟨HU.out, HO2.out, HO3.out, HZ.out, GZ.out⟩)
  ·skip
   refine box_step ?hg (N := 15) ?hd (cs := #[.int .i64 0, .int .i64 0, .slice none 0 0, .slice none 0 0]) (t := 39) ?hr ?_; (case hd => rfl); (case hg => rfl); (case hr => first | (go_simp; done) | (go_simp; rfl))
   intro go hg_ z_ hbox hb
   have HZ := Aside0.mk hbox
   have GZ := Aside0.mk (show t.heap.size ≤ go by rw [hg_]; exact bZ HU.out)
   clear hbox hg_
   replace HU := Aside0.mk (bP HU.out hb)
   clear hb
   refine hK.out _ _ ⟨kB HA.out.here.1.1 HU.out, kB HA.out.here.1.2 HU.out⟩ (fun _ => ?_)
   clear hK K
   refine norm_ (a' := ?_) ?_ ?_
   rotate_left
   ·show Act.put _ (some 15) _ = _
    simp only [Act.put, sI, sZ, sS, iW, jW]
    rfl
   refine one_ (i := 1) (N := some 96) #[T,T,T,F,F,F,F,F,T,F,F] rfl rfl (oO HT_.out (by kernel_rfl)) (by decide) (fun K hK => ?_)
   refine goes_ Try.func17 (by kernel_rfl) rfl #[.agg #[.int .i64 a0_0, .int .i64 a0_1, .slice A0_2 l0_2.length c0_2, .slice A0_3 l0_3.length c0_3]] (by rfl) rfl rfl (by (try simp only [List.map_toArray, List.map_cons, List.map_nil]); first | done | rfl | (simp only [List.length_drop, List.length_take]; rfl)) ?_
   with_reducible refine (laws_toGrammar.calls k a0_0 a0_1 _ _ l0_2 _ _ l0_3 x1 x2 x3 x4 _ (cB HR0_2.out (bP HB.out HU.out)) HC0_2.out (cB HR0_3.out (bP HB.out HU.out)) HC0_3.out EX.out).mono ?_
   rintro e_ z_ ⟨v2_, v3_, rfl, h2, h3, hb⟩
   refine ⟨_, rfl, ?_⟩
   obtain ⟨Ax2, capx2, rfl⟩ := Kd.R_slice h2
   obtain ⟨Ax3, capx3, rfl⟩ := Kd.R_slice h3
   replace HZ := Aside0.mk (kB HZ.out hb)
   have Hx2 := Aside0.mk h2
   have Hx3 := Aside0.mk h3
   replace HU := Aside0.mk (bP HU.out hb)
   clear hb h2 h3
   refine hK.out _ _ ⟨kB HA.out.here.1.1 HU.out, kB HA.out.here.1.2 HU.out⟩ (fun _ => ?_)
   clear hK K
   refine norm_ (a' := ?_) ?_ ?_
   rotate_left
   ·show Act.put _ (some 96) _ = _
    simp only [Act.put, sI, sZ, sS, iW, jW]
    rfl
   refine one_ (i := 3) (N := some 98) #[T,T,T,T,F,F,F,F,T,F,F] rfl rfl (oO HT_.out (by kernel_rfl)) (by decide) (fun K hK => ?_)
   refine goes_ Try.func17 (by kernel_rfl) rfl #[.agg #[.int .i64 a1_0, .int .i64 a1_1, .slice A1_2 l1_2.length c1_2, .slice A1_3 l1_3.length c1_3]] (by rfl) rfl rfl (by (try simp only [List.map_toArray, List.map_cons, List.map_nil]); first | done | rfl | (simp only [List.length_drop, List.length_take]; rfl)) ?_
   with_reducible refine (laws_toGrammar.calls k a1_0 a1_1 _ _ l1_2 _ _ l1_3 y1 y2 y3 y4 _ (cB HR1_2.out (bP HB.out HU.out)) HC1_2.out (cB HR1_3.out (bP HB.out HU.out)) HC1_3.out EY.out).mono ?_
   rintro e_ z_ ⟨v2_, v3_, rfl, h2, h3, hb⟩
   refine ⟨_, rfl, ?_⟩
   obtain ⟨Ay2, capy2, rfl⟩ := Kd.R_slice h2
   obtain ⟨Ay3, capy3, rfl⟩ := Kd.R_slice h3
   replace HZ := Aside0.mk (kB HZ.out hb)
   replace Hx2 := Aside0.mk (rB Hx2.out hb)
   replace Hx3 := Aside0.mk (rB Hx3.out hb)
   have Hy2 := Aside0.mk h2
   have Hy3 := Aside0.mk h3
   replace HU := Aside0.mk (bP HU.out hb)
   clear hb h2 h3
   refine hK.out _ _ ⟨kB HA.out.here.1.1 HU.out, kB HA.out.here.1.2 HU.out⟩ (fun _ => ?_)
   clear hK K
   refine norm_ (a' := ?_) ?_ ?_
   rotate_left
   ·show Act.put _ (some 98) _ = _
    simp only [Act.put, sI, sZ, sS, iW, jW]
    rfl
   refine one_ (i := 4) (N := some 99) #[T,T,T,T,T,F,F,F,T,F,F] rfl rfl (oO HT_.out (by kernel_rfl)) (by decide) (fun K hK => ?_)
   refine goes_ Try.func18 (by kernel_rfl) rfl #[.agg #[.int .i64 x1, .int .i64 x2, .slice Ax2 x3.length capx2, .slice Ax3 x4.length capx3], .agg #[.int .i64 y1, .int .i64 y2, .slice Ay2 y3.length capy2, .slice Ay3 y4.length capy3]] (by rfl) rfl rfl (by (try simp only [List.map_toArray, List.map_cons, List.map_nil]); first | done | rfl | (simp only [List.length_drop, List.length_take]; rfl)) ?_
   with_reducible refine (impl_MeetGrammars.calls k x1 x2 _ _ x3 _ _ x4 y1 y2 _ _ y3 _ _ y4 g1 g2 g3 g4 g5 _ (Kd.R_reads' Hx2.out).2.2 (Kd.R_reads' Hx2.out).2.1 (Kd.R_reads' Hx3.out).2.2 (Kd.R_reads' Hx3.out).2.1 (Kd.R_reads' Hy2.out).2.2 (Kd.R_reads' Hy2.out).2.1 (Kd.R_reads' Hy3.out).2.2 (Kd.R_reads' Hy3.out).2.1 EG.out).mono ?_
   rintro e_ z_ ⟨v2_, v3_, rfl, h2, h3, hb⟩
   refine ⟨_, rfl, ?_⟩
   have HO2 := Aside0.mk (rL h2 (bZ (bP HB.out HU.out)))
   have HO3 := Aside0.mk (rL h3 (bZ (bP HB.out HU.out)))
   replace HZ := Aside0.mk (kB HZ.out hb)
   replace Hx2 := Aside0.mk (rB Hx2.out hb)
   replace Hx3 := Aside0.mk (rB Hx3.out hb)
   replace Hy2 := Aside0.mk (rB Hy2.out hb)
   replace Hy3 := Aside0.mk (rB Hy3.out hb)
   replace HU := Aside0.mk (bP HU.out hb)
   clear hb h2 h3
   refine hK.out _ _ ⟨kB HA.out.here.1.1 HU.out, kB HA.out.here.1.2 HU.out⟩ (fun _ => ?_)
   clear hK K
   refine norm_ (a' := ?_) ?_ ?_
   rotate_left
   ·show Act.put _ (some 99) _ = _
    simp only [Act.put, sI, sZ, sS, iW, jW]
    rfl
   refine pure_ (i := 5) (N := some 94) (v := ?_) (a' := ?_) #[T,T,T,T,T,T,F,F,T,F,F] rfl rfl (aO HT_.out (by kernel_rfl)) (fun _ _ _ h => h) (Or.inl ⟨by rfl, ?_⟩) ?_ ?_
   rotate_left
   ·intro z_
    go_simp
    with_reducible rfl
   rotate_left
   ·simp only [Act.put, sI, sZ, sS, iW, jW]
    rfl
   refine pure_ (i := 6) (N := some 100) (v := ?_) (a' := ?_) #[T,T,T,T,T,T,T,F,T,F,F] rfl rfl (aO HT_.out (by kernel_rfl)) (fun _ _ _ h => h) (Or.inl ⟨by rfl, ?_⟩) ?_ ?_
   rotate_left
   ·intro z_
    go_simp
    with_reducible rfl
   rotate_left
   ·simp only [Act.put, sI, sZ, sS, iW, jW]
    rfl
   refine pure_ (i := 7) (N := some 101) (v := ?_) (a' := ?_) #[T,T,T,T,T,T,T,T,T,F,F] rfl rfl (aO HT_.out (by kernel_rfl)) (fun _ _ _ h => h) (Or.inl ⟨by rfl, ?_⟩) ?_ ?_
   rotate_left
   ·intro z_
    go_simp
    with_reducible rfl
   rotate_left
   ·simp only [Act.put, sI, sZ, sS, iW, jW]
    rfl
   exact norm_ (by simp only [putAll, Act.put, sI, sZ, sS]) (hCont (.slice Ax2 x3.length capx2, .slice Ax3 x4.length capx3, .slice Ay2 y3.length capy2, .slice Ay3 y4.length capy3, v2_, v3_, go) _ ⟨HU.out, HO2.out, HO3.out, HZ.out, GZ.out⟩)
 rintro ⟨w1_, w2_, w3_, w4_, w5_, w6_, gh⟩ t1 ⟨hu, h2, h3, hz, hge⟩
 obtain ⟨Ah2, caph2, e2_⟩ := Kd.R_slice h2
 obtain ⟨Ah3, caph3, e3_⟩ := Kd.R_slice h3
 dsimp only at e2_ e3_ h2 h3 hz hge
 subst e2_ e3_
 refine norm_ (a' := ?_) ?_ ?_
 rotate_left
 ·simp only [putAll, Act.put, sI, sZ, sS]
  rfl
 refine one_ (i := 9) (N := none) #[T,T,T,T,T,T,T,T,T,T,F] rfl rfl (oO HT_.out (by kernel_rfl)) (by decide) (fun K hK => ?_)
 have cs0 : (t1).cell? ⟨gh, 0, none⟩ = some (.int .i64 0) := (kC hz 0).trans rfl
 have fs0 := blk_frozen hz 0
 have cs1 : (t1).cell? ⟨gh, 1, none⟩ = some (.int .i64 0) := (kC hz 1).trans rfl
 have fs1 := blk_frozen hz 1
 have cs2 : (t1).cell? ⟨gh, 2, none⟩ = some (.slice none 0 0) := (kC hz 2).trans rfl
 have fs2 := blk_frozen hz 2
 have cs3 : (t1).cell? ⟨gh, 3, none⟩ = some (.slice none 0 0) := (kC hz 3).trans rfl
 have fs3 := blk_frozen hz 3
 refine skipE (w1 := ((((t1.setCell ⟨gh, 0, none⟩ (.int .i64 g1)).setCell ⟨gh, 1, none⟩ (.int .i64 g2)).setCell ⟨gh, 2, none⟩ (.slice Ah2 g3.length caph2)).setCell ⟨gh, 3, none⟩ (.slice Ah3 g4.length caph3))) (by rfl) rfl ?hr (fun t2 hw_ => ?_)
 case hr => first | (go_simp; done) | (go_simp; rfl)
 clear cs0 fs0 cs1 fs1 cs2 fs2 cs3 fs3
 obtain ⟨hz2, hk2⟩ := put4 hz hw_
 have h22 := r_put4 h2 hz (by decide) hw_
 have h32 := r_put4 h3 hz (by decide) hw_
 have hb2 := below_put4 (bP HB.out hu) (Nat.le_trans (bZ HB.out) hge) hw_
 replace HA := Aside0.mk (Live.kept (Live.below HA.out hu) hk2 (fun k_ _ h_ => by have := HA.out.size; omega))
 replace HG := Aside0.mk (Live.kept (Live.below HG.out hu) hk2 (fun k_ _ h_ => by have := HG.out.size; omega))
 replace HB := Aside0.mk hb2
 clear hw_ hk2 h2 h3 hz hu hb2 HU hHeld
 refine hK.out _ _ ⟨HA.out.here.1.1, HA.out.here.1.2⟩ (fun _ => ?_)
 clear hK K
 refine pure_ (i := 10) (N := some 16) (v := ?_) (a' := ?_) #[T,T,T,T,T,T,T,T,T,T,T] rfl rfl (aO HT_.out (by kernel_rfl)) (fun _ _ _ h => h) (Or.inl ⟨by rfl, ?_⟩) ?_ ?_
 rotate_left
 ·intro z_
  go_simp
  with_reducible rfl
 rotate_left
 ·simp only [Act.put, sI, sZ, sS, iW, jW]
  rfl
 refine done_ (done_of HT_.out (by kernel_rfl)) ?_
 clear HT_ HW_
 have ch0 : (t2).cell? ⟨gh, 0, none⟩ = some (.int .i64 g1) := (kC hz2 0).trans rfl
 have fh0 := blk_frozen hz2 0
 have ch1 : (t2).cell? ⟨gh, 1, none⟩ = some (.int .i64 g2) := (kC hz2 1).trans rfl
 have fh1 := blk_frozen hz2 1
 have ch2 : (t2).cell? ⟨gh, 2, none⟩ = some (.slice Ah2 g3.length caph2) := (kC hz2 2).trans rfl
 have fh2 := blk_frozen hz2 2
 have ch3 : (t2).cell? ⟨gh, 3, none⟩ = some (.slice Ah3 g4.length caph3) := (kC hz2 3).trans rfl
 have fh3 := blk_frozen hz2 3
 have cw0 : (t2).cell? ⟨gs, 0, none⟩ = some (.int .i64 s1) := (kC HA.out.here.2.1 0).trans rfl
 have fw0 := blk_frozen HA.out.here.2.1 0
 have cw1 : (t2).cell? ⟨gs, 1, none⟩ = some (.int .i64 s2) := (kC HA.out.here.2.1 1).trans rfl
 have fw1 := blk_frozen HA.out.here.2.1 1
 have cw2 : (t2).cell? ⟨gs, 2, none⟩ = some (.slice As2 s3.length caps2) := (kC HA.out.here.2.1 2).trans rfl
 have fw2 := blk_frozen HA.out.here.2.1 2
 have cw3 : (t2).cell? ⟨gs, 3, none⟩ = some (.slice As3 s4.length caps3) := (kC HA.out.here.2.1 3).trans rfl
 have fw3 := blk_frozen HA.out.here.2.1 3
 have HH2 := Aside0.mk h22
 have HH3 := Aside0.mk h32
 clear h22 h32 hz2 hge
 go_wp2_with (first | ((with_reducible refine gC (f := 19) rfl ?_); refine goesL_ (some 104) rfl rfl Try.func19 (by kernel_rfl) rfl #[.agg #[.int .i64 g1, .int .i64 g2, .slice Ah2 g3.length caph2, .slice Ah3 g4.length caph3], .agg #[.int .i64 s1, .int .i64 s2, .slice As2 s3.length caps2, .slice As3 s4.length caps3]] rfl (by (try simp only [List.map_toArray, List.map_cons, List.map_nil]); first | done | rfl | (simp only [List.length_drop, List.length_take]; rfl)) ?_; (with_reducible refine (laws_eqGrammar.calls k g1 g2 _ _ g3 _ _ g4 s1 s2 _ _ s3 _ _ s4 true _ (Kd.R_reads' HH2.out).2.2 (Kd.R_reads' HH2.out).2.1 (Kd.R_reads' HH3.out).2.2 (Kd.R_reads' HH3.out).2.1 (Kd.R_reads' HA.out.here.2.2.1).2.2 (Kd.R_reads' HA.out.here.2.2.1).2.1 (Kd.R_reads' HA.out.here.2.2.2).2.2 (Kd.R_reads' HA.out.here.2.2.2).2.1 ET1.out).mono ?_); rintro e t3 ⟨rfl, hb⟩; refine ⟨_, rfl, ?_⟩; clear ch0 fh0 ch1 fh1 ch2 fh2 ch3 fh3; clear cw0 fw0 cw1 fw1 cw2 fw2 cw3 fw3; have HB2 := Aside0.mk (bP (by repeat (first | exact HB.out | apply bN | apply bD | apply bA)) hb); replace HG := Aside0.mk (HG.out.below hb); clear HB hb HA HH2 HH3; have HB := HB2; clear HB2; have cg0 : (t3).cell? ⟨gg, 0, none⟩ = some (.int .i64 g1) := (kC HG.out.here.1 0).trans rfl; have fg0 := blk_frozen HG.out.here.1 0; have cg1 : (t3).cell? ⟨gg, 1, none⟩ = some (.int .i64 g2) := (kC HG.out.here.1 1).trans rfl; have fg1 := blk_frozen HG.out.here.1 1; have cg2 : (t3).cell? ⟨gg, 2, none⟩ = some (.slice Ag2 g3.length capg2) := (kC HG.out.here.1 2).trans rfl; have fg2 := blk_frozen HG.out.here.1 2; have cg3 : (t3).cell? ⟨gg, 3, none⟩ = some (.slice Ag3 g4.length capg3) := (kC HG.out.here.1 3).trans rfl; have fg3 := blk_frozen HG.out.here.1 3) | ((with_reducible refine gC (f := 21) rfl ?_); refine goesL_ (some 113) rfl rfl Try.func21 (by kernel_rfl) rfl #[.agg #[.int .i64 g1, .int .i64 g2, .slice Ag2 g3.length capg2, .slice Ag3 g4.length capg3], .int .i64 1] rfl (by (try simp only [List.map_toArray, List.map_cons, List.map_nil]); first | done | rfl | (simp only [List.length_drop, List.length_take]; rfl)) ?_; have hc_ := fun w_ => laws_heldGrammar.calls k g1 g2 Ag2 capg2 mg3 Ag3 capg3 mg4 1 q w_; simp only [← NG3.out, ← NG4.out] at hc_; refine (hc_ _ ?s1 ?s2 ?s3 ?s4 EQ.out).mono ?_; (case s1 => rw [NG3.out]; exact (Kd.R_reads' HG.out.here.2.1).2.2); (case s2 => exact (Kd.R_reads' HG.out.here.2.1).2.1); (case s3 => rw [NG4.out]; exact (Kd.R_reads' HG.out.here.2.2).2.2); (case s4 => exact (Kd.R_reads' HG.out.here.2.2).2.1); rintro e t4 ⟨rfl, hb⟩; refine ⟨_, rfl, ?_⟩; clear cg0 fg0 cg1 fg1 cg2 fg2 cg3 fg3; clear hc_; have HB2 := Aside0.mk (bP (by repeat (first | exact HB.out | apply bN | apply bD | apply bA)) hb); replace HG := Aside0.mk (HG.out.below hb); clear HB hb; have HB := HB2; clear HB2))
 go_ret
 exact ⟨rfl, (by repeat (first | exact HB.out | apply bN | apply bD | apply bA))⟩

end Go.Proofs.Yteljnbhbpidjpaa.G
-- shrunk
-- tight
