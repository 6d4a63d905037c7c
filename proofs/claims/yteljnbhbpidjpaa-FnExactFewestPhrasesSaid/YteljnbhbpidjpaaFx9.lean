/- What functions of the given program compute, as plain Lean functions, and that the code comes to just that; by a program of this session over the kit's print. No condition. -/
import Derived.Test.YteljnbhbpidjpaaFx0
import Derived.Test.YteljnbhbpidjpaaFx1
import Derived.Test.YteljnbhbpidjpaaFx2
import Derived.Test.YteljnbhbpidjpaaFx4
import Derived.Test.YteljnbhbpidjpaaFx5
import Derived.Test.YteljnbhbpidjpaaFx7
import Derived.Test.YteljnbhbpidjpaaFx8
namespace Go.Proofs.Yteljnbhbpidjpaa.F
open Go.RowKit Go.Proofs.YteljnbhbpidjpaaW.PrintWords Go.Proofs.YteljnbhbpidjpaaW.PrintLast Go.Proofs.YteljnbhbpidjpaaW.PrintMore
open Go.Proofs.YteljnbhbpidjpaaW.PrintWords renaming below_alloc → bA, pw_below_drewN → bN, below_drew1 → bD, below_set → bS, blk_drewN → kN, blk_drew → kD, blk_alloc → kA, blk_below → kB, below_size → bZ, below_step → bP, gate_callee → gC, box_event → bE, blk_cell → kC
open Go.Proofs.YteljnbhbpidjpaaW.PrintLast renaming i64_w → iW, i32_w → jW
open Go.Proofs.YteljnbhbpidjpaaW.PrintWords.Kd renaming R_drewN → rN, R_drew → rD, C_below → cB, R_lower → rL, R_below → rB, R_mono → rM
open List renaming setIfInBounds_toArray → sI, set_cons_zero → sZ, set_cons_succ → sS
open Bool renaming true → T, false → F
attribute [local go_sem] max2_int min2_int max_two min_two max_three min_three max_four min_four   -- for this text's walks alone
set_option linter.unusedVariables false
set_option linter.unusedSimpArgs false

/-! ### spec_FewestPhrases: function 6 -/
/-- A block of another element type is not the row's. -/
theorem srow_ne {α : Type} {d : Kd α} {e base g t : Nat} {W : World} {ok : Nat → Prop} {v : Value} {xs : List α} {cs : Array Value} (hb : W.heap[g]? = some (.cells cs t (0, 0))) (h : d.R e W base ok v xs) (hne : t ≠ e) : some g ≠ v.ownBlock := fun he => by
 obtain ⟨_, inner, ho, _⟩ := h
 obtain ⟨cells, hc⟩ := own_typed ho g he.symm
 rw [hb] at hc
 injection hc with hc
 injection hc with _ hc
 exact hne hc
theorem srow_grown {α β : Type} {d : Kd α} {d' : Kd β} {e e' base base' : Nat} {W W1 : World} {ok ok' : Nat → Prop} {v v' : Value} {xs : List α} {ys : List β} (h : d.R e W base ok v xs) (h' : d'.R e' W base' ok' v' ys) (ht : ∀ q, q ∈ e' :: d'.E → q ≠ e) (hg : W.grownBy W1 v.ownBlock) : d'.R e' W1 base' ok' v' ys :=
 rM (Kd.R_grown (Kd.R_bound h') hg (fun k hk he => by
  obtain ⟨_, _, _, q, hq, cells, hc⟩ := hk
  exact srow_ne hc h (ht q hq) he)) (fun _ hk => hk.1)
abbrev DSS : Kd (List Int) := Kd.slice 2 (Kd.int .i64)
mutual
def run.f : Nat → List Int → List (List Int) → Int → Int → Int → List Int → List (List Int) → Int → Bool → Int → Option (Bool × List Int × List (List Int) × Int × Bool)
 | 0, _, _, _, _, _, _, _, _, _, _ => none
 | k + 1, x, l, want, n, budget, st, ch, nodes, full, from_ => if (st.length : Int) = n then (if nodes = budget then some (false, st, ch, nodes, true) else (spec_l06Covered.f k x ch).bind fun c => (spec_l06Count.f k c).bind fun m => some (decide (m = want), st, ch, wrap64 (nodes + 1), full)) else run.l k x l want n budget st ch nodes full from_
def run.l : Nat → List Int → List (List Int) → Int → Int → Int → List Int → List (List Int) → Int → Bool → Int → Option (Bool × List Int × List (List Int) × Int × Bool)
 | 0, _, _, _, _, _, _, _, _, _, _ => none
 | k + 1, x, l, want, n, budget, st, ch, nodes, full, i => if i < (l.length : Int) then (if full = true then some (false, st, ch, nodes, full) else (if 0 ≤ i ∧ st.length < 1000 ∧ ch.length < 1000 then ((run.f k x l want n budget (st ++ [i]) (ch ++ [rd_L1 l i]) nodes full (wrap64 (i + 1))).bind fun r => if r.1 = true then some (true, r.2) else (if (1 ≤ r.2.1.length ∧ r.2.1.length < 1001) ∧ 1 ≤ r.2.2.1.length ∧ r.2.2.1.length < 1001 then run.l k x l want n budget (r.2.1.take (r.2.1.length - 1)) (r.2.2.1.take (r.2.2.1.length - 1)) r.2.2.2.1 r.2.2.2.2 (wrap64 (i + 1)) else none)) else none)) else some (false, st, ch, nodes, full)
end
abbrev SSt (pv lv : Value) (want n : Int) (sv cv : Value) (nodes budget : Int) (full : Bool) : Obj := .cells #[pv, lv, .int .i64 want, .int .i64 n, sv, cv, .int .i64 nodes, .int .i64 budget, .bool full] 54 (0, 0)
/-- What is known of a search in memory. -/
structure SAt (w0 W : World) (g : Nat) (pv lv : Value) (want n budget : Int) (st : List Int) (sv : Value) (ch : List (List Int)) (cv : Value) (nodes : Int) (full : Bool) : Prop where
 below : Below w0.heap.size w0 W
 box : W.heap[g]? = some (SSt pv lv want n sv cv nodes budget full)
 row : Kd.R (Kd.int .i64) 2 W w0.heap.size (fun _ => True) sv st
 chs : Kd.R (Kd.fixed DSS w0) 22 W w0.heap.size (fun _ => True) cv ch
theorem fx54 (w0 : World) : ∀ q, q ∈ 22 :: (Kd.fixed DSS w0).E → q ≠ 54 := fun q hq => by
 obtain rfl : q = 22 := by simpa [Kd.fixed] using hq
 decide
theorem fx2 (w0 : World) : ∀ q, q ∈ 22 :: (Kd.fixed DSS w0).E → q ≠ 2 := fun q hq => by
 obtain rfl : q = 22 := by simpa [Kd.fixed] using hq
 decide
section
variable {w0 W W1 W2 : World} {g : Nat} {pv lv : Value} {want n budget : Int} {st st2 : List Int} {sv sv2 : Value} {ch ch2 : List (List Int)} {cv cv2 : Value} {nodes nodes2 : Int} {full full2 : Bool}
theorem SAt.drew (h : SAt w0 W g pv lv want n budget st sv ch cv nodes full) : SAt w0 W.drew g pv lv want n budget st sv ch cv nodes full := ⟨bD h.below, kD h.box, rD h.row, rD h.chs⟩
theorem SAt.drewN (h : SAt w0 W g pv lv want n budget st sv ch cv nodes full) (m : Nat) : SAt w0 (W.drewN m) g pv lv want n budget st sv ch cv nodes full := ⟨bN h.below m, kN h.box m, rN h.row m, rN h.chs m⟩
theorem SAt.onto (h : SAt w0 W g pv lv want n budget st sv ch cv nodes full) (hb : Below W.heap.size W W1) : SAt w0 W1 g pv lv want n budget st sv ch cv nodes full := ⟨bP h.below hb, kB h.box hb, rB h.row hb, rB h.chs hb⟩
theorem SAt.put3 {n2 : Int} (h : SAt w0 W g pv lv want n budget st sv ch cv nodes full) (hg : w0.heap.size ≤ g) (hw : W2 = W.setCell ⟨g, 3, none⟩ (.int .i64 n2)) : SAt w0 W2 g pv lv want n2 budget st sv ch cv nodes full := by
 subst hw
 exact ⟨bS h.below hg, blk_put h.box 3 _ rfl, Kd.R_set h.row h.box (by decide) 3 _, Kd.R_set h.chs h.box (fx54 w0) 3 _⟩
theorem SAt.put4 (h : SAt w0 W g pv lv want n budget st sv ch cv nodes full) (hr : Kd.R (Kd.int .i64) 2 W w0.heap.size (fun _ => True) sv2 st2) (hg : w0.heap.size ≤ g) (hw : W2 = W.setCell ⟨g, 4, none⟩ sv2) : SAt w0 W2 g pv lv want n budget st2 sv2 ch cv nodes full := by
 subst hw
 exact ⟨bS h.below hg, blk_put h.box 4 _ rfl, Kd.R_set hr h.box (by decide) 4 _, Kd.R_set h.chs h.box (fx54 w0) 4 _⟩
theorem SAt.put5 (h : SAt w0 W g pv lv want n budget st sv ch cv nodes full) (hr : Kd.R (Kd.fixed DSS w0) 22 W w0.heap.size (fun _ => True) cv2 ch2) (hg : w0.heap.size ≤ g) (hw : W2 = W.setCell ⟨g, 5, none⟩ cv2) : SAt w0 W2 g pv lv want n budget st sv ch2 cv2 nodes full := by
 subst hw
 exact ⟨bS h.below hg, blk_put h.box 5 _ rfl, Kd.R_set h.row h.box (by decide) 5 _, Kd.R_set hr h.box (fx54 w0) 5 _⟩
theorem SAt.put6 (h : SAt w0 W g pv lv want n budget st sv ch cv nodes full) (hg : w0.heap.size ≤ g) (hw : W2 = W.setCell ⟨g, 6, none⟩ (.int .i64 nodes2)) : SAt w0 W2 g pv lv want n budget st sv ch cv nodes2 full := by
 subst hw
 exact ⟨bS h.below hg, blk_put h.box 6 _ rfl, Kd.R_set h.row h.box (by decide) 6 _, Kd.R_set h.chs h.box (fx54 w0) 6 _⟩
theorem SAt.put8 (h : SAt w0 W g pv lv want n budget st sv ch cv nodes full) (hg : w0.heap.size ≤ g) (hw : W2 = W.setCell ⟨g, 8, none⟩ (.bool full2)) : SAt w0 W2 g pv lv want n budget st sv ch cv nodes full2 := by
 subst hw
 exact ⟨bS h.below hg, blk_put h.box 8 _ rfl, Kd.R_set h.row h.box (by decide) 8 _, Kd.R_set h.chs h.box (fx54 w0) 8 _⟩
theorem SAt.grew4 (h : SAt w0 W g pv lv want n budget st sv ch cv nodes full) (hgr : W.grownBy W1 sv.ownBlock) (hb : Below w0.heap.size w0 W1) (hr : Kd.R (Kd.int .i64) 2 W1 w0.heap.size (fun _ => True) sv2 st2) (hg : w0.heap.size ≤ g) (hw : W2 = W1.setCell ⟨g, 4, none⟩ sv2) : SAt w0 W2 g pv lv want n budget st2 sv2 ch cv nodes full := by
 have hk : W1.heap[g]? = some (SSt pv lv want n sv cv nodes budget full) := blk_grown h.box hgr (srow_ne h.box h.row (by decide))
 have hc : Kd.R (Kd.fixed DSS w0) 22 W1 w0.heap.size (fun _ => True) cv ch := srow_grown h.row h.chs (fx2 w0) hgr
 subst hw
 exact ⟨bS hb hg, blk_put hk 4 _ rfl, Kd.R_set hr hk (by decide) 4 _, Kd.R_set hc hk (fx54 w0) 4 _⟩
theorem SAt.grew5 (h : SAt w0 W g pv lv want n budget st sv ch cv nodes full) (hgr : W.grownBy W1 cv.ownBlock) (hb : Below w0.heap.size w0 W1) (hr : Kd.R (Kd.fixed DSS w0) 22 W1 w0.heap.size (fun _ => True) cv2 ch2) (hg : w0.heap.size ≤ g) (hw : W2 = W1.setCell ⟨g, 5, none⟩ cv2) : SAt w0 W2 g pv lv want n budget st sv ch2 cv2 nodes full := by
 have hk : W1.heap[g]? = some (SSt pv lv want n sv cv nodes budget full) := blk_grown h.box hgr (srow_ne h.box h.chs (by decide))
 have hc : Kd.R (Kd.int .i64) 2 W1 w0.heap.size (fun _ => True) sv st := srow_grown h.chs h.row (by decide) hgr
 subst hw
 exact ⟨bS hb hg, blk_put hk 5 _ rfl, Kd.R_set hc hk (by decide) 5 _, Kd.R_set hr hk (fx54 w0) 5 _⟩
/-- The chosen rows are read now. -/
theorem SAt.reads {A : Option Addr} {c m : Nat} (h : SAt w0 W g pv lv want n budget st sv ch (.slice A m c) nodes full) : m = ch.length ∧ m ≤ c ∧ DSS.C W A ch.length ch := by
 obtain ⟨h1, h2, h3⟩ := Kd.R_reads' h.chs
 exact ⟨h1, h2, ReadsRow.imp_ h3 (Below.refl _ _) (fun _ _ hq => DSS.K_below h.below hq)⟩
end
set_option maxHeartbeats 8000000 in
set_option maxRecDepth 100000 in
theorem run.calls (w0 : World) (Ap : Option Addr) (cp : Nat) (x : List Int) (Al : Option Addr) (cl : Nat) (l : List (List Int)) (hp : Kd.C (Kd.int .i64) w0 Ap x.length x) (hcp : x.length ≤ cp) (hl : Kd.C DSS w0 Al l.length l) (hcl : l.length ≤ cl) (k : Nat) : ∀ (want n budget : Int) (st : List Int) (sv : Value) (ch : List (List Int)) (cv : Value) (nodes : Int) (full : Bool) (from_ : Int) (r1 : Bool) (r2 : List Int) (r3 : List (List Int)) (r4 : Int) (r5 : Bool) (g : Nat) (w : World),
  w0.heap.size ≤ g → SAt w0 w g (.slice Ap x.length cp) (.slice Al l.length cl) want n budget st sv ch cv nodes full → run.f k x l want n budget st ch nodes full from_ = some (r1, r2, r3, r4, r5) →
  Calls Try.prog 28 #[.pointer (some ⟨g, 0, none⟩), .int .i64 from_] w fun e w' => e = .returned (.bool r1) ∧ ∃ sv' cv', SAt w0 w' g (.slice Ap x.length cp) (.slice Al l.length cl) want n budget r2 sv' r3 cv' r4 r5 := by
 have HP := Aside0.mk hp
 have HCP := Aside0.mk hcp
 have HL := Aside0.mk hl
 have HCL := Aside0.mk hcl
 clear hp hcp hl hcl
 induction k using Nat.strongRecOn with
 | ind k IH =>
 intro want n budget st sv ch cv nodes full from_ r1 r2 r3 r4 r5 g w hg hX h
 have hu54 := Try.underlying54
 have HX := Aside0.mk hX
 have HG := Aside0.mk hg
 cases k with
 | zero => exact absurd h (by simp [run.f])
 | succ k =>
 rw [run.f] at h
 have HIH := Aside0.mk IH
 obtain ⟨As, cs, rfl⟩ := Kd.R_slice hX.row
 obtain ⟨Ac, cc, rfl⟩ := Kd.R_slice hX.chs
 have x3 : w.cell? ⟨g, 3, none⟩ = some (.int .i64 n) := (kC hX.box 3).trans rfl
 have x4 : w.cell? ⟨g, 4, none⟩ = some (.slice As st.length cs) := (kC hX.box 4).trans rfl
 have x6 : w.cell? ⟨g, 6, none⟩ = some (.int .i64 nodes) := (kC hX.box 6).trans rfl
 have x7 : w.cell? ⟨g, 7, none⟩ = some (.int .i64 budget) := (kC hX.box 7).trans rfl
 have x8 : w.cell? ⟨g, 8, none⟩ = some (.bool full) := (kC hX.box 8).trans rfl
 have f6 := blk_frozen hX.box 6
 have f8 := blk_frozen hX.box 8
 clear hX hg IH
 by_cases c : (st.length : Int) = n
 ·rw [if_pos c] at h
  have c0 : ((st.length : Int) == n) = true := beq_iff_eq.mpr c
  by_cases c1 : nodes = budget
  ·rw [if_pos c1] at h
   obtain ⟨e1, e2, e3, e4, e5⟩ : false = r1 ∧ st = r2 ∧ ch = r3 ∧ nodes = r4 ∧ true = r5 := by simpa using h
   subst e1 e2 e3 e4 e5
   have c2 : (nodes == budget) = true := beq_iff_eq.mpr c1
   clear h c c1
   go_enter Try.func28, Try.ntmps28
   go_wp2
   go_quiet (fail)
   go_wp2
   go_quiet (fail)
   go_wp2
   go_ret
   exact ⟨rfl, _, _, SAt.put8 (by repeat (first | exact HX.out | apply SAt.drewN | apply SAt.drew)) HG.out rfl⟩
  ·rw [if_neg c1] at h
   have c2 : (nodes == budget) = false := beq_eq_false_iff_ne.mpr c1
   obtain ⟨cov, a1, h⟩ := Option.bind_eq_some_iff.1 h
   obtain ⟨m, a2, h⟩ := Option.bind_eq_some_iff.1 h
   obtain ⟨e1, e2, e3, e4, e5⟩ : decide (m = want) = r1 ∧ st = r2 ∧ ch = r3 ∧ wrap64 (nodes + 1) = r4 ∧ full = r5 := by simpa using h
   subst e1 e2 e3 e4 e5
   have A1 := Aside0.mk a1
   have A2 := Aside0.mk a2
   clear h c c1 a1 a2
   go_enter Try.func28, Try.ntmps28
   go_wp2
   go_quiet (fail)
   go_wp2
   go_quiet (fail)
   go_wp2_with ((with_reducible refine gate_store (t := 2) (p := 34) rfl ?_); refine store_event (t := 2) (p := 34) (v := ?vo_1) (w1 := ?w1_1) ?hg ?ho ?hn ?hr ?_; (case ho => rfl); (case hg => rfl); (case hn => rfl); (case hr => go_simp; rfl); intro w2 hw; have HX2 := Aside0.mk (SAt.put6 (by repeat (first | exact HX.out | apply SAt.drewN | apply SAt.drew)) HG.out hw); clear hw HX x3 x4 x6 x7 x8 f8 f6)
   have HX3 := Aside0.mk HX2.out.drew
   clear HX2
   refine start_ (n := 16) (S := fun z => z.heap[g]? = some (SSt (.slice Ap x.length cp) (.slice Al l.length cl) want n (.slice As st.length cs) (.slice Ac ch.length cc) (wrap64 (nodes + 1)) budget full)) (ds := []) #[F,F,F,F,F,F,F,F,F,F,F,F,F,F,F,F] (by kernel_rfl) rfl rfl HX3.out.box (fun hHeld => ?_)
   generalize w2.drew = u at HX3 hHeld ⊢
   refine pure_ (i := 0) (N := some 35) (v := ?_) (a' := ?_) #[T,F,F,F,F,F,F,F,F,F,F,F,F,F,F,F] rfl rfl (by kernel_rfl) (fun _ _ _ h => h) (Or.inl ⟨by rfl, ?_⟩) ?_ ?_; rotate_left; (· intro z_; go_simp; with_reducible rfl); rotate_left; (· simp only [Act.put, sI, sZ, sS, iW, jW]; rfl)
   refine pure_ (i := 1) (N := some 36) (v := ?_) (a' := ?_) #[T,T,F,F,F,F,F,F,F,F,F,F,F,F,F,F] rfl rfl (by kernel_rfl) (fun _ _ _ h => h) (Or.inl ⟨by rfl, ?_⟩) ?_ ?_; rotate_left; (· intro z_; go_simp; with_reducible rfl); rotate_left; (· simp only [Act.put, sI, sZ, sS, iW, jW]; rfl)
   refine pure_ (i := 2) (N := some 37) (v := ?_) (a' := ?_) #[T,T,T,F,F,F,F,F,F,F,F,F,F,F,F,F] rfl rfl (by kernel_rfl) (fun _ _ _ h => h) (Or.inl ⟨by rfl, ?_⟩) ?_ ?_; rotate_left; (· intro z_; go_simp; with_reducible rfl); rotate_left; (· simp only [Act.put, sI, sZ, sS, iW, jW]; rfl)
   refine pure_ (i := 4) (N := some 39) (v := ?_) (a' := ?_) #[T,T,T,F,T,F,F,F,F,F,F,F,F,F,F,F] rfl rfl (by kernel_rfl) (fun _ _ _ h => h) (Or.inl ⟨by rfl, ?_⟩) ?_ ?_; rotate_left; (· intro z_; go_simp; with_reducible rfl); rotate_left; (· simp only [Act.put, sI, sZ, sS, iW, jW]; rfl)
   refine pure_ (i := 5) (N := some 40) (v := ?_) (a' := ?_) #[T,T,T,F,T,T,F,F,F,F,F,F,F,F,F,F] rfl rfl (by kernel_rfl) (fun _ _ _ h => h) (Or.inl ⟨by rfl, ?_⟩) ?_ ?_; rotate_left; (· intro z_; go_simp; with_reducible rfl); rotate_left; (· simp only [Act.put, sI, sZ, sS, iW, jW]; rfl)
   refine pure_ (i := 6) (N := some 41) (v := ?_) (a' := ?_) #[T,T,T,F,T,T,T,F,F,F,F,F,F,F,F,F] rfl rfl (by kernel_rfl) (fun _ _ _ h => h) (Or.inl ⟨by rfl, ?_⟩) ?_ ?_; rotate_left; (· intro z_; go_simp; with_reducible rfl); rotate_left; (· simp only [Act.put, sI, sZ, sS, iW, jW]; rfl)
   refine pure_ (i := 10) (N := some 45) (v := ?_) (a' := ?_) #[T,T,T,F,T,T,T,F,F,F,T,F,F,F,F,F] rfl rfl (by kernel_rfl) (fun _ _ _ h => h) (Or.inl ⟨by rfl, ?_⟩) ?_ ?_; rotate_left; (· intro z_; go_simp; with_reducible rfl); rotate_left; (· simp only [Act.put, sI, sZ, sS, iW, jW]; rfl)
   refine pure_ (i := 11) (N := some 46) (v := ?_) (a' := ?_) #[T,T,T,F,T,T,T,F,F,F,T,T,F,F,F,F] rfl rfl (by kernel_rfl) (fun _ _ _ h => h) (Or.inl ⟨by rfl, ?_⟩) ?_ ?_; rotate_left; (· intro z_; go_simp; with_reducible rfl); rotate_left; (· simp only [Act.put, sI, sZ, sS, iW, jW]; rfl)
   refine pure_ (i := 12) (N := some 47) (v := ?_) (a' := ?_) #[T,T,T,F,T,T,T,F,F,F,T,T,T,F,F,F] rfl rfl (by kernel_rfl) (fun _ _ _ h => h) (Or.inl ⟨by rfl, ?_⟩) ?_ ?_; rotate_left; (· intro z_; go_simp; with_reducible rfl); rotate_left; (· simp only [Act.put, sI, sZ, sS, iW, jW]; rfl)
   refine take_ (i := 3) (N := some 38) (v := ?_) (a' := ?_) #[T,T,T,T,T,T,T,F,F,F,T,T,T,F,F,F] rfl rfl (by kernel_rfl) (fun _ _ _ h => h) (Or.inl ⟨by rfl, ?_⟩) hHeld ?_ ?_; rotate_left; (· rintro z_ h1_; have q0 : z_.cell? ⟨g, 0, none⟩ = some (.slice Ap x.length cp) := (kC h1_ 0).trans rfl; have q2 : z_.cell? ⟨g, 2, none⟩ = some (.int .i64 want) := (kC h1_ 2).trans rfl; have q5 : z_.cell? ⟨g, 5, none⟩ = some (.slice Ac ch.length cc) := (kC h1_ 5).trans rfl; clear h1_; go_simp; with_reducible rfl); rotate_left; (· simp only [Act.put, sI, sZ, sS, iW, jW]; rfl)
   refine take_ (i := 7) (N := some 42) (v := ?_) (a' := ?_) #[T,T,T,T,T,T,T,T,F,F,T,T,T,F,F,F] rfl rfl (by kernel_rfl) (fun _ _ _ h => h) (Or.inl ⟨by rfl, ?_⟩) hHeld ?_ ?_; rotate_left; (· rintro z_ h1_; have q0 : z_.cell? ⟨g, 0, none⟩ = some (.slice Ap x.length cp) := (kC h1_ 0).trans rfl; have q2 : z_.cell? ⟨g, 2, none⟩ = some (.int .i64 want) := (kC h1_ 2).trans rfl; have q5 : z_.cell? ⟨g, 5, none⟩ = some (.slice Ac ch.length cc) := (kC h1_ 5).trans rfl; clear h1_; go_simp; with_reducible rfl); rotate_left; (· simp only [Act.put, sI, sZ, sS, iW, jW]; rfl)
   refine take_ (i := 13) (N := some 48) (v := ?_) (a' := ?_) #[T,T,T,T,T,T,T,T,F,F,T,T,T,T,F,F] rfl rfl (by kernel_rfl) (fun _ _ _ h => h) (Or.inl ⟨by rfl, ?_⟩) hHeld ?_ ?_; rotate_left; (· rintro z_ h1_; have q0 : z_.cell? ⟨g, 0, none⟩ = some (.slice Ap x.length cp) := (kC h1_ 0).trans rfl; have q2 : z_.cell? ⟨g, 2, none⟩ = some (.int .i64 want) := (kC h1_ 2).trans rfl; have q5 : z_.cell? ⟨g, 5, none⟩ = some (.slice Ac ch.length cc) := (kC h1_ 5).trans rfl; clear h1_; go_simp; with_reducible rfl); rotate_left; (· simp only [Act.put, sI, sZ, sS, iW, jW]; rfl)
   refine one_ (i := 8) (N := some 43) #[T,T,T,T,T,T,T,T,T,F,T,T,T,T,F,F] rfl rfl (by kernel_rfl) (by decide) (fun K hK => ?_)
   refine goes_ Try.func27 (by kernel_rfl) rfl #[.slice Ap x.length cp, .slice Ac ch.length cc] (by rfl) rfl rfl (by (try simp only [List.map_toArray, List.map_cons, List.map_nil]); first | done | rfl | (simp only [List.length_drop, List.length_take]; rfl)) ?_
   with_reducible refine (spec_l06Covered.calls k _ _ x _ _ ch cov _ (cB HP.out HX3.out.below) HCP.out HX3.out.reads.2.2 HX3.out.reads.2.1 A1.out).mono ?_
   rintro e_ u1 ⟨v0, rfl, h0, hb⟩
   refine ⟨_, rfl, ?_⟩
   obtain ⟨Av, cv, rfl⟩ := Kd.R_slice h0
   replace HX3 := Aside0.mk (HX3.out.onto hb)
   have HV := Aside0.mk h0
   clear h0 hb
   refine hK.out _ _ HX3.out.box (fun _ => ?_)
   clear hK K
   refine norm_ (a' := ?_) ?_ ?_; rotate_left; (· show Act.put _ (some 43) _ = _; simp only [Act.put, sI, sZ, sS, iW, jW]; rfl)
   refine one_ (i := 9) (N := some 44) #[T,T,T,T,T,T,T,T,T,T,T,T,T,T,F,F] rfl rfl (by kernel_rfl) (by decide) (fun K hK => ?_)
   refine goes_ Try.func26 (by kernel_rfl) rfl #[.slice Av cov.length cv] (by rfl) rfl rfl (by (try simp only [List.map_toArray, List.map_cons, List.map_nil]); first | done | rfl | (simp only [List.length_drop, List.length_take]; rfl)) ?_
   with_reducible refine (spec_l06Count.calls k _ _ cov m _ (Kd.R_reads' HV.out).2.2 (Kd.R_reads' HV.out).2.1 A2.out).mono ?_
   rintro e_ u2 ⟨rfl, ⟨nd, rfl⟩⟩
   refine ⟨_, rfl, ?_⟩
   replace HX3 := Aside0.mk (HX3.out.drewN nd)
   clear HV
   refine hK.out _ _ HX3.out.box (fun _ => ?_)
   clear hK K
   refine norm_ (a' := ?_) ?_ ?_; rotate_left; (· show Act.put _ (some 44) _ = _; simp only [Act.put, sI, sZ, sS, iW, jW]; rfl)
   refine pure_ (i := 14) (N := some 49) (v := ?_) (a' := ?_) #[T,T,T,T,T,T,T,T,T,T,T,T,T,T,T,F] rfl rfl (by kernel_rfl) (fun _ _ _ h => h) (Or.inl ⟨by rfl, ?_⟩) ?_ ?_; rotate_left; (· intro z_; go_simp; with_reducible rfl); rotate_left; (· simp only [Act.put, sI, sZ, sS, iW, jW]; rfl)
   refine pure_ (i := 15) (N := some 4) (v := ?_) (a' := ?_) #[T,T,T,T,T,T,T,T,T,T,T,T,T,T,T,T] rfl rfl (by kernel_rfl) (fun _ _ _ h => h) (Or.inl ⟨by rfl, ?_⟩) ?_ ?_; rotate_left; (· intro z_; go_simp; with_reducible rfl); rotate_left; (· simp only [Act.put, sI, sZ, sS, iW, jW]; rfl)
   refine done_ (by kernel_rfl) ?_
   clear hHeld
   go_wp2
   go_ret
   exact ⟨rfl, _, _, HX3.out⟩
 ·rw [if_neg c] at h
  have H' := Aside0.mk h
  have c0 : ((st.length : Int) == n) = false := beq_eq_false_iff_ne.mpr c
  clear h c
  go_enter Try.func28, Try.ntmps28
  go_wp2
  go_quiet (fail)
  go_wp2
  clear c0 x3 x4 x6 x7 x8 f6 f8
  go_loopg [5] k (fun kq v5 wr => ∃ (i : Int) (st' : List Int) (sv' : Value) (ch' : List (List Int)) (cv' : Value) (nodes' : Int) (full' : Bool), v5 = .int .i64 i ∧ Aside0 (run.l kq x l want n budget st' ch' nodes' full' i = some (r1, r2, r3, r4, r5)) ∧ Aside0 (kq ≤ k) ∧ Aside0 (SAt w0 wr g (.slice Ap x.length cp) (.slice Al l.length cl) want n budget st' sv' ch' cv' nodes' full'))
  case atStart => exact ⟨from_, st, _, ch, _, nodes, full, rfl, H', ⟨Nat.le_refl _⟩, ⟨by repeat (first | exact HX.out | apply SAt.drewN | apply SAt.drew)⟩⟩
  case round =>
   clear H' HX
   obtain ⟨i, st', sv', ch', cv', nodes', full', rfl, HA, HK1, HX⟩ := hrel
   cases gk with
   | zero => exact absurd HA.out (by simp [run.l])
   | succ k1 =>
    have H := HA.out
    clear HA
    rw [run.l] at H
    obtain ⟨Am, capm, rfl⟩ := Kd.R_slice HX.out.row
    obtain ⟨Ah, caph, rfl⟩ := Kd.R_slice HX.out.chs
    have x1 : wr.cell? ⟨g, 1, none⟩ = some (.slice Al l.length cl) := (kC HX.out.box 1).trans rfl
    by_cases c1 : i < (l.length : Int)
    rotate_left
    ·rw [if_neg c1] at H
     obtain ⟨e1, e2, e3, e4, e5⟩ : false = r1 ∧ st' = r2 ∧ ch' = r3 ∧ nodes' = r4 ∧ full' = r5 := by simpa using H
     subst e1 e2 e3 e4 e5
     have d1 : decide (i < (l.length : Int)) = false := decide_eq_false c1
     clear c1 H
     go_wp2
     go_ret
     exact ⟨rfl, _, _, HX.out⟩
    rw [if_pos c1] at H
    have d1 : decide (i < (l.length : Int)) = true := decide_eq_true c1
    have x8 : wr.cell? ⟨g, 8, none⟩ = some (.bool full') := (kC HX.out.box 8).trans rfl
    cases full' with
    | true =>
     rw [if_pos rfl] at H
     obtain ⟨e1, e2, e3, e4, e5⟩ : false = r1 ∧ st' = r2 ∧ ch' = r3 ∧ nodes' = r4 ∧ true = r5 := by simpa using H
     subst e1 e2 e3 e4 e5
     clear c1 H
     go_wp2
     go_ret
     exact ⟨rfl, _, _, HX.out⟩
    | false =>
     rw [if_neg (by decide)] at H
     by_cases c3 : 0 ≤ i ∧ st'.length < 1000 ∧ ch'.length < 1000
     rotate_left
     ·rw [if_neg c3] at H
      cases H
     rw [if_pos c3] at H
     obtain ⟨⟨q1, q2, q3, q4, q5⟩, A, H3⟩ := Option.bind_eq_some_iff.1 H
     clear H
     dsimp only at H3
     obtain ⟨c4, c5, c6⟩ := c3
     obtain ⟨ad, Ai, ci, ea, hx, hxl, hxc⟩ := at_L1 HL.out i c4 c1
     subst ea
     have HA := Aside0.mk A
     have H2 := Aside0.mk H3
     have HS := Aside0.mk c5
     have HC := Aside0.mk c6
     have HE := Aside0.mk hx
     have HEL := Aside0.mk hxl
     have HEC := Aside0.mk hxc
     have d2 : (0 ≤ i) = True := eq_true c4
     have d3 : (i < (l.length : Int)) = True := eq_true c1
     have x4 : wr.cell? ⟨g, 4, none⟩ = some (.slice Am st'.length capm) := (kC HX.out.box 4).trans rfl
     have f4 := blk_frozen HX.out.box 4
     clear A H3 c4 c5 c6 c1 hx hxl hxc
     cases q1 with
     | true =>
      have H4 := H2.out
      rw [if_pos rfl] at H4
      obtain ⟨e1, e2, e3, e4, e5⟩ : true = r1 ∧ q2 = r2 ∧ q3 = r3 ∧ q4 = r4 ∧ q5 = r5 := by simpa using H4
      subst e1 e2 e3 e4 e5
      clear H4 H2
      go_wp2_with (first | ((with_reducible refine gate_builtin (b := .append) (xs := #[.tmp 71, .tmp 73]) rfl ?_); at_builtin; refine Kd.R_append (Kd.int .i64) (w0 := w0) w0.heap.size rfl (.tmp 71) (.tmp 73) 22 2 (.int .i64 0) 8 rfl Try.underlying22 info2 rfl (by decide) (by omega) (.slice Am st'.length capm) st' i [.int .i64 i] (fun _ => True) (fun _ => False) rfl rfl ?aP (fun _ hk => hk.elim) ?aF HX.out.row HX.out.below (bZ HX.out.below) ?aL ?_; (case aP => exact rfl); (case aF => exact (fun _ _ => trivial)); (case aL => have := HS.out; omega); intro v1 w1 ho hb hgr hat; obtain ⟨A1, cap1, rfl⟩ := Kd.R_slice ho; have HO1 := Aside0.mk ho; have HB1 := Aside0.mk hb; have HGR := Aside0.mk hgr; have y3 : w1.cell? ⟨g, 4, none⟩ = some (.slice Am st'.length capm) := (kC (blk_grown HX.out.box hgr (srow_ne HX.out.box HX.out.row (by decide))) 4).trans rfl; have f5 := blk_frozen (blk_grown HX.out.box hgr (srow_ne HX.out.box HX.out.row (by decide))) 4; clear ho hb hgr hat x1 x4 x8 f4) | ((with_reducible refine gate_store (t := 22) (p := 76) rfl ?_); refine store_event (t := 22) (p := 76) (v := ?vo_a) (w1 := w1.setCell ⟨g, 4, none⟩ (.slice A1 (st' ++ [i]).length cap1)) ?hg ?ho ?hn ?hr ?_; (case ho => rfl); (case hg => rfl); (case hn => rfl); (case hr => first | (go_simp; done) | (go_simp; rfl)); intro w2 hw; have HX2 := Aside0.mk (SAt.grew4 HX.out HGR.out HB1.out HO1.out HG.out hw); clear hw HX HGR HB1 HO1 y3 f5))
      have HX3 := Aside0.mk HX2.out.drew
      clear HX2
      have hS : w2.drew.cell? (ad.add i.toNat) = some (.slice Ai (rd_L1 l i).length ci) := (HX3.out.below.cell (World.block_lt_of_cell? _ _ HE.out)).trans HE.out
      refine start_ (n := 17) (S := fun z => z.heap[g]? = some (SSt (.slice Ap x.length cp) (.slice (some ad) l.length cl) want n (.slice A1 (st' ++ [i]).length cap1) (.slice Ah ch'.length caph) nodes' budget false) ∧ z.cell? (ad.add i.toNat) = some (.slice Ai (rd_L1 l i).length ci)) (ds := [13, 16]) #[F,F,F,F,F,F,F,F,F,F,F,F,F,F,F,F,F] (by kernel_rfl) rfl rfl ⟨HX3.out.box, hS⟩ (fun hHeld => ?_)
      clear hS
      generalize w2.drew = u at HX3 hHeld ⊢
      refine pure_ (i := 0) (N := some 77) (v := ?_) (a' := ?_) #[T,F,F,F,F,F,F,F,F,F,F,F,F,F,F,F,F] rfl rfl (by kernel_rfl) (fun _ _ _ h => h) (Or.inl ⟨by rfl, ?_⟩) ?_ ?_; rotate_left; (· intro z_; go_simp; with_reducible rfl); rotate_left; (· simp only [Act.put, sI, sZ, sS, iW, jW]; rfl)
      refine pure_ (i := 1) (N := some 78) (v := ?_) (a' := ?_) #[T,T,F,F,F,F,F,F,F,F,F,F,F,F,F,F,F] rfl rfl (by kernel_rfl) (fun _ _ _ h => h) (Or.inl ⟨by rfl, ?_⟩) ?_ ?_; rotate_left; (· intro z_; go_simp; with_reducible rfl); rotate_left; (· simp only [Act.put, sI, sZ, sS, iW, jW]; rfl)
      refine pure_ (i := 2) (N := some 79) (v := ?_) (a' := ?_) #[T,T,T,F,F,F,F,F,F,F,F,F,F,F,F,F,F] rfl rfl (by kernel_rfl) (fun _ _ _ h => h) (Or.inl ⟨by rfl, ?_⟩) ?_ ?_; rotate_left; (· intro z_; go_simp; with_reducible rfl); rotate_left; (· simp only [Act.put, sI, sZ, sS, iW, jW]; rfl)
      refine pure_ (i := 3) (N := some 80) (v := ?_) (a' := ?_) #[T,T,T,T,F,F,F,F,F,F,F,F,F,F,F,F,F] rfl rfl (by kernel_rfl) (fun _ _ _ h => h) (Or.inl ⟨by rfl, ?_⟩) ?_ ?_; rotate_left; (· intro z_; go_simp; with_reducible rfl); rotate_left; (· simp only [Act.put, sI, sZ, sS, iW, jW]; rfl)
      refine pure_ (i := 5) (N := some 82) (v := ?_) (a' := ?_) #[T,T,T,T,F,T,F,F,F,F,F,F,F,F,F,F,F] rfl rfl (by kernel_rfl) (fun _ _ _ h => h) (Or.inl ⟨by rfl, ?_⟩) ?_ ?_; rotate_left; (· intro z_; go_simp; with_reducible rfl); rotate_left; (· simp only [Act.put, sI, sZ, sS, iW, jW]; rfl)
      refine pure_ (i := 6) (N := some 83) (v := ?_) (a' := ?_) #[T,T,T,T,F,T,T,F,F,F,F,F,F,F,F,F,F] rfl rfl (by kernel_rfl) (fun _ _ _ h => h) (Or.inl ⟨by rfl, ?_⟩) ?_ ?_; rotate_left; (· intro z_; go_simp; with_reducible rfl); rotate_left; (· simp only [Act.put, sI, sZ, sS, iW, jW]; rfl)
      refine pure_ (i := 7) (N := some 84) (v := ?_) (a' := ?_) #[T,T,T,T,F,T,T,T,F,F,F,F,F,F,F,F,F] rfl rfl (by kernel_rfl) (fun _ _ _ h => h) (Or.inl ⟨by rfl, ?_⟩) ?_ ?_; rotate_left; (· intro z_; go_simp; with_reducible rfl); rotate_left; (· simp only [Act.put, sI, sZ, sS, iW, jW]; rfl)
      refine pure_ (i := 9) (N := some 86) (v := ?_) (a' := ?_) #[T,T,T,T,F,T,T,T,F,T,F,F,F,F,F,F,F] rfl rfl (by kernel_rfl) (fun _ _ _ h => h) (Or.inl ⟨by rfl, ?_⟩) ?_ ?_; rotate_left; (· intro z_; go_simp; with_reducible rfl); rotate_left; (· simp only [Act.put, sI, sZ, sS, iW, jW]; rfl)
      refine take_ (i := 4) (N := some 81) (v := ?_) (a' := ?_) #[T,T,T,T,T,T,T,T,F,T,F,F,F,F,F,F,F] rfl rfl (by kernel_rfl) (fun _ _ _ h => h) (Or.inl ⟨by rfl, ?_⟩) hHeld ?_ ?_; rotate_left; (· rintro z_ ⟨h1_, h2_⟩; have q1_ : z_.cell? ⟨g, 1, none⟩ = some (.slice (some ad) l.length cl) := (kC h1_ 1).trans rfl; have q5_ : z_.cell? ⟨g, 5, none⟩ = some (.slice Ah ch'.length caph) := (kC h1_ 5).trans rfl; clear h1_; go_simp; with_reducible rfl); rotate_left; (· simp only [Act.put, sI, sZ, sS, iW, jW]; rfl)
      refine take_ (i := 8) (N := some 85) (v := ?_) (a' := ?_) #[T,T,T,T,T,T,T,T,T,T,F,F,F,F,F,F,F] rfl rfl (by kernel_rfl) (fun _ _ _ h => h) (Or.inl ⟨by rfl, ?_⟩) hHeld ?_ ?_; rotate_left; (· rintro z_ ⟨h1_, h2_⟩; have q1_ : z_.cell? ⟨g, 1, none⟩ = some (.slice (some ad) l.length cl) := (kC h1_ 1).trans rfl; have q5_ : z_.cell? ⟨g, 5, none⟩ = some (.slice Ah ch'.length caph) := (kC h1_ 5).trans rfl; clear h1_; go_simp; with_reducible rfl); rotate_left; (· simp only [Act.put, sI, sZ, sS, iW, jW]; rfl)
      refine pure_ (i := 10) (N := some 87) (v := ?_) (a' := ?_) #[T,T,T,T,T,T,T,T,T,T,T,F,F,F,F,F,F] rfl rfl (by kernel_rfl) (fun _ _ _ h => h) (Or.inl ⟨by rfl, ?_⟩) ?_ ?_; rotate_left; (· intro z_; go_simp; with_reducible rfl); rotate_left; (· simp only [Act.put, sI, sZ, sS, iW, jW]; rfl)
      refine take_ (i := 11) (N := some 88) (v := ?_) (a' := ?_) #[T,T,T,T,T,T,T,T,T,T,T,T,F,F,F,F,F] rfl rfl (by kernel_rfl) (fun _ _ _ h => h) (Or.inl ⟨by rfl, ?_⟩) hHeld ?_ ?_; rotate_left; (· rintro z_ ⟨h1_, h2_⟩; have q1_ : z_.cell? ⟨g, 1, none⟩ = some (.slice (some ad) l.length cl) := (kC h1_ 1).trans rfl; have q5_ : z_.cell? ⟨g, 5, none⟩ = some (.slice Ah ch'.length caph) := (kC h1_ 5).trans rfl; clear h1_; go_simp; with_reducible rfl); rotate_left; (· simp only [Act.put, sI, sZ, sS, iW, jW]; rfl)
      refine one_ (i := 12) (N := some 89) #[T,T,T,T,T,T,T,T,T,T,T,T,T,F,F,F,F] rfl rfl (by kernel_rfl) (by decide) (fun K hK => ?_)
      refine value_ (w1 := ?_) (v := ?_) (by rfl) rfl ?_ ?_
      rotate_left 2
      ·go_simp
       constructor
       ·rfl
       ·rfl
      refine hK.out _ _ ⟨kA HX3.out.box _, (World.cell?_alloc_lt _ _ _ (World.block_lt_of_cell? _ _ hHeld.2)).trans hHeld.2⟩ (fun _ => ?_)
      clear hK K
      refine norm_ (a' := ?_) ?_ ?_; rotate_left; (· show Act.put _ (some 89) _ = _; simp only [Act.put, sI, sZ, sS, iW, jW]; rfl)
      refine last_ (i := 13) (N := some 90) #[T,T,T,T,T,T,T,T,T,T,T,T,T,T,F,F,F] rfl rfl (by kernel_rfl) (by decide) (fun K hK => ?_)
      refine Kd.R_append_step (Kd.fixed DSS w0) (w0 := w0) w0.heap.size (by rfl) (.tmp 81) (.tmp 89) 23 22 (.slice none 0 0) 24 rfl Try.underlying23 info22 rfl (by show 0 < 1; omega) (by omega) (.slice Ah ch'.length caph) ch' (rd_L1 l i) [.slice Ai (rd_L1 l i).length ci] (fun _ => True) (fun _ => False) rfl rfl ⟨Ai, ci, rfl, HEL.out, HEC.out⟩ (fun _ hk => hk.elim) (fun _ _ => trivial) HX3.out.chs HX3.out.below (bZ HX3.out.below) (by have := HC.out; omega) ?_
      intro v2 w3 ho hb hgr hat
      obtain ⟨A2, cap2, rfl⟩ := Kd.R_slice ho
      have HO1 := Aside0.mk ho
      have HB1 := Aside0.mk hb
      have HGR := Aside0.mk hgr
      have y5 : w3.cell? ⟨g, 5, none⟩ = some (.slice Ah ch'.length caph) := (kC (blk_grown HX3.out.box hgr (srow_ne HX3.out.box HX3.out.chs (by decide))) 5).trans rfl
      have f5 := blk_frozen (blk_grown HX3.out.box hgr (srow_ne HX3.out.box HX3.out.chs (by decide))) 5
      clear ho hb hgr hat hHeld
      refine hK.out _ _ ?_
      clear hK K
      refine norm_ (a' := ?_) ?_ ?_; rotate_left; (· show Act.put _ (some 90) _ = _; simp only [Act.put, sI, sZ, sS, iW, jW]; rfl)
      refine pure_ (i := 14) (N := some 91) (v := ?_) (a' := ?_) #[T,T,T,T,T,T,T,T,T,T,T,T,T,T,T,F,F] rfl rfl (by kernel_rfl) (fun _ _ _ h => h) (Or.inl ⟨by rfl, ?_⟩) ?_ ?_; rotate_left; (· intro z_; go_simp; with_reducible rfl); rotate_left; (· simp only [Act.put, sI, sZ, sS, iW, jW]; rfl)
      refine pure_ (i := 15) (N := some 92) (v := ?_) (a' := ?_) #[T,T,T,T,T,T,T,T,T,T,T,T,T,T,T,T,F] rfl rfl (by kernel_rfl) (fun _ _ _ h => h) (Or.inl ⟨by rfl, ?_⟩) ?_ ?_; rotate_left; (· intro z_; go_simp; with_reducible rfl); rotate_left; (· simp only [Act.put, sI, sZ, sS, iW, jW]; rfl)
      refine last_ (i := 16) (N := none) #[T,T,T,T,T,T,T,T,T,T,T,T,T,T,T,T,T] rfl rfl (by kernel_rfl) (by decide) (fun K hK => ?_)
      refine skip_ (w1 := w3.setCell ⟨g, 5, none⟩ (.slice A2 (ch' ++ [rd_L1 l i]).length cap2)) (by rfl) rfl (by first | (go_simp; done) | (go_simp; rfl)) ?_
      have HX4 := Aside0.mk (SAt.grew5 HX3.out HGR.out HB1.out HO1.out HG.out (rfl : w3.setCell ⟨g, 5, none⟩ (.slice A2 (ch' ++ [rd_L1 l i]).length cap2) = _))
      clear HX3 HGR HB1 HO1 y5 f5
      generalize w3.setCell ⟨g, 5, none⟩ (.slice A2 (ch' ++ [rd_L1 l i]).length cap2) = w4 at HX4 ⊢
      refine hK.out _ _ ?_
      clear hK K
      refine done_ (by kernel_rfl) ?_
      go_wp2_with ((with_reducible refine gC (f := 28) rfl ?_); refine goesL_ (some 96) rfl rfl Try.func28 (by kernel_rfl) rfl #[.pointer (some ⟨g, 0, none⟩), .int .i64 (wrap64 (i + 1))] rfl (by (try simp only [List.map_toArray, List.map_cons, List.map_nil]); first | done | rfl | (simp only [List.length_drop, List.length_take]; rfl)) ?_; (with_reducible refine (HIH.out k1 (by have := HK1.out; omega) want n budget (st' ++ [i]) (.slice A1 (st' ++ [i]).length cap1) (ch' ++ [rd_L1 l i]) (.slice A2 (ch' ++ [rd_L1 l i]).length cap2) nodes' false (wrap64 (i + 1)) true q2 q3 q4 q5 g w4 HG.out HX4.out HA.out).mono ?_); rintro e w5 ⟨rfl, sv5, cv5, hX5⟩; refine ⟨_, rfl, ?_⟩; obtain ⟨A5, cap5, rfl⟩ := Kd.R_slice hX5.row; obtain ⟨A6, cap6, rfl⟩ := Kd.R_slice hX5.chs; have HX5 := Aside0.mk hX5; clear hX5 HX4 HA)
      go_ret
      exact ⟨rfl, _, _, HX5.out⟩
     | false =>
      have H4 := H2.out
      rw [if_neg (by decide)] at H4
      clear H2
      by_cases c6 : (1 ≤ q2.length ∧ q2.length < 1001) ∧ 1 ≤ q3.length ∧ q3.length < 1001
      rotate_left
      ·rw [if_neg c6] at H4
       cases H4
      rw [if_pos c6] at H4
      have H5 := Aside0.mk H4
      have HC6 := Aside0.mk c6
      clear H4 c6
      go_wp2_with (first | ((with_reducible refine gate_builtin (b := .append) (xs := #[.tmp 71, .tmp 73]) rfl ?_); at_builtin; refine Kd.R_append (Kd.int .i64) (w0 := w0) w0.heap.size rfl (.tmp 71) (.tmp 73) 22 2 (.int .i64 0) 8 rfl Try.underlying22 info2 rfl (by decide) (by omega) (.slice Am st'.length capm) st' i [.int .i64 i] (fun _ => True) (fun _ => False) rfl rfl ?aP (fun _ hk => hk.elim) ?aF HX.out.row HX.out.below (bZ HX.out.below) ?aL ?_; (case aP => exact rfl); (case aF => exact (fun _ _ => trivial)); (case aL => have := HS.out; omega); intro v1 w1 ho hb hgr hat; obtain ⟨A1, cap1, rfl⟩ := Kd.R_slice ho; have HO1 := Aside0.mk ho; have HB1 := Aside0.mk hb; have HGR := Aside0.mk hgr; have y3 : w1.cell? ⟨g, 4, none⟩ = some (.slice Am st'.length capm) := (kC (blk_grown HX.out.box hgr (srow_ne HX.out.box HX.out.row (by decide))) 4).trans rfl; have f5 := blk_frozen (blk_grown HX.out.box hgr (srow_ne HX.out.box HX.out.row (by decide))) 4; clear ho hb hgr hat x1 x4 x8 f4) | ((with_reducible refine gate_store (t := 22) (p := 76) rfl ?_); refine store_event (t := 22) (p := 76) (v := ?vo_a) (w1 := w1.setCell ⟨g, 4, none⟩ (.slice A1 (st' ++ [i]).length cap1)) ?hg ?ho ?hn ?hr ?_; (case ho => rfl); (case hg => rfl); (case hn => rfl); (case hr => first | (go_simp; done) | (go_simp; rfl)); intro w2 hw; have HX2 := Aside0.mk (SAt.grew4 HX.out HGR.out HB1.out HO1.out HG.out hw); clear hw HX HGR HB1 HO1 y3 f5))
      have HX3 := Aside0.mk HX2.out.drew
      clear HX2
      have hS : w2.drew.cell? (ad.add i.toNat) = some (.slice Ai (rd_L1 l i).length ci) := (HX3.out.below.cell (World.block_lt_of_cell? _ _ HE.out)).trans HE.out
      refine start_ (n := 17) (S := fun z => z.heap[g]? = some (SSt (.slice Ap x.length cp) (.slice (some ad) l.length cl) want n (.slice A1 (st' ++ [i]).length cap1) (.slice Ah ch'.length caph) nodes' budget false) ∧ z.cell? (ad.add i.toNat) = some (.slice Ai (rd_L1 l i).length ci)) (ds := [13, 16]) #[F,F,F,F,F,F,F,F,F,F,F,F,F,F,F,F,F] (by kernel_rfl) rfl rfl ⟨HX3.out.box, hS⟩ (fun hHeld => ?_)
      clear hS
      generalize w2.drew = u at HX3 hHeld ⊢
      refine pure_ (i := 0) (N := some 77) (v := ?_) (a' := ?_) #[T,F,F,F,F,F,F,F,F,F,F,F,F,F,F,F,F] rfl rfl (by kernel_rfl) (fun _ _ _ h => h) (Or.inl ⟨by rfl, ?_⟩) ?_ ?_; rotate_left; (· intro z_; go_simp; with_reducible rfl); rotate_left; (· simp only [Act.put, sI, sZ, sS, iW, jW]; rfl)
      refine pure_ (i := 1) (N := some 78) (v := ?_) (a' := ?_) #[T,T,F,F,F,F,F,F,F,F,F,F,F,F,F,F,F] rfl rfl (by kernel_rfl) (fun _ _ _ h => h) (Or.inl ⟨by rfl, ?_⟩) ?_ ?_; rotate_left; (· intro z_; go_simp; with_reducible rfl); rotate_left; (· simp only [Act.put, sI, sZ, sS, iW, jW]; rfl)
      refine pure_ (i := 2) (N := some 79) (v := ?_) (a' := ?_) #[T,T,T,F,F,F,F,F,F,F,F,F,F,F,F,F,F] rfl rfl (by kernel_rfl) (fun _ _ _ h => h) (Or.inl ⟨by rfl, ?_⟩) ?_ ?_; rotate_left; (· intro z_; go_simp; with_reducible rfl); rotate_left; (· simp only [Act.put, sI, sZ, sS, iW, jW]; rfl)
      refine pure_ (i := 3) (N := some 80) (v := ?_) (a' := ?_) #[T,T,T,T,F,F,F,F,F,F,F,F,F,F,F,F,F] rfl rfl (by kernel_rfl) (fun _ _ _ h => h) (Or.inl ⟨by rfl, ?_⟩) ?_ ?_; rotate_left; (· intro z_; go_simp; with_reducible rfl); rotate_left; (· simp only [Act.put, sI, sZ, sS, iW, jW]; rfl)
      refine pure_ (i := 5) (N := some 82) (v := ?_) (a' := ?_) #[T,T,T,T,F,T,F,F,F,F,F,F,F,F,F,F,F] rfl rfl (by kernel_rfl) (fun _ _ _ h => h) (Or.inl ⟨by rfl, ?_⟩) ?_ ?_; rotate_left; (· intro z_; go_simp; with_reducible rfl); rotate_left; (· simp only [Act.put, sI, sZ, sS, iW, jW]; rfl)
      refine pure_ (i := 6) (N := some 83) (v := ?_) (a' := ?_) #[T,T,T,T,F,T,T,F,F,F,F,F,F,F,F,F,F] rfl rfl (by kernel_rfl) (fun _ _ _ h => h) (Or.inl ⟨by rfl, ?_⟩) ?_ ?_; rotate_left; (· intro z_; go_simp; with_reducible rfl); rotate_left; (· simp only [Act.put, sI, sZ, sS, iW, jW]; rfl)
      refine pure_ (i := 7) (N := some 84) (v := ?_) (a' := ?_) #[T,T,T,T,F,T,T,T,F,F,F,F,F,F,F,F,F] rfl rfl (by kernel_rfl) (fun _ _ _ h => h) (Or.inl ⟨by rfl, ?_⟩) ?_ ?_; rotate_left; (· intro z_; go_simp; with_reducible rfl); rotate_left; (· simp only [Act.put, sI, sZ, sS, iW, jW]; rfl)
      refine pure_ (i := 9) (N := some 86) (v := ?_) (a' := ?_) #[T,T,T,T,F,T,T,T,F,T,F,F,F,F,F,F,F] rfl rfl (by kernel_rfl) (fun _ _ _ h => h) (Or.inl ⟨by rfl, ?_⟩) ?_ ?_; rotate_left; (· intro z_; go_simp; with_reducible rfl); rotate_left; (· simp only [Act.put, sI, sZ, sS, iW, jW]; rfl)
      refine take_ (i := 4) (N := some 81) (v := ?_) (a' := ?_) #[T,T,T,T,T,T,T,T,F,T,F,F,F,F,F,F,F] rfl rfl (by kernel_rfl) (fun _ _ _ h => h) (Or.inl ⟨by rfl, ?_⟩) hHeld ?_ ?_; rotate_left; (· rintro z_ ⟨h1_, h2_⟩; have q1_ : z_.cell? ⟨g, 1, none⟩ = some (.slice (some ad) l.length cl) := (kC h1_ 1).trans rfl; have q5_ : z_.cell? ⟨g, 5, none⟩ = some (.slice Ah ch'.length caph) := (kC h1_ 5).trans rfl; clear h1_; go_simp; with_reducible rfl); rotate_left; (· simp only [Act.put, sI, sZ, sS, iW, jW]; rfl)
      refine take_ (i := 8) (N := some 85) (v := ?_) (a' := ?_) #[T,T,T,T,T,T,T,T,T,T,F,F,F,F,F,F,F] rfl rfl (by kernel_rfl) (fun _ _ _ h => h) (Or.inl ⟨by rfl, ?_⟩) hHeld ?_ ?_; rotate_left; (· rintro z_ ⟨h1_, h2_⟩; have q1_ : z_.cell? ⟨g, 1, none⟩ = some (.slice (some ad) l.length cl) := (kC h1_ 1).trans rfl; have q5_ : z_.cell? ⟨g, 5, none⟩ = some (.slice Ah ch'.length caph) := (kC h1_ 5).trans rfl; clear h1_; go_simp; with_reducible rfl); rotate_left; (· simp only [Act.put, sI, sZ, sS, iW, jW]; rfl)
      refine pure_ (i := 10) (N := some 87) (v := ?_) (a' := ?_) #[T,T,T,T,T,T,T,T,T,T,T,F,F,F,F,F,F] rfl rfl (by kernel_rfl) (fun _ _ _ h => h) (Or.inl ⟨by rfl, ?_⟩) ?_ ?_; rotate_left; (· intro z_; go_simp; with_reducible rfl); rotate_left; (· simp only [Act.put, sI, sZ, sS, iW, jW]; rfl)
      refine take_ (i := 11) (N := some 88) (v := ?_) (a' := ?_) #[T,T,T,T,T,T,T,T,T,T,T,T,F,F,F,F,F] rfl rfl (by kernel_rfl) (fun _ _ _ h => h) (Or.inl ⟨by rfl, ?_⟩) hHeld ?_ ?_; rotate_left; (· rintro z_ ⟨h1_, h2_⟩; have q1_ : z_.cell? ⟨g, 1, none⟩ = some (.slice (some ad) l.length cl) := (kC h1_ 1).trans rfl; have q5_ : z_.cell? ⟨g, 5, none⟩ = some (.slice Ah ch'.length caph) := (kC h1_ 5).trans rfl; clear h1_; go_simp; with_reducible rfl); rotate_left; (· simp only [Act.put, sI, sZ, sS, iW, jW]; rfl)
      refine one_ (i := 12) (N := some 89) #[T,T,T,T,T,T,T,T,T,T,T,T,T,F,F,F,F] rfl rfl (by kernel_rfl) (by decide) (fun K hK => ?_)
      refine value_ (w1 := ?_) (v := ?_) (by rfl) rfl ?_ ?_
      rotate_left 2
      ·go_simp
       constructor
       ·rfl
       ·rfl
      refine hK.out _ _ ⟨kA HX3.out.box _, (World.cell?_alloc_lt _ _ _ (World.block_lt_of_cell? _ _ hHeld.2)).trans hHeld.2⟩ (fun _ => ?_)
      clear hK K
      refine norm_ (a' := ?_) ?_ ?_; rotate_left; (· show Act.put _ (some 89) _ = _; simp only [Act.put, sI, sZ, sS, iW, jW]; rfl)
      refine last_ (i := 13) (N := some 90) #[T,T,T,T,T,T,T,T,T,T,T,T,T,T,F,F,F] rfl rfl (by kernel_rfl) (by decide) (fun K hK => ?_)
      refine Kd.R_append_step (Kd.fixed DSS w0) (w0 := w0) w0.heap.size (by rfl) (.tmp 81) (.tmp 89) 23 22 (.slice none 0 0) 24 rfl Try.underlying23 info22 rfl (by show 0 < 1; omega) (by omega) (.slice Ah ch'.length caph) ch' (rd_L1 l i) [.slice Ai (rd_L1 l i).length ci] (fun _ => True) (fun _ => False) rfl rfl ⟨Ai, ci, rfl, HEL.out, HEC.out⟩ (fun _ hk => hk.elim) (fun _ _ => trivial) HX3.out.chs HX3.out.below (bZ HX3.out.below) (by have := HC.out; omega) ?_
      intro v2 w3 ho hb hgr hat
      obtain ⟨A2, cap2, rfl⟩ := Kd.R_slice ho
      have HO1 := Aside0.mk ho
      have HB1 := Aside0.mk hb
      have HGR := Aside0.mk hgr
      have y5 : w3.cell? ⟨g, 5, none⟩ = some (.slice Ah ch'.length caph) := (kC (blk_grown HX3.out.box hgr (srow_ne HX3.out.box HX3.out.chs (by decide))) 5).trans rfl
      have f5 := blk_frozen (blk_grown HX3.out.box hgr (srow_ne HX3.out.box HX3.out.chs (by decide))) 5
      clear ho hb hgr hat hHeld
      refine hK.out _ _ ?_
      clear hK K
      refine norm_ (a' := ?_) ?_ ?_; rotate_left; (· show Act.put _ (some 90) _ = _; simp only [Act.put, sI, sZ, sS, iW, jW]; rfl)
      refine pure_ (i := 14) (N := some 91) (v := ?_) (a' := ?_) #[T,T,T,T,T,T,T,T,T,T,T,T,T,T,T,F,F] rfl rfl (by kernel_rfl) (fun _ _ _ h => h) (Or.inl ⟨by rfl, ?_⟩) ?_ ?_; rotate_left; (· intro z_; go_simp; with_reducible rfl); rotate_left; (· simp only [Act.put, sI, sZ, sS, iW, jW]; rfl)
      refine pure_ (i := 15) (N := some 92) (v := ?_) (a' := ?_) #[T,T,T,T,T,T,T,T,T,T,T,T,T,T,T,T,F] rfl rfl (by kernel_rfl) (fun _ _ _ h => h) (Or.inl ⟨by rfl, ?_⟩) ?_ ?_; rotate_left; (· intro z_; go_simp; with_reducible rfl); rotate_left; (· simp only [Act.put, sI, sZ, sS, iW, jW]; rfl)
      refine last_ (i := 16) (N := none) #[T,T,T,T,T,T,T,T,T,T,T,T,T,T,T,T,T] rfl rfl (by kernel_rfl) (by decide) (fun K hK => ?_)
      refine skip_ (w1 := w3.setCell ⟨g, 5, none⟩ (.slice A2 (ch' ++ [rd_L1 l i]).length cap2)) (by rfl) rfl (by first | (go_simp; done) | (go_simp; rfl)) ?_
      have HX4 := Aside0.mk (SAt.grew5 HX3.out HGR.out HB1.out HO1.out HG.out (rfl : w3.setCell ⟨g, 5, none⟩ (.slice A2 (ch' ++ [rd_L1 l i]).length cap2) = _))
      clear HX3 HGR HB1 HO1 y5 f5
      generalize w3.setCell ⟨g, 5, none⟩ (.slice A2 (ch' ++ [rd_L1 l i]).length cap2) = w4 at HX4 ⊢
      refine hK.out _ _ ?_
      clear hK K
      refine done_ (by kernel_rfl) ?_
      go_wp2_with ((with_reducible refine gC (f := 28) rfl ?_); refine goesL_ (some 96) rfl rfl Try.func28 (by kernel_rfl) rfl #[.pointer (some ⟨g, 0, none⟩), .int .i64 (wrap64 (i + 1))] rfl (by (try simp only [List.map_toArray, List.map_cons, List.map_nil]); first | done | rfl | (simp only [List.length_drop, List.length_take]; rfl)) ?_; (with_reducible refine (HIH.out k1 (by have := HK1.out; omega) want n budget (st' ++ [i]) (.slice A1 (st' ++ [i]).length cap1) (ch' ++ [rd_L1 l i]) (.slice A2 (ch' ++ [rd_L1 l i]).length cap2) nodes' false (wrap64 (i + 1)) false q2 q3 q4 q5 g w4 HG.out HX4.out HA.out).mono ?_); rintro e w5 ⟨rfl, sv5, cv5, hX5⟩; refine ⟨_, rfl, ?_⟩; obtain ⟨A5, cap5, rfl⟩ := Kd.R_slice hX5.row; obtain ⟨A6, cap6, rfl⟩ := Kd.R_slice hX5.chs; have HX5 := Aside0.mk hX5; clear hX5 HX4 HA)
      have x_ : w5.cell? ⟨g, 4, none⟩ = some (.slice A5 q2.length cap5) := (kC HX5.out.box 4).trans rfl
      have hlen : 1 ≤ q2.length ∧ q2.length < 1001 := HC6.out.1
      have hw2 : IntKind.i64.wrap ((q2.length : Int) - 1) = ((q2.length - 1 : Nat) : Int) := by rw [iW]; unfold wrap64; omega
      obtain ⟨i2, hi2, _⟩ := info_parts info2
      have hcut := cut_to (P := Try.prog) 22 2 .i64 Try.underlying22 hi2 A5 q2.length cap5 (IntKind.i64.wrap ((q2.length : Int) - 1)) (by omega) (by omega) (Kd.R_reads' HX5.out.row).2.1
      have HW := Aside0.mk hw2
      clear hlen hi2 hw2
      go_still_tail 14, (by kernel_rfl)
      change wpList _ _ _ _ _ w5.drew
      replace HX5 := Aside0.mk HX5.out.drew
      clear x_
      generalize w5.drew = w6 at HX5 ⊢
      have y_ : w6.cell? ⟨g, 4, none⟩ = some (.slice A5 q2.length cap5) := (kC HX5.out.box 4).trans rfl
      have f_ := blk_frozen HX5.out.box 4
      clear hcut
      go_wp2_with ((with_reducible refine gate_store (t := 22) (p := 110) rfl ?_); refine store_event (t := 22) (p := 110) (v := ?vo_110) (w1 := w6.setCell ⟨g, 4, none⟩ (.slice A5 (IntKind.i64.wrap ((q2.length : Int) - 1)).toNat cap5)) ?hg ?ho ?hn ?hr ?_; (case ho => rfl); (case hg => rfl); (case hn => rfl); (case hr => first | (go_simp; done) | (go_simp; rfl)); intro w6_ hw; have HX6 := Aside0.mk (SAt.put4 HX5.out (Kd.R_take HX5.out.row (m := (IntKind.i64.wrap ((q2.length : Int) - 1)).toNat) (by rw [HW.out, Int.toNat_natCast]; omega)) HG.out hw); rw [HW.out, Int.toNat_natCast] at HX6; clear hw HX5 y_ f_ HW)
      have x_ : w6_.cell? ⟨g, 5, none⟩ = some (.slice A6 q3.length cap6) := (kC HX6.out.box 5).trans rfl
      have hlen : 1 ≤ q3.length ∧ q3.length < 1001 := HC6.out.2
      have hw2 : IntKind.i64.wrap ((q3.length : Int) - 1) = ((q3.length - 1 : Nat) : Int) := by rw [iW]; unfold wrap64; omega
      obtain ⟨i2, hi2, _⟩ := info_parts info22
      have hcut := cut_to (P := Try.prog) 23 22 .i64 Try.underlying23 hi2 A6 q3.length cap6 (IntKind.i64.wrap ((q3.length : Int) - 1)) (by omega) (by omega) (Kd.R_reads' HX6.out.chs).2.1
      have HW := Aside0.mk hw2
      clear hlen hi2 hw2
      go_still_tail 14, (by kernel_rfl)
      change wpList _ _ _ _ _ w6_.drew
      replace HX6 := Aside0.mk HX6.out.drew
      clear x_
      generalize w6_.drew = w7 at HX6 ⊢
      have y_ : w7.cell? ⟨g, 5, none⟩ = some (.slice A6 q3.length cap6) := (kC HX6.out.box 5).trans rfl
      have f_ := blk_frozen HX6.out.box 5
      clear hcut
      go_wp2_with ((with_reducible refine gate_store (t := 23) (p := 124) rfl ?_); refine store_event (t := 23) (p := 124) (v := ?vo_124) (w1 := w7.setCell ⟨g, 5, none⟩ (.slice A6 (IntKind.i64.wrap ((q3.length : Int) - 1)).toNat cap6)) ?hg ?ho ?hn ?hr ?_; (case ho => rfl); (case hg => rfl); (case hn => rfl); (case hr => first | (go_simp; done) | (go_simp; rfl)); intro w7_ hw; have HX7 := Aside0.mk (SAt.put5 HX6.out (Kd.R_take HX6.out.chs (m := (IntKind.i64.wrap ((q3.length : Int) - 1)).toNat) (by rw [HW.out, Int.toNat_natCast]; omega)) HG.out hw); rw [HW.out, Int.toNat_natCast] at HX7; clear hw HX6 y_ f_ HW)
      go_roundg k1
      case measure => have := HK1.out; omega
      case rel => exact ⟨wrap64 (i + 1), _, _, _, _, q4, q5, rfl, H5, ⟨by have := HK1.out; omega⟩, HX7⟩
theorem below_of_drawn {w W W1 : World} (h : Below w.heap.size w W) (hd : Drawn0 W W1) : Below w.heap.size w W1 := by
 obtain ⟨n, rfl⟩ := hd
 exact bN h n
def spec_FewestPhrases.l : Nat → List Int → List (List Int) → Int → Int → List Int → List (List Int) → Int → Bool → Int → Option (List Int × Int)
 | 0, _, _, _, _, _, _, _, _, _ => none
 | k + 1, x, l, want, b, st, ch, nodes, full, n => if n ≤ (l.length : Int) then (run.f k x l want n b st ch nodes full 0).bind fun r => if r.1 = true then (spec_l00Own.f r.2.1).bind fun o => some (o, 0) else if r.2.2.2.2 = true then some ([], 5) else spec_FewestPhrases.l k x l want b r.2.1 r.2.2.1 r.2.2.2.1 r.2.2.2.2 (wrap64 (n + 1)) else some ([], 5)
def spec_FewestPhrases.f (k : Nat) (x : List Int) (l : List (List Int)) (b : Int) : Option (List Int × Int) :=
 (spec_l06Ok.f k l).bind fun t => if t = true then (spec_l05Pitches.f k x).bind fun t => if t = true then (spec_l00In.f b 1 20000).bind fun t => if t = true then (spec_l06Covered.f k x l).bind fun c => (spec_l06Count.f k c).bind fun want => spec_FewestPhrases.l k x l want b [] [] 0 false 0 else some ([], 2) else some ([], 7) else some ([], 1)
set_option maxHeartbeats 8000000 in
set_option maxRecDepth 100000 in
theorem spec_FewestPhrases.calls (k : Nat) (A0 : Option Addr) (c0 : Nat) (l0 : List Int) (A1 : Option Addr) (c1 : Nat) (l1 : List (List Int)) (a2 : Int) (r1 : List Int) (r2 : Int) (w : World) (hr0 : Kd.C (Kd.int .i64) w A0 l0.length l0) (hc0 : l0.length ≤ c0) (hr1 : Kd.C (Kd.slice 2 (Kd.int .i64)) w A1 l1.length l1) (hc1 : l1.length ≤ c1) (h : spec_FewestPhrases.f k l0 l1 a2 = some (r1, r2)) :
  Calls Try.prog 6 #[.slice A0 l0.length c0, .slice A1 l1.length c1, .int .i64 a2] w fun e w' => ∃ v0_ : Value, e = .returned (.tuple #[v0_, .int .i64 r2]) ∧ Kd.R (Kd.int .i64) 2 w' w.heap.size (fun _ => True) v0_ r1 ∧ Below w.heap.size w w' := by
 have hu54 := Try.underlying54
 have HR0 := Aside0.mk hr0
 have HC0 := Aside0.mk hc0
 have HR1 := Aside0.mk hr1
 have HC1 := Aside0.mk hc1
 have HB := Aside0.mk (Below.refl w.heap.size w)
 clear hr0 hc0 hr1 hc1
 unfold spec_FewestPhrases.f at h
 obtain ⟨t1, a1, h⟩ := Option.bind_eq_some_iff.1 h
 have E1 := Aside0.mk a1
 clear a1
 cases t1 with
 | false =>
  rw [if_neg (by decide)] at h
  obtain ⟨rfl, rfl⟩ := Prod.mk.inj (Option.some.inj h)
  clear h
  go_enter Try.func6, Try.ntmps6
  go_wp2_with (((with_reducible refine gC (f := 23) rfl ?_); refine goesL_ (some 10) rfl rfl Try.func23 (by kernel_rfl) rfl #[.slice A1 l1.length c1] rfl (by (try simp only [List.map_toArray, List.map_cons, List.map_nil]); first | done | rfl | (simp only [List.length_drop, List.length_take]; rfl)) ?_; (with_reducible refine (spec_l06Ok.calls k _ _ l1 _ _ (cB HR1.out (by repeat (first | exact HB.out | apply bN | apply bD | apply bA))) HC1.out E1.out).mono ?_); rintro e w1 ⟨rfl, hd⟩; refine ⟨_, rfl, ?_⟩; have HB2 := Aside0.mk (below_of_drawn (by repeat (first | exact HB.out | apply bN | apply bD | apply bA)) hd); clear HB hd; have HB := HB2; clear HB2))
  go_ret2
  exact ⟨_, rfl, Kd.R_nil _ _ _ _ _, (by repeat (first | exact HB.out | apply bN | apply bD | apply bA))⟩
 | true =>
  rw [if_pos rfl] at h
  obtain ⟨t2, a2_, h⟩ := Option.bind_eq_some_iff.1 h
  have E2 := Aside0.mk a2_
  clear a2_
  cases t2 with
  | false =>
   rw [if_neg (by decide)] at h
   obtain ⟨rfl, rfl⟩ := Prod.mk.inj (Option.some.inj h)
   clear h
   go_enter Try.func6, Try.ntmps6
   go_wp2_with (first | ((with_reducible refine gC (f := 23) rfl ?_); refine goesL_ (some 10) rfl rfl Try.func23 (by kernel_rfl) rfl #[.slice A1 l1.length c1] rfl (by (try simp only [List.map_toArray, List.map_cons, List.map_nil]); first | done | rfl | (simp only [List.length_drop, List.length_take]; rfl)) ?_; (with_reducible refine (spec_l06Ok.calls k _ _ l1 _ _ (cB HR1.out (by repeat (first | exact HB.out | apply bN | apply bD | apply bA))) HC1.out E1.out).mono ?_); rintro e w1 ⟨rfl, hd⟩; refine ⟨_, rfl, ?_⟩; have HB2 := Aside0.mk (below_of_drawn (by repeat (first | exact HB.out | apply bN | apply bD | apply bA)) hd); clear HB hd; have HB := HB2; clear HB2) | ((with_reducible refine gC (f := 24) rfl ?_); refine goesL_ (some 13) rfl rfl Try.func24 (by kernel_rfl) rfl #[.slice A0 l0.length c0] rfl (by (try simp only [List.map_toArray, List.map_cons, List.map_nil]); first | done | rfl | (simp only [List.length_drop, List.length_take]; rfl)) ?_; (with_reducible refine (spec_l05Pitches.calls k _ _ l0 _ _ (cB HR0.out (by repeat (first | exact HB.out | apply bN | apply bD | apply bA))) HC0.out E2.out).mono ?_); rintro e w2 ⟨rfl, hd⟩; refine ⟨_, rfl, ?_⟩; have HB2 := Aside0.mk (below_of_drawn (by repeat (first | exact HB.out | apply bN | apply bD | apply bA)) hd); clear HB hd; have HB := HB2; clear HB2))
   go_ret2
   exact ⟨_, rfl, Kd.R_nil _ _ _ _ _, (by repeat (first | exact HB.out | apply bN | apply bD | apply bA))⟩
  | true =>
   rw [if_pos rfl] at h
   obtain ⟨t3, a3, h⟩ := Option.bind_eq_some_iff.1 h
   have E3 := Aside0.mk a3
   clear a3
   cases t3 with
   | false =>
    rw [if_neg (by decide)] at h
    obtain ⟨rfl, rfl⟩ := Prod.mk.inj (Option.some.inj h)
    clear h
    go_enter Try.func6, Try.ntmps6
    go_wp2_with (first | ((with_reducible refine gC (f := 23) rfl ?_); refine goesL_ (some 10) rfl rfl Try.func23 (by kernel_rfl) rfl #[.slice A1 l1.length c1] rfl (by (try simp only [List.map_toArray, List.map_cons, List.map_nil]); first | done | rfl | (simp only [List.length_drop, List.length_take]; rfl)) ?_; (with_reducible refine (spec_l06Ok.calls k _ _ l1 _ _ (cB HR1.out (by repeat (first | exact HB.out | apply bN | apply bD | apply bA))) HC1.out E1.out).mono ?_); rintro e w1 ⟨rfl, hd⟩; refine ⟨_, rfl, ?_⟩; have HB2 := Aside0.mk (below_of_drawn (by repeat (first | exact HB.out | apply bN | apply bD | apply bA)) hd); clear HB hd; have HB := HB2; clear HB2) | ((with_reducible refine gC (f := 24) rfl ?_); refine goesL_ (some 13) rfl rfl Try.func24 (by kernel_rfl) rfl #[.slice A0 l0.length c0] rfl (by (try simp only [List.map_toArray, List.map_cons, List.map_nil]); first | done | rfl | (simp only [List.length_drop, List.length_take]; rfl)) ?_; (with_reducible refine (spec_l05Pitches.calls k _ _ l0 _ _ (cB HR0.out (by repeat (first | exact HB.out | apply bN | apply bD | apply bA))) HC0.out E2.out).mono ?_); rintro e w2 ⟨rfl, hd⟩; refine ⟨_, rfl, ?_⟩; have HB2 := Aside0.mk (below_of_drawn (by repeat (first | exact HB.out | apply bN | apply bD | apply bA)) hd); clear HB hd; have HB := HB2; clear HB2) | ((with_reducible refine gC (f := 25) rfl ?_); refine goesL_ (some 16) rfl rfl Try.func25 (by kernel_rfl) rfl #[.int .i64 a2, .int .i64 1, .int .i64 20000] rfl (by (try simp only [List.map_toArray, List.map_cons, List.map_nil]); first | done | rfl | (simp only [List.length_drop, List.length_take]; rfl)) ?_; (with_reducible refine (spec_l00In.calls a2 1 20000 _ _ E3.out).mono ?_); rintro e w3 ⟨rfl, hd⟩; refine ⟨_, rfl, ?_⟩; have HB2 := Aside0.mk (below_of_drawn (by repeat (first | exact HB.out | apply bN | apply bD | apply bA)) hd); clear HB hd; have HB := HB2; clear HB2))
    go_ret2
    exact ⟨_, rfl, Kd.R_nil _ _ _ _ _, (by repeat (first | exact HB.out | apply bN | apply bD | apply bA))⟩
   | true =>
    rw [if_pos rfl] at h
    obtain ⟨cv, a4, h⟩ := Option.bind_eq_some_iff.1 h
    obtain ⟨want, a5, h⟩ := Option.bind_eq_some_iff.1 h
    have E4 := Aside0.mk a4
    have E5 := Aside0.mk a5
    have H' := Aside0.mk h
    clear a4 a5 h
    go_enter Try.func6, Try.ntmps6
    go_wp2_with (first | ((with_reducible refine gC (f := 23) rfl ?_); refine goesL_ (some 10) rfl rfl Try.func23 (by kernel_rfl) rfl #[.slice A1 l1.length c1] rfl (by (try simp only [List.map_toArray, List.map_cons, List.map_nil]); first | done | rfl | (simp only [List.length_drop, List.length_take]; rfl)) ?_; (with_reducible refine (spec_l06Ok.calls k _ _ l1 _ _ (cB HR1.out (by repeat (first | exact HB.out | apply bN | apply bD | apply bA))) HC1.out E1.out).mono ?_); rintro e w1 ⟨rfl, hd⟩; refine ⟨_, rfl, ?_⟩; have HB2 := Aside0.mk (below_of_drawn (by repeat (first | exact HB.out | apply bN | apply bD | apply bA)) hd); clear HB hd; have HB := HB2; clear HB2) | ((with_reducible refine gC (f := 24) rfl ?_); refine goesL_ (some 13) rfl rfl Try.func24 (by kernel_rfl) rfl #[.slice A0 l0.length c0] rfl (by (try simp only [List.map_toArray, List.map_cons, List.map_nil]); first | done | rfl | (simp only [List.length_drop, List.length_take]; rfl)) ?_; (with_reducible refine (spec_l05Pitches.calls k _ _ l0 _ _ (cB HR0.out (by repeat (first | exact HB.out | apply bN | apply bD | apply bA))) HC0.out E2.out).mono ?_); rintro e w2 ⟨rfl, hd⟩; refine ⟨_, rfl, ?_⟩; have HB2 := Aside0.mk (below_of_drawn (by repeat (first | exact HB.out | apply bN | apply bD | apply bA)) hd); clear HB hd; have HB := HB2; clear HB2) | ((with_reducible refine gC (f := 25) rfl ?_); refine goesL_ (some 16) rfl rfl Try.func25 (by kernel_rfl) rfl #[.int .i64 a2, .int .i64 1, .int .i64 20000] rfl (by (try simp only [List.map_toArray, List.map_cons, List.map_nil]); first | done | rfl | (simp only [List.length_drop, List.length_take]; rfl)) ?_; (with_reducible refine (spec_l00In.calls a2 1 20000 _ _ E3.out).mono ?_); rintro e w3 ⟨rfl, hd⟩; refine ⟨_, rfl, ?_⟩; have HB2 := Aside0.mk (below_of_drawn (by repeat (first | exact HB.out | apply bN | apply bD | apply bA)) hd); clear HB hd; have HB := HB2; clear HB2) | ((with_reducible refine gC (f := 27) rfl ?_); refine goesL_ (some 22) rfl rfl Try.func27 (by kernel_rfl) rfl #[.slice A0 l0.length c0, .slice A1 l1.length c1] rfl (by (try simp only [List.map_toArray, List.map_cons, List.map_nil]); first | done | rfl | (simp only [List.length_drop, List.length_take]; rfl)) ?_; (with_reducible refine (spec_l06Covered.calls k _ _ l0 _ _ l1 cv _ (cB HR0.out (by repeat (first | exact HB.out | apply bN | apply bD | apply bA))) HC0.out (cB HR1.out (by repeat (first | exact HB.out | apply bN | apply bD | apply bA))) HC1.out E4.out).mono ?_); rintro e w4 ⟨v4, rfl, h4, hb⟩; refine ⟨_, rfl, ?_⟩; obtain ⟨A4, c4, rfl⟩ := Kd.R_slice h4; have HB2 := Aside0.mk (bP (by repeat (first | exact HB.out | apply bN | apply bD | apply bA)) hb); have H4 := Aside0.mk h4; clear HB h4 hb; have HB := HB2; clear HB2) | ((with_reducible refine gC (f := 26) rfl ?_); refine goesL_ (some 23) rfl rfl Try.func26 (by kernel_rfl) rfl #[.slice A4 cv.length c4] rfl (by (try simp only [List.map_toArray, List.map_cons, List.map_nil]); first | done | rfl | (simp only [List.length_drop, List.length_take]; rfl)) ?_; (with_reducible refine (spec_l06Count.calls k _ _ cv want _ (Kd.R_reads' H4.out).2.2 (Kd.R_reads' H4.out).2.1 E5.out).mono ?_); rintro e w5 ⟨rfl, hd⟩; refine ⟨_, rfl, ?_⟩; have HB2 := Aside0.mk (below_of_drawn (by repeat (first | exact HB.out | apply bN | apply bD | apply bA)) hd); clear HB hd H4; have HB := HB2; clear HB2) | ((with_reducible refine gate_dst (N := 26) rfl ?_); refine bE ?hg (N := 26) ?hd (cs := #[.slice A0 l0.length c0, .slice A1 l1.length c1, .int .i64 want, .int .i64 0, .slice none 0 0, .slice none 0 0, .int .i64 0, .int .i64 a2, .bool false]) (t := 54) ?hr ?_; (case hd => rfl); (case hg => rfl); (case hr => first | (go_simp; done) | (go_simp; rfl)); intro g hg_ w6 hbox hb; have HG := Aside0.mk (show w.heap.size ≤ g by rw [hg_]; exact bZ (by repeat (first | exact HB.out | apply bN | apply bD | apply bA))); have HX := Aside0.mk (show SAt w w6 g (.slice A0 l0.length c0) (.slice A1 l1.length c1) want 0 a2 [] (.slice none 0 0) [] (.slice none 0 0) 0 false from ⟨bP (by repeat (first | exact HB.out | apply bN | apply bD | apply bA)) hb, hbox, Kd.R_nil _ _ _ _ _, Kd.R_nil _ _ _ _ _⟩); clear HB hb hbox hg_; have x3 : w6.cell? ⟨g, 3, none⟩ = some (.int .i64 0) := (kC HX.out.box 3).trans rfl; have f3 := blk_frozen HX.out.box 3) | ((with_reducible refine gate_store (t := 3) (p := 29) rfl ?_); refine store_event (t := 3) (p := 29) (v := ?vo_s0) (w1 := w6.setCell ⟨g, 3, none⟩ (.int .i64 0)) ?hg ?ho ?hn ?hr ?_; (case ho => rfl); (case hg => rfl); (case hn => rfl); (case hr => first | (go_simp; done) | (go_simp; rfl)); intro w7 hw; have HX2 := Aside0.mk (SAt.put3 HX.out HG.out hw); clear hw HX x3 f3))
    go_loopg [45] k (fun kq v45 wr => ∃ (n : Int) (st : List Int) (sv : Value) (ch : List (List Int)) (cv : Value) (nodes : Int) (full : Bool), Aside0 (spec_FewestPhrases.l kq l0 l1 want a2 st ch nodes full n = some (r1, r2)) ∧ Aside0 (kq ≤ k) ∧ Aside0 (SAt w wr g (.slice A0 l0.length c0) (.slice A1 l1.length c1) want n a2 st sv ch cv nodes full))
    case atStart => exact ⟨0, [], _, [], _, 0, false, H', ⟨Nat.le_refl _⟩, HX2⟩
    case round =>
     clear H' HX2
     obtain ⟨n, st, sv, ch, cv, nodes, full, HA, HK1, HX⟩ := hrel
     cases gk with
     | zero => exact absurd HA.out (by simp [spec_FewestPhrases.l])
     | succ k1 =>
      have H := HA.out
      clear HA
      rw [spec_FewestPhrases.l] at H
      have x3 : wr.cell? ⟨g, 3, none⟩ = some (.int .i64 n) := (kC HX.out.box 3).trans rfl
      by_cases c1_ : n ≤ (l1.length : Int)
      rotate_left
      ·rw [if_neg c1_] at H
       obtain ⟨rfl, rfl⟩ := Prod.mk.inj (Option.some.inj H)
       have d1 : decide (n ≤ (l1.length : Int)) = false := decide_eq_false c1_
       clear H c1_
       go_wp2
       go_ret2
       exact ⟨_, rfl, Kd.R_nil _ _ _ _ _, HX.out.below⟩
      rw [if_pos c1_] at H
      have d1 : decide (n ≤ (l1.length : Int)) = true := decide_eq_true c1_
      clear c1_
      obtain ⟨⟨q1, q2, q3, q4, q5⟩, A, H3⟩ := Option.bind_eq_some_iff.1 H
      dsimp only at H3
      have HA := Aside0.mk A
      clear H A
      cases q1 with
      | true =>
       rw [if_pos rfl] at H3
       obtain ⟨o, a6, H3⟩ := Option.bind_eq_some_iff.1 H3
       obtain ⟨rfl, rfl⟩ := Prod.mk.inj (Option.some.inj H3)
       have E6 := Aside0.mk a6
       clear H3 a6
       go_wp2_with (first | ((with_reducible refine gC (f := 28) rfl ?_); refine goesL_ (some 45) rfl rfl Try.func28 (by kernel_rfl) rfl #[.pointer (some ⟨g, 0, none⟩), .int .i64 0] rfl (by (try simp only [List.map_toArray, List.map_cons, List.map_nil]); first | done | rfl | (simp only [List.length_drop, List.length_take]; rfl)) ?_; (with_reducible refine (run.calls w A0 c0 l0 A1 c1 l1 HR0.out HC0.out HR1.out HC1.out k1 want n a2 st sv ch cv nodes full 0 true q2 q3 q4 q5 g wr HG.out HX.out HA.out).mono ?_); rintro e w8 ⟨rfl, sv5, cv5, hX5⟩; refine ⟨_, rfl, ?_⟩; obtain ⟨A5, c5, rfl⟩ := Kd.R_slice hX5.row; have HX5 := Aside0.mk hX5; clear hX5 HX HA x3; have x4 : w8.cell? ⟨g, 4, none⟩ = some (.slice A5 q2.length c5) := (kC HX5.out.box 4).trans rfl) | ((with_reducible refine gC (f := 29) rfl ?_); refine goesL_ (some 50) rfl rfl Try.func29 (by kernel_rfl) rfl #[.slice A5 q2.length c5] rfl (by (try simp only [List.map_toArray, List.map_cons, List.map_nil]); first | done | rfl | (simp only [List.length_drop, List.length_take]; rfl)) ?_; (with_reducible refine (spec_l00Own.calls _ _ q2 o _ (Kd.R_reads' HX5.out.row).2.2 (Kd.R_reads' HX5.out.row).2.1 E6.out).mono ?_); rintro e w9 ⟨v9, rfl, h9, hb⟩; refine ⟨_, rfl, ?_⟩; have HO := Aside0.mk (rL h9 (bZ HX5.out.below)); have HBO := Aside0.mk (bP HX5.out.below hb); obtain ⟨A9, c9, rfl⟩ := Kd.R_slice HO.out; clear h9 hb x4))
       go_ret2
       exact ⟨_, rfl, HO.out, HBO.out⟩
      | false =>
       rw [if_neg (by decide)] at H3
       cases q5 with
       | true =>
        rw [if_pos rfl] at H3
        obtain ⟨rfl, rfl⟩ := Prod.mk.inj (Option.some.inj H3)
        clear H3
        go_wp2_with ((with_reducible refine gC (f := 28) rfl ?_); refine goesL_ (some 45) rfl rfl Try.func28 (by kernel_rfl) rfl #[.pointer (some ⟨g, 0, none⟩), .int .i64 0] rfl (by (try simp only [List.map_toArray, List.map_cons, List.map_nil]); first | done | rfl | (simp only [List.length_drop, List.length_take]; rfl)) ?_; (with_reducible refine (run.calls w A0 c0 l0 A1 c1 l1 HR0.out HC0.out HR1.out HC1.out k1 want n a2 st sv ch cv nodes full 0 false q2 q3 q4 true g wr HG.out HX.out HA.out).mono ?_); rintro e w8 ⟨rfl, sv5, cv5, hX5⟩; refine ⟨_, rfl, ?_⟩; have HX5 := Aside0.mk hX5; clear hX5 HX HA x3; have x8 : w8.cell? ⟨g, 8, none⟩ = some (.bool true) := (kC HX5.out.box 8).trans rfl)
        go_ret2
        exact ⟨_, rfl, Kd.R_nil _ _ _ _ _, HX5.out.below⟩
       | false =>
        rw [if_neg (by decide)] at H3
        have H4 := Aside0.mk H3
        clear H3
        go_wp2_with (first | ((with_reducible refine gC (f := 28) rfl ?_); refine goesL_ (some 45) rfl rfl Try.func28 (by kernel_rfl) rfl #[.pointer (some ⟨g, 0, none⟩), .int .i64 0] rfl (by (try simp only [List.map_toArray, List.map_cons, List.map_nil]); first | done | rfl | (simp only [List.length_drop, List.length_take]; rfl)) ?_; (with_reducible refine (run.calls w A0 c0 l0 A1 c1 l1 HR0.out HC0.out HR1.out HC1.out k1 want n a2 st sv ch cv nodes full 0 false q2 q3 q4 false g wr HG.out HX.out HA.out).mono ?_); rintro e w8 ⟨rfl, sv5, cv5, hX5⟩; refine ⟨_, rfl, ?_⟩; have HX5 := Aside0.mk hX5; clear hX5 HX HA x3; have x8 : w8.cell? ⟨g, 8, none⟩ = some (.bool false) := (kC HX5.out.box 8).trans rfl; have x3 : w8.cell? ⟨g, 3, none⟩ = some (.int .i64 n) := (kC HX5.out.box 3).trans rfl; have f3 := blk_frozen HX5.out.box 3) | ((with_reducible refine gate_store (t := 3) (p := 43) rfl ?_); refine store_event (t := 3) (p := 43) (v := ?vo_sn) (w1 := w8.setCell ⟨g, 3, none⟩ (.int .i64 (wrap64 (n + 1)))) ?hg ?ho ?hn ?hr ?_; (case ho => rfl); (case hg => rfl); (case hn => rfl); (case hr => first | (go_simp; done) | (go_simp; rfl)); intro w9 hw; have HX6 := Aside0.mk (SAt.put3 HX5.out HG.out hw); clear hw HX5 x8 x3 f3))
        go_roundg k1
        case measure => have := HK1.out; omega
        case rel => exact ⟨wrap64 (n + 1), q2, _, q3, _, q4, false, H4, ⟨by have := HK1.out; omega⟩, HX6⟩
theorem run.mono_l : ∀ k, (∀ x l want n b st ch nodes full i, LeO (run.f k x l want n b st ch nodes full i) (run.f (k + 1) x l want n b st ch nodes full i)) ∧ (∀ x l want n b st ch nodes full i, LeO (run.l k x l want n b st ch nodes full i) (run.l (k + 1) x l want n b st ch nodes full i))
 | 0 => ⟨fun _ _ _ _ _ _ _ _ _ _ r h => by simp [run.f] at h, fun _ _ _ _ _ _ _ _ _ _ r h => by simp [run.l] at h⟩
 | k + 1 => by
  obtain ⟨ih0, ih1⟩ := run.mono_l k
  refine ⟨?_, ?_⟩
  ·intro x l want n b st ch nodes full i
   unfold run.f
   repeat' first
    | (with_reducible exact LeO.refl _)
    | (with_reducible exact LeO.none _)
    | (with_reducible refine LeO.ite ?_ ?_)
    | (with_reducible refine LeO.bind ?_ (fun _ => ?_))
    | exact ih1 _ _ _ _ _ _ _ _ _ _
    | exact spec_l06Covered.mono _ _ _
    | exact spec_l06Count.mono _ _
  ·intro x l want n b st ch nodes full i
   unfold run.l
   repeat' first
    | (with_reducible exact LeO.refl _)
    | (with_reducible exact LeO.none _)
    | (with_reducible refine LeO.ite ?_ ?_)
    | (with_reducible refine LeO.bind ?_ (fun _ => ?_))
    | exact ih0 _ _ _ _ _ _ _ _ _ _
    | exact ih1 _ _ _ _ _ _ _ _ _ _
theorem spec_FewestPhrases.mono_l : ∀ k, ∀ x l want b st ch nodes full n, LeO (spec_FewestPhrases.l k x l want b st ch nodes full n) (spec_FewestPhrases.l (k + 1) x l want b st ch nodes full n)
 | 0 => fun _ _ _ _ _ _ _ _ _ r h => by simp [spec_FewestPhrases.l] at h
 | k + 1 => by
  have ih0 := spec_FewestPhrases.mono_l k
  intro x l want b st ch nodes full n
  unfold spec_FewestPhrases.l
  repeat' first
   | (with_reducible exact LeO.refl _)
   | (with_reducible exact LeO.none _)
   | (with_reducible refine LeO.ite ?_ ?_)
   | (with_reducible refine LeO.bind ?_ (fun _ => ?_))
   | exact ih0 _ _ _ _ _ _ _ _ _
   | exact (run.mono_l k).1 _ _ _ _ _ _ _ _ _ _
theorem spec_FewestPhrases.mono : ∀ x l b k, LeO (spec_FewestPhrases.f k x l b) (spec_FewestPhrases.f (k + 1) x l b) := by
 intro x l b k
 unfold spec_FewestPhrases.f
 repeat' first
  | (with_reducible exact LeO.refl _)
  | (with_reducible exact LeO.none _)
  | (with_reducible refine LeO.ite ?_ ?_)
  | (with_reducible refine LeO.bind ?_ (fun _ => ?_))
  | exact spec_FewestPhrases.mono_l k _ _ _ _ _ _ _ _ _
  | exact spec_l06Covered.mono _ _ _
  | exact spec_l06Count.mono _ _
  | exact spec_l06Ok.mono _ _
  | exact spec_l05Pitches.mono _ _

end Go.Proofs.Yteljnbhbpidjpaa.F
-- shrunk
-- tight
