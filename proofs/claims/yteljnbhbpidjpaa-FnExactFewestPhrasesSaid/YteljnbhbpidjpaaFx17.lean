/- What functions of the given program compute, as plain Lean functions, and that the code comes to just that; by a program of this session over the kit's print. No condition. -/
import Derived.Test.YteljnbhbpidjpaaFx0
import Derived.Test.YteljnbhbpidjpaaFx13
import Derived.Test.YteljnbhbpidjpaaFx16
namespace Go.Proofs.Yteljnbhbpidjpaa.F
open Go.RowKit Go.Proofs.YteljnbhbpidjpaaW.PrintWords Go.Proofs.YteljnbhbpidjpaaW.PrintLast Go.Proofs.YteljnbhbpidjpaaW.PrintMore
open Go.Proofs.YteljnbhbpidjpaaW.PrintWords renaming below_alloc → bA, pw_below_drewN → bN, below_drew1 → bD, below_set → bS, blk_drew → kD, blk_alloc → kA, blk_below → kB, below_size → bZ, gate_callee → gC, box_event → bE, blk_cell → kC
open Go.Proofs.YteljnbhbpidjpaaW.PrintLast renaming i64_w → iW, i32_w → jW
open Go.Proofs.YteljnbhbpidjpaaW.PrintWords.Kd renaming R_drew → rD, C_below → cB, R_below → rB, R_mono → rM
open List renaming setIfInBounds_toArray → sI, set_cons_zero → sZ, set_cons_succ → sS
open Bool renaming true → T, false → F
attribute [local go_sem] max2_int min2_int max_two min_two max_three min_three max_four min_four   -- for this text's walks alone
set_option linter.unusedVariables false
set_option linter.unusedSimpArgs false

/-! ### impl_FewestPhrases: function 9 -/
/-- A block of another element type is not the row's. -/
theorem row_ne {α : Type} {d : Kd α} {e base g t : Nat} {W : World} {ok : Nat → Prop} {v : Value} {xs : List α} {cs : Array Value} (hb : W.heap[g]? = some (.cells cs t (0, 0))) (h : d.R e W base ok v xs) (hne : t ≠ e) : some g ≠ v.ownBlock := fun he => by
 obtain ⟨_, inner, ho, _⟩ := h
 obtain ⟨cells, hc⟩ := own_typed ho g he.symm
 rw [hb] at hc
 injection hc with hc
 injection hc with _ hc
 exact hne hc
theorem row_grown {α β : Type} {d : Kd α} {d' : Kd β} {e e' base base' : Nat} {W W1 : World} {ok ok' : Nat → Prop} {v v' : Value} {xs : List α} {ys : List β} (h : d.R e W base ok v xs) (h' : d'.R e' W base' ok' v' ys) (ht : ∀ q, q ∈ e' :: d'.E → q ≠ e) (hg : W.grownBy W1 v.ownBlock) : d'.R e' W1 base' ok' v' ys :=
 rM (Kd.R_grown (Kd.R_bound h') hg (fun k hk he => by
  obtain ⟨_, _, _, q, hq, cells, hc⟩ := hk
  exact row_ne hc h (ht q hq) he)) (fun _ hk => hk.1)
/-- A state's block is written: rows of other types stay. -/
theorem row_put {α : Type} {d : Kd α} {e base g t i : Nat} {W : World} {ok : Nat → Prop} {v u : Value} {xs : List α} {cs : Array Value} (h : d.R e W base ok v xs) (hb : W.heap[g]? = some (.cells cs t (0, 0))) (ht : ∀ q, q ∈ e :: d.E → q ≠ t) : d.R e (W.setCell ⟨g, i, none⟩ u) base ok v xs := Kd.R_set h hb ht i u
mutual
def ext.f : Nat → List Int → Int → Int → List Int → Int → Int → Int → Option (Bool × Int × List Int)
 | 0, _, _, _, _, _, _, _ => none
 | k + 1, sets, goal, b, sm, from_, more, cov => if more = 0 then some (if wrap64 (b - 1) ≥ 0 then decide (cov = goal) else false, wrap64 (b - 1), sm) else ext.l k sets goal b sm more cov from_
def ext.l : Nat → List Int → Int → Int → List Int → Int → Int → Int → Option (Bool × Int × List Int)
 | 0, _, _, _, _, _, _, _ => none
 | k + 1, sets, goal, b, sm, more, cov, i => if wrap64 (i + more) ≤ (sets.length : Int) then (if 0 ≤ i ∧ i < (sets.length : Int) ∧ sm.length < 1000 then ((ext.f k sets goal b (sm ++ [i]) (wrap64 (i + 1)) (wrap64 (more - 1)) (Go.bits .or .u64 cov (rd sets i))).bind fun r => if r.1 = true then some (true, r.2) else (if 1 ≤ r.2.2.length ∧ r.2.2.length < 1001 then (if r.2.1 < 0 then some (false, r.2.1, r.2.2.take (r.2.2.length - 1)) else ext.l k sets goal r.2.1 (r.2.2.take (r.2.2.length - 1)) more cov (wrap64 (i + 1))) else none)) else none) else some (false, b, sm)
end
abbrev XSt (As : Option Addr) (n cs : Nat) (goal b : Int) (v : Value) : Obj := .cells #[.slice As n cs, .int .u64 goal, .int .i64 b, v] 61 (0, 0)
/-- What is known of a search in memory. -/
structure XAt (w0 W : World) (g : Nat) (As : Option Addr) (cs : Nat) (sets : List Int) (goal b : Int) (v : Value) (sm : List Int) : Prop where
 below : Below w0.heap.size w0 W
 tab : Kd.R (Kd.int .u64) 57 W w0.heap.size (fun _ => True) (.slice As sets.length cs) sets
 box : W.heap[g]? = some (XSt As sets.length cs goal b v)
 row : Kd.R (Kd.int .i64) 2 W w0.heap.size (fun _ => True) v sm
theorem XAt.drew {w0 W : World} {g : Nat} {As : Option Addr} {cs : Nat} {sets : List Int} {goal b : Int} {v : Value} {sm : List Int} (h : XAt w0 W g As cs sets goal b v sm) : XAt w0 W.drew g As cs sets goal b v sm :=
 ⟨bD h.below, rD h.tab, kD h.box, rD h.row⟩
theorem XAt.put2 {w0 W W2 : World} {g : Nat} {As : Option Addr} {cs : Nat} {sets : List Int} {goal b b2 : Int} {v : Value} {sm : List Int} (h : XAt w0 W g As cs sets goal b v sm) (hg : w0.heap.size ≤ g) (hw : W2 = W.setCell ⟨g, 2, none⟩ (.int .i64 b2)) : XAt w0 W2 g As cs sets goal b2 v sm := by
 subst hw
 exact ⟨bS h.below hg, row_put h.tab h.box (by decide), blk_put h.box 2 _ rfl, row_put h.row h.box (by decide)⟩
theorem XAt.put3 {w0 W W2 : World} {g : Nat} {As : Option Addr} {cs : Nat} {sets : List Int} {goal b : Int} {v v2 : Value} {sm sm2 : List Int} (h : XAt w0 W g As cs sets goal b v sm) (hr : Kd.R (Kd.int .i64) 2 W w0.heap.size (fun _ => True) v2 sm2) (hg : w0.heap.size ≤ g) (hw : W2 = W.setCell ⟨g, 3, none⟩ v2) : XAt w0 W2 g As cs sets goal b v2 sm2 := by
 subst hw
 exact ⟨bS h.below hg, row_put h.tab h.box (by decide), blk_put h.box 3 _ rfl, row_put hr h.box (by decide)⟩
theorem XAt.put32 {w0 W W1 W2 : World} {g : Nat} {As : Option Addr} {cs : Nat} {sets : List Int} {goal b : Int} {v v2 : Value} {sm sm2 : List Int} (h : XAt w0 W g As cs sets goal b v sm) (hgr : W.grownBy W1 v.ownBlock) (hb : Below w0.heap.size w0 W1) (hr : Kd.R (Kd.int .i64) 2 W1 w0.heap.size (fun _ => True) v2 sm2) (hg : w0.heap.size ≤ g) (hw : W2 = W1.setCell ⟨g, 3, none⟩ v2) : XAt w0 W2 g As cs sets goal b v2 sm2 := by
 have hk : W1.heap[g]? = some (XSt As sets.length cs goal b v) := blk_grown h.box hgr (row_ne h.box h.row (by decide))
 subst hw
 exact ⟨bS hb hg, row_put (row_grown h.row h.tab (by decide) hgr) hk (by decide), blk_put hk 3 _ rfl, row_put hr hk (by decide)⟩
set_option maxHeartbeats 8000000 in
set_option maxRecDepth 100000 in
theorem ext.calls (k : Nat) : ∀ (As : Option Addr) (cs : Nat) (sets : List Int) (goal b : Int) (v : Value) (sm : List Int) (from_ more cov : Int) (r1 : Bool) (r2 : Int) (r3 : List Int) (g : Nat) (w0 w : World),
  w0.heap.size ≤ g → XAt w0 w g As cs sets goal b v sm → ext.f k sets goal b sm from_ more cov = some (r1, r2, r3) →
  Calls Try.prog 34 #[.pointer (some ⟨g, 0, none⟩), .int .i64 from_, .int .i64 more, .int .u64 cov] w fun e w' => e = .returned (.bool r1) ∧ ∃ v', XAt w0 w' g As cs sets goal r2 v' r3 := by
 induction k using Nat.strongRecOn with
 | ind k IH =>
 intro As cs sets goal b v sm from_ more cov r1 r2 r3 g w0 w hg hX h
 have hu61 := Try.underlying61
 have HX := Aside0.mk hX
 have HG := Aside0.mk hg
 cases k with
 | zero => exact absurd h (by simp [ext.f])
 | succ k =>
 rw [ext.f] at h
 by_cases c : more = 0
 ·subst c
  rw [if_pos rfl] at h
  obtain ⟨e1, e2, e3⟩ := Prod.mk.inj (Option.some.inj h) |>.imp id Prod.mk.inj
  subst e2 e3
  have x2 : w.cell? ⟨g, 2, none⟩ = some (.int .i64 b) := (kC hX.box 2).trans rfl
  have x1 : w.cell? ⟨g, 1, none⟩ = some (.int .u64 goal) := (kC hX.box 1).trans rfl
  have f2 := blk_frozen hX.box 2
  clear h hX hg IH
  go_enter Try.func34, Try.ntmps34
  by_cases c1 : wrap64 (b - 1) ≥ 0
  ·rw [if_pos c1] at e1
   have c2 : decide (wrap64 (b - 1) ≥ 0) = true := decide_eq_true c1
   subst e1
   clear c1
   go_wp2
   go_ret
   exact ⟨rfl, _, HX.out.put2 HG.out rfl⟩
  ·rw [if_neg c1] at e1
   have c2 : decide (wrap64 (b - 1) ≥ 0) = false := decide_eq_false c1
   subst e1
   clear c1
   go_wp2
   go_ret
   exact ⟨rfl, _, HX.out.put2 HG.out rfl⟩
 ·rw [if_neg c] at h
  have H' := Aside0.mk h
  have HIH := Aside0.mk IH
  have c0 : (more == 0) = false := beq_eq_false_iff_ne.mpr c
  clear h hX hg IH
  go_enter Try.func34, Try.ntmps34
  go_wp2
  clear c0 c
  go_loopg [9] k (fun kq v9 wr => ∃ (i b' : Int) (sm' : List Int) (v' : Value), v9 = .int .i64 i ∧ Aside0 (ext.l kq sets goal b' sm' more cov i = some (r1, r2, r3)) ∧ Aside0 (kq ≤ k) ∧ Aside0 (XAt w0 wr g As cs sets goal b' v' sm'))
  case atStart => exact ⟨from_, b, sm, v, rfl, H', ⟨Nat.le_refl _⟩, HX⟩
  case round =>
   clear H' HX
   obtain ⟨i, b', sm', v', rfl, HA, HK1, HX⟩ := hrel
   cases gk with
   | zero => exact absurd HA.out (by simp [ext.l])
   | succ k1 =>
    have H := HA.out
    clear HA
    rw [ext.l] at H
    have x0 : wr.cell? ⟨g, 0, none⟩ = some (.slice As sets.length cs) := (kC HX.out.box 0).trans rfl
    by_cases c1 : wrap64 (i + more) ≤ (sets.length : Int)
    ·rw [if_pos c1] at H
     by_cases c2 : 0 ≤ i ∧ i < (sets.length : Int) ∧ sm'.length < 1000
     ·rw [if_pos c2] at H
      obtain ⟨c3, c4, c5⟩ := c2
      obtain ⟨⟨q1, q2, q3⟩, A, H3⟩ := Option.bind_eq_some_iff.1 H
      clear H
      have HA := Aside0.mk A
      have HL := Aside0.mk c5
      clear A c5
      obtain ⟨gs, cap, es, _⟩ := Kd.R_form HX.out.tab (by omega)
      injection es with es1 _ es2
      subst es1 es2
      obtain ⟨Am, capm, rfl⟩ := Kd.R_slice HX.out.row
      have x3 : wr.cell? ⟨g, 3, none⟩ = some (.slice Am sm'.length capm) := (kC HX.out.box 3).trans rfl
      have f3 := blk_frozen HX.out.box 3
      have d1 : decide (wrap64 (i + more) ≤ (sets.length : Int)) = true := decide_eq_true c1
      have d2 : (0 ≤ i) = True := eq_true c3
      have d3 : (i < (sets.length : Int)) = True := eq_true c4
      have HI := Aside0.mk (And.intro c3 c4)
      clear c1 c3 c4
      dsimp only at H3
      have H2 := Aside0.mk H3
      clear H3
      cases q1 with
      | true =>
       have H4 := H2.out
       rw [if_pos rfl] at H4
       obtain ⟨e1, e2, e3⟩ := Prod.mk.inj (Option.some.inj H4) |>.imp id Prod.mk.inj
       subst e1 e2 e3
       clear H4 H2
       go_wp2_with (first
        | ((with_reducible refine gate_builtin (b := .append) (xs := #[.tmp 48, .tmp 50]) rfl ?_); at_builtin; refine Kd.R_append (Kd.int .i64) (w0 := w0) w0.heap.size rfl (.tmp 48) (.tmp 50) 22 2 (.int .i64 0) 8 rfl Try.underlying22 info2 rfl (by decide) (by omega) (.slice Am sm'.length capm) sm' i [.int .i64 i] (fun _ => True) (fun _ => False) rfl rfl ?aP (fun _ hk => hk.elim) ?aF HX.out.row HX.out.below (bZ HX.out.below) ?aL ?_; (case aP => exact rfl); (case aF => exact (fun _ _ => trivial)); (case aL => have := HL.out; omega); intro v1 w1 ho hb hgr hat; obtain ⟨A1, cap1, rfl⟩ := Kd.R_slice ho; have HO1 := Aside0.mk ho; have HB1 := Aside0.mk hb; have HGR := Aside0.mk hgr; have y3 : w1.cell? ⟨g, 3, none⟩ = some (.slice Am sm'.length capm) := (kC (blk_grown HX.out.box hgr (row_ne HX.out.box HX.out.row (by decide))) 3).trans rfl; have f4 := blk_frozen (blk_grown HX.out.box hgr (row_ne HX.out.box HX.out.row (by decide))) 3; clear ho hb hgr hat x0 x3 f3)
        | ((with_reducible refine gate_store (t := 22) (p := 53) rfl ?_); refine store_event (t := 22) (p := 53) (v := ?vo_1) (w1 := w1.setCell ⟨g, 3, none⟩ (.slice A1 (sm' ++ [i]).length cap1)) ?hg ?ho ?hn ?hr ?_; (case ho => rfl); (case hg => rfl); (case hn => rfl); (case hr => first | (go_simp; done) | (go_simp; rfl)); intro w2 hw; have HX2 := Aside0.mk (XAt.put32 HX.out HGR.out HB1.out HO1.out HG.out hw); clear hw HX HGR HB1 HO1 y3 f4; have x0 : w2.cell? ⟨g, 0, none⟩ = some (.slice (some ⟨gs, 0, none⟩) sets.length cs) := (kC HX2.out.box 0).trans rfl; have z0 : w2.cell? ⟨gs, i.toNat, none⟩ = some (.int .u64 (rd sets i)) := (Kd.R_celln (0 : Int) HX2.out.tab i HI.out.1 HI.out.2).1)
        | ((with_reducible refine gC (f := 34) rfl ?_); refine goesL_ (some 68) rfl rfl Try.func34 (by kernel_rfl) rfl #[.pointer (some ⟨g, 0, none⟩), .int .i64 (wrap64 (i + 1)), .int .i64 (wrap64 (more - 1)), .int .u64 (Go.bits .or .u64 cov (rd sets i))] rfl (by (try simp only [List.map_toArray, List.map_cons, List.map_nil]); first | done | rfl | (simp only [List.length_drop, List.length_take]; rfl)) ?_; (with_reducible refine (HIH.out k1 (by have := HK1.out; omega) _ cs sets goal b' (.slice A1 (sm' ++ [i]).length cap1) (sm' ++ [i]) (wrap64 (i + 1)) (wrap64 (more - 1)) (Go.bits .or .u64 cov (rd sets i)) true q2 q3 g w0 w2 HG.out HX2.out HA.out).mono ?_); rintro e w3 ⟨rfl, v3, hX3⟩; refine ⟨_, rfl, ?_⟩; have HX3 := Aside0.mk hX3; clear hX3 HX2 HA x0 z0))
       go_ret
       exact ⟨rfl, _, HX3.out⟩
      | false =>
       have H4 := H2.out
       rw [if_neg (by decide)] at H4
       clear H2
       by_cases c6 : 1 ≤ q3.length ∧ q3.length < 1001
       rotate_left
       ·rw [if_neg c6] at H4
        cases H4
       rw [if_pos c6] at H4
       have H5 := Aside0.mk H4
       have HC6 := Aside0.mk c6
       clear H4 c6
       go_wp2_with (first
        | ((with_reducible refine gate_builtin (b := .append) (xs := #[.tmp 48, .tmp 50]) rfl ?_); at_builtin; refine Kd.R_append (Kd.int .i64) (w0 := w0) w0.heap.size rfl (.tmp 48) (.tmp 50) 22 2 (.int .i64 0) 8 rfl Try.underlying22 info2 rfl (by decide) (by omega) (.slice Am sm'.length capm) sm' i [.int .i64 i] (fun _ => True) (fun _ => False) rfl rfl ?bP (fun _ hk => hk.elim) ?bF HX.out.row HX.out.below (bZ HX.out.below) ?bL ?_; (case bP => exact rfl); (case bF => exact (fun _ _ => trivial)); (case bL => have := HL.out; omega); intro v1 w1 ho hb hgr hat; obtain ⟨A1, cap1, rfl⟩ := Kd.R_slice ho; have HO1 := Aside0.mk ho; have HB1 := Aside0.mk hb; have HGR := Aside0.mk hgr; have y3 : w1.cell? ⟨g, 3, none⟩ = some (.slice Am sm'.length capm) := (kC (blk_grown HX.out.box hgr (row_ne HX.out.box HX.out.row (by decide))) 3).trans rfl; have f4 := blk_frozen (blk_grown HX.out.box hgr (row_ne HX.out.box HX.out.row (by decide))) 3; clear ho hb hgr hat x0 x3 f3)
        | ((with_reducible refine gate_store (t := 22) (p := 53) rfl ?_); refine store_event (t := 22) (p := 53) (v := ?vo_2) (w1 := w1.setCell ⟨g, 3, none⟩ (.slice A1 (sm' ++ [i]).length cap1)) ?hg ?ho ?hn ?hr ?_; (case ho => rfl); (case hg => rfl); (case hn => rfl); (case hr => first | (go_simp; done) | (go_simp; rfl)); intro w2 hw; have HX2 := Aside0.mk (XAt.put32 HX.out HGR.out HB1.out HO1.out HG.out hw); clear hw HX HGR HB1 HO1 y3 f4; have x0 : w2.cell? ⟨g, 0, none⟩ = some (.slice (some ⟨gs, 0, none⟩) sets.length cs) := (kC HX2.out.box 0).trans rfl; have z0 : w2.cell? ⟨gs, i.toNat, none⟩ = some (.int .u64 (rd sets i)) := (Kd.R_celln (0 : Int) HX2.out.tab i HI.out.1 HI.out.2).1)
        | ((with_reducible refine gC (f := 34) rfl ?_); refine goesL_ (some 68) rfl rfl Try.func34 (by kernel_rfl) rfl #[.pointer (some ⟨g, 0, none⟩), .int .i64 (wrap64 (i + 1)), .int .i64 (wrap64 (more - 1)), .int .u64 (Go.bits .or .u64 cov (rd sets i))] rfl (by (try simp only [List.map_toArray, List.map_cons, List.map_nil]); first | done | rfl | (simp only [List.length_drop, List.length_take]; rfl)) ?_; (with_reducible refine (HIH.out k1 (by have := HK1.out; omega) _ cs sets goal b' (.slice A1 (sm' ++ [i]).length cap1) (sm' ++ [i]) (wrap64 (i + 1)) (wrap64 (more - 1)) (Go.bits .or .u64 cov (rd sets i)) false q2 q3 g w0 w2 HG.out HX2.out HA.out).mono ?_); rintro e w3 ⟨rfl, v3, hX3⟩; refine ⟨_, rfl, ?_⟩; obtain ⟨A3, cap3, rfl⟩ := Kd.R_slice hX3.row; have HX3 := Aside0.mk hX3; clear hX3 HX2 HA x0 z0))
       have x3 : w3.cell? ⟨g, 3, none⟩ = some (.slice A3 q3.length cap3) := (kC HX3.out.box 3).trans rfl
       have x2 : w3.cell? ⟨g, 2, none⟩ = some (.int .i64 q2) := (kC HX3.out.box 2).trans rfl
       have f3 := blk_frozen HX3.out.box 3
       have hlen : 1 ≤ q3.length ∧ q3.length < 1001 := HC6.out
       have hw1 : wrap64 ((q3.length : Int) - 1) = ((q3.length - 1 : Nat) : Int) := by unfold wrap64; omega
       obtain ⟨i2, hi2, _⟩ := info_parts info2
       have hw2 : IntKind.i64.wrap ((q3.length : Int) - 1) = ((q3.length - 1 : Nat) : Int) := by rw [iW]; exact hw1
       have hcut := cut_to (P := Try.prog) 22 2 .i64 Try.underlying22 hi2 A3 q3.length cap3 (IntKind.i64.wrap ((q3.length : Int) - 1)) (by omega) (by omega) (Kd.R_reads' HX3.out.row).2.1
       have HW := Aside0.mk hw2
       clear hlen hi2 hw1 hw2
       go_still_tail 14, (by kernel_rfl)
       change wpList _ _ _ _ _ w3.drew
       have HX4 := Aside0.mk HX3.out.drew
       clear x3 x2 f3 HX3
       generalize w3.drew = w4 at HX4 ⊢
       have y3 : w4.cell? ⟨g, 3, none⟩ = some (.slice A3 q3.length cap3) := (kC HX4.out.box 3).trans rfl
       have f4 := blk_frozen HX4.out.box 3
       have H6 := H5.out
       by_cases c7 : q2 < 0
       ·rw [if_pos c7] at H6
        obtain ⟨e1, e2, e3⟩ := Prod.mk.inj (Option.some.inj H6) |>.imp id Prod.mk.inj
        subst e1 e2 e3
        have d4 : decide (q2 < 0) = true := decide_eq_true c7
        clear H6 H5 c7 hcut
        go_wp2_with ((with_reducible refine gate_store (t := 22) (p := 82) rfl ?_); refine store_event (t := 22) (p := 82) (v := ?vo_3) (w1 := w4.setCell ⟨g, 3, none⟩ (.slice A3 (IntKind.i64.wrap ((q3.length : Int) - 1)).toNat cap3)) ?hg ?ho ?hn ?hr ?_; (case ho => rfl); (case hg => rfl); (case hn => rfl); (case hr => first | (go_simp; done) | (go_simp; rfl)); intro w5 hw; have HX5 := Aside0.mk (XAt.put3 HX4.out (Kd.R_take HX4.out.row (m := (IntKind.i64.wrap ((q3.length : Int) - 1)).toNat) (by rw [HW.out, Int.toNat_natCast]; omega)) HG.out hw); rw [HW.out, Int.toNat_natCast] at HX5; clear hw HX4 y3 f4; have x2 : w5.cell? ⟨g, 2, none⟩ = some (.int .i64 q2) := (kC HX5.out.box 2).trans rfl)
        go_ret
        exact ⟨rfl, _, HX5.out⟩
       ·rw [if_neg c7] at H6
        have d4 : decide (q2 < 0) = false := decide_eq_false c7
        have H7 := Aside0.mk H6
        clear H6 H5 c7 hcut
        go_wp2_with ((with_reducible refine gate_store (t := 22) (p := 82) rfl ?_); refine store_event (t := 22) (p := 82) (v := ?vo_4) (w1 := w4.setCell ⟨g, 3, none⟩ (.slice A3 (IntKind.i64.wrap ((q3.length : Int) - 1)).toNat cap3)) ?hg ?ho ?hn ?hr ?_; (case ho => rfl); (case hg => rfl); (case hn => rfl); (case hr => first | (go_simp; done) | (go_simp; rfl)); intro w5 hw; have HX5 := Aside0.mk (XAt.put3 HX4.out (Kd.R_take HX4.out.row (m := (IntKind.i64.wrap ((q3.length : Int) - 1)).toNat) (by rw [HW.out, Int.toNat_natCast]; omega)) HG.out hw); rw [HW.out, Int.toNat_natCast] at HX5; clear hw HX4 y3 f4; have x2 : w5.cell? ⟨g, 2, none⟩ = some (.int .i64 q2) := (kC HX5.out.box 2).trans rfl)
        go_roundg k1
        case measure => have := HK1.out; omega
        case rel => exact ⟨wrap64 (i + 1), q2, _, _, rfl, H7, ⟨by have := HK1.out; omega⟩, HX5⟩
     ·rw [if_neg c2] at H
      cases H
    ·rw [if_neg c1] at H
     obtain ⟨e1, e2, e3⟩ := Prod.mk.inj (Option.some.inj H) |>.imp id Prod.mk.inj
     subst e1 e2 e3
     have d1 : decide (wrap64 (i + more) ≤ (sets.length : Int)) = false := decide_eq_false c1
     clear c1 H
     go_wp2
     go_ret
     exact ⟨rfl, v', HX.out⟩
theorem xinfo57 : (Try.prog.info? 57).map (fun i => (i.zero, i.size, i.bytes)) = some (some (.int .u64 0), 1, 8) := by kernel_rfl
/-- What a row of one row says. -/
theorem one_reads {w0 W : World} {v : Value} {base : Nat} {ok : Nat → Prop} {xs : List (List Int)} {A : Option Addr} {m c : Nat} (hb : Below w0.heap.size w0 W) (h : Kd.R (Kd.fixed (Kd.slice 2 (Kd.int .i64)) w0) 22 W base ok (.slice A m c) xs) : m = xs.length ∧ m ≤ c ∧ Kd.C (Kd.slice 2 (Kd.int .i64)) W A xs.length xs := by
 obtain ⟨h1, h2, h3⟩ := Kd.R_reads' h
 exact ⟨h1, h2, ReadsRow.imp_ h3 (Below.refl _ _) (fun _ _ hq => (Kd.slice 2 (Kd.int .i64)).K_below hb hq)⟩
theorem xat_new {w0 W W2 : World} {g : Nat} {goal b : Int} (hb : Below w0.heap.size w0 W) (hg : w0.heap.size ≤ g) (hk : W.heap[g]? = some (.cells #[.slice none 0 0, .int .u64 0, .int .i64 0, .slice none 0 0] 61 (0, 0))) (hw : W2 = (((W.setCell ⟨g, 0, none⟩ (.slice none 0 0)).setCell ⟨g, 1, none⟩ (.int .u64 goal)).setCell ⟨g, 2, none⟩ (.int .i64 b)).setCell ⟨g, 3, none⟩ (.slice none 0 0)) : XAt w0 W2 g none 0 [] goal b (.slice none 0 0) [] := by
 subst hw
 exact ⟨bS (bS (bS (bS hb hg) hg) hg) hg, Kd.R_nil _ _ _ _ _, blk_put (blk_put (blk_put (blk_put hk 0 _ rfl) 1 _ rfl) 2 _ rfl) 3 _ rfl, Kd.R_nil _ _ _ _ _⟩
section
variable {w0 W W1 W2 : World} {g : Nat} {As As2 : Option Addr} {cs cs2 : Nat} {sets sets2 : List Int} {goal b : Int} {v : Value} {sm : List Int}
theorem XAt.onto (h : XAt w0 W g As cs sets goal b v sm) (hb : Below W.heap.size W W1) : XAt w0 W1 g As cs sets goal b v sm := ⟨below_step h.below hb, rB h.tab hb, kB h.box hb, rB h.row hb⟩
theorem XAt.none_ (h : XAt w0 W g As cs sets goal b v sm) (hgr : W.grownBy W1 none) (hb : Below w0.heap.size w0 W1) : XAt w0 W1 g As cs sets goal b v sm := ⟨hb, Kd.R_grown h.tab hgr (fun _ _ he => by cases he), blk_grown h.box hgr (fun he => by cases he), Kd.R_grown h.row hgr (fun _ _ he => by cases he)⟩
theorem XAt.grew0 (h : XAt w0 W g As cs sets goal b v sm) (hgr : W.grownBy W1 (Value.slice As sets.length cs).ownBlock) (hb : Below w0.heap.size w0 W1) (hr : Kd.R (Kd.int .u64) 57 W1 w0.heap.size (fun _ => True) (.slice As2 sets2.length cs2) sets2) (hg : w0.heap.size ≤ g) (hw : W2 = W1.setCell ⟨g, 0, none⟩ (.slice As2 sets2.length cs2)) : XAt w0 W2 g As2 cs2 sets2 goal b v sm := by
 have hk : W1.heap[g]? = some (XSt As sets.length cs goal b v) := blk_grown h.box hgr (row_ne h.box h.tab (by decide))
 have hm : Kd.R (Kd.int .i64) 2 W1 w0.heap.size (fun _ => True) v sm := row_grown h.tab h.row (by decide) hgr
 subst hw
 exact ⟨bS hb hg, row_put hr hk (by decide), blk_put hk 0 _ rfl, row_put hm hk (by decide)⟩
end
def impl_FewestPhrases.l1 : Nat → List Int → Int → Int → List Int → Int → Option (List Int × Int)
 | 0, _, _, _, _, _ => none
 | k + 1, sets, goal, b, sm, n => (ext.f k sets goal b sm 0 n 0).bind fun r => if r.1 = true then some (r.2.2, 0) else if r.2.1 < 0 then some ([], 5) else impl_FewestPhrases.l1 k sets goal r.2.1 r.2.2 (wrap64 (n + 1))
def impl_FewestPhrases.l0 : Nat → List Int → List (List Int) → Int → Int → List Int → Int → Option (List Int × Int)
 | 0, _, _, _, _, _, _ => none
 | k + 1, x, l, goal, b, sets, j => if j < (l.length : Int) then (if 0 ≤ j ∧ sets.length < 1000 then (impl_coveredSet.f k x [rd_L1 l j]).bind fun s => impl_FewestPhrases.l0 k x l goal b (sets ++ [s]) (wrap64 (j + 1)) else none) else impl_FewestPhrases.l1 k sets goal b [] 0
def impl_FewestPhrases.f (k : Nat) (x : List Int) (l : List (List Int)) (b : Int) : Option (List Int × Int) :=
 (impl_ValidPhrases.f k l).bind fun t => if t = true then (impl_pitchesOk.f x).bind fun t => if t = true then (impl_budgetValid.f b).bind fun t => if t = true then (impl_coveredSet.f k x l).bind fun goal => impl_FewestPhrases.l0 k x l goal b [] 0 else some ([], 2) else some ([], 7) else some ([], 1)
set_option maxHeartbeats 8000000 in
set_option maxRecDepth 100000 in
theorem impl_FewestPhrases.calls (k : Nat) (A0 : Option Addr) (c0 : Nat) (l0 : List Int) (A1 : Option Addr) (c1 : Nat) (l1 : List (List Int)) (a2 : Int) (r1 : List Int) (r2 : Int) (w : World) (hr0 : Kd.C (Kd.int .i64) w A0 l0.length l0) (hc0 : l0.length ≤ c0) (hr1 : Kd.C (Kd.slice 2 (Kd.int .i64)) w A1 l1.length l1) (hc1 : l1.length ≤ c1) (h : impl_FewestPhrases.f k l0 l1 a2 = some (r1, r2)) :
  Calls Try.prog 9 #[.slice A0 l0.length c0, .slice A1 l1.length c1, .int .i64 a2] w fun e w' => ∃ v0_ : Value, e = .returned (.tuple #[v0_, .int .i64 r2]) ∧ Kd.R (Kd.int .i64) 2 w' w.heap.size (fun _ => True) v0_ r1 ∧ Below w.heap.size w w' := by
 have hu61 := Try.underlying61
 have HR0 := Aside0.mk hr0
 have HC0 := Aside0.mk hc0
 have HR1 := Aside0.mk hr1
 have HC1 := Aside0.mk hc1
 have HB := Aside0.mk (Below.refl w.heap.size w)
 clear hr0 hc0 hr1 hc1
 unfold impl_FewestPhrases.f at h
 obtain ⟨t1, a1, h⟩ := Option.bind_eq_some_iff.1 h
 have E1 := Aside0.mk a1
 clear a1
 cases t1 with
 | false =>
  rw [if_neg (by decide)] at h
  obtain ⟨rfl, rfl⟩ := Prod.mk.inj (Option.some.inj h)
  clear h
  go_enter Try.func9, Try.ntmps9
  go_wp2_with (((with_reducible refine gC (f := 30) rfl ?_); refine goesL_ (some 14) rfl rfl Try.func30 (by kernel_rfl) rfl #[.slice A1 l1.length c1] rfl (by (try simp only [List.map_toArray, List.map_cons, List.map_nil]); first | done | rfl | (simp only [List.length_drop, List.length_take]; rfl)) ?_; (with_reducible refine (impl_ValidPhrases.calls k _ _ l1 _ _ (cB HR1.out (by repeat (first | exact HB.out | apply bN | apply bD | apply bA))) HC1.out E1.out).mono ?_); rintro e w1 ⟨rfl, hb⟩; refine ⟨_, rfl, ?_⟩; have HB2 := Aside0.mk (below_step (by repeat (first | exact HB.out | apply bN | apply bD | apply bA)) hb); clear HB hb; have HB := HB2; clear HB2))
  go_ret2
  exact ⟨_, rfl, Kd.R_nil _ _ _ _ _, (by repeat (first | exact HB.out | apply bN | apply bD | apply bA))⟩
 | true =>
  rw [if_pos rfl] at h
  obtain ⟨t2, a2_, h⟩ := Option.bind_eq_some_iff.1 h
  have E2 := Aside0.mk a2_
  clear a2_
  cases t2 with
  | false =>
   rw [if_neg (by decide)] at h
   obtain ⟨rfl, rfl⟩ := Prod.mk.inj (Option.some.inj h)
   clear h
   go_enter Try.func9, Try.ntmps9
   go_wp2_with (first | ((with_reducible refine gC (f := 30) rfl ?_); refine goesL_ (some 14) rfl rfl Try.func30 (by kernel_rfl) rfl #[.slice A1 l1.length c1] rfl (by (try simp only [List.map_toArray, List.map_cons, List.map_nil]); first | done | rfl | (simp only [List.length_drop, List.length_take]; rfl)) ?_; (with_reducible refine (impl_ValidPhrases.calls k _ _ l1 _ _ (cB HR1.out (by repeat (first | exact HB.out | apply bN | apply bD | apply bA))) HC1.out E1.out).mono ?_); rintro e w1 ⟨rfl, hb⟩; refine ⟨_, rfl, ?_⟩; have HB2 := Aside0.mk (below_step (by repeat (first | exact HB.out | apply bN | apply bD | apply bA)) hb); clear HB hb; have HB := HB2; clear HB2) | ((with_reducible refine gC (f := 31) rfl ?_); refine goesL_ (some 18) rfl rfl Try.func31 (by kernel_rfl) rfl #[.slice A0 l0.length c0] rfl (by (try simp only [List.map_toArray, List.map_cons, List.map_nil]); first | done | rfl | (simp only [List.length_drop, List.length_take]; rfl)) ?_; (with_reducible refine (impl_pitchesOk.calls _ _ l0 _ _ (cB HR0.out (by repeat (first | exact HB.out | apply bN | apply bD | apply bA))) HC0.out E2.out).mono ?_); rintro e w2 ⟨rfl, hb⟩; refine ⟨_, rfl, ?_⟩; have HB2 := Aside0.mk (below_step (by repeat (first | exact HB.out | apply bN | apply bD | apply bA)) hb); clear HB hb; have HB := HB2; clear HB2))
   go_ret2
   exact ⟨_, rfl, Kd.R_nil _ _ _ _ _, (by repeat (first | exact HB.out | apply bN | apply bD | apply bA))⟩
  | true =>
   rw [if_pos rfl] at h
   obtain ⟨t3, a3, h⟩ := Option.bind_eq_some_iff.1 h
   have E3 := Aside0.mk a3
   clear a3
   cases t3 with
   | false =>
    rw [if_neg (by decide)] at h
    obtain ⟨rfl, rfl⟩ := Prod.mk.inj (Option.some.inj h)
    clear h
    go_enter Try.func9, Try.ntmps9
    go_wp2_with (first | ((with_reducible refine gC (f := 30) rfl ?_); refine goesL_ (some 14) rfl rfl Try.func30 (by kernel_rfl) rfl #[.slice A1 l1.length c1] rfl (by (try simp only [List.map_toArray, List.map_cons, List.map_nil]); first | done | rfl | (simp only [List.length_drop, List.length_take]; rfl)) ?_; (with_reducible refine (impl_ValidPhrases.calls k _ _ l1 _ _ (cB HR1.out (by repeat (first | exact HB.out | apply bN | apply bD | apply bA))) HC1.out E1.out).mono ?_); rintro e w1 ⟨rfl, hb⟩; refine ⟨_, rfl, ?_⟩; have HB2 := Aside0.mk (below_step (by repeat (first | exact HB.out | apply bN | apply bD | apply bA)) hb); clear HB hb; have HB := HB2; clear HB2) | ((with_reducible refine gC (f := 31) rfl ?_); refine goesL_ (some 18) rfl rfl Try.func31 (by kernel_rfl) rfl #[.slice A0 l0.length c0] rfl (by (try simp only [List.map_toArray, List.map_cons, List.map_nil]); first | done | rfl | (simp only [List.length_drop, List.length_take]; rfl)) ?_; (with_reducible refine (impl_pitchesOk.calls _ _ l0 _ _ (cB HR0.out (by repeat (first | exact HB.out | apply bN | apply bD | apply bA))) HC0.out E2.out).mono ?_); rintro e w2 ⟨rfl, hb⟩; refine ⟨_, rfl, ?_⟩; have HB2 := Aside0.mk (below_step (by repeat (first | exact HB.out | apply bN | apply bD | apply bA)) hb); clear HB hb; have HB := HB2; clear HB2) | ((with_reducible refine gC (f := 32) rfl ?_); refine goesL_ (some 22) rfl rfl Try.func32 (by kernel_rfl) rfl #[.int .i64 a2] rfl (by (try simp only [List.map_toArray, List.map_cons, List.map_nil]); first | done | rfl | (simp only [List.length_drop, List.length_take]; rfl)) ?_; (with_reducible refine (impl_budgetValid.calls a2 _ _ E3.out).mono ?_); rintro e w3 ⟨rfl, ⟨nd, rfl⟩⟩; refine ⟨_, rfl, ?_⟩; have HB2 := Aside0.mk (bN (by repeat (first | exact HB.out | apply bN | apply bD | apply bA)) nd); clear HB; have HB := HB2; clear HB2))
    go_ret2
    exact ⟨_, rfl, Kd.R_nil _ _ _ _ _, (by repeat (first | exact HB.out | apply bN | apply bD | apply bA))⟩
   | true =>
    rw [if_pos rfl] at h
    obtain ⟨goal, a4, h⟩ := Option.bind_eq_some_iff.1 h
    have E4 := Aside0.mk a4
    have H' := Aside0.mk h
    clear a4 h
    go_enter Try.func9, Try.ntmps9
    go_wp2_with (first | ((with_reducible refine gC (f := 30) rfl ?_); refine goesL_ (some 14) rfl rfl Try.func30 (by kernel_rfl) rfl #[.slice A1 l1.length c1] rfl (by (try simp only [List.map_toArray, List.map_cons, List.map_nil]); first | done | rfl | (simp only [List.length_drop, List.length_take]; rfl)) ?_; (with_reducible refine (impl_ValidPhrases.calls k _ _ l1 _ _ (cB HR1.out (by repeat (first | exact HB.out | apply bN | apply bD | apply bA))) HC1.out E1.out).mono ?_); rintro e w1 ⟨rfl, hb⟩; refine ⟨_, rfl, ?_⟩; have HB2 := Aside0.mk (below_step (by repeat (first | exact HB.out | apply bN | apply bD | apply bA)) hb); clear HB hb; have HB := HB2; clear HB2) | ((with_reducible refine gC (f := 31) rfl ?_); refine goesL_ (some 18) rfl rfl Try.func31 (by kernel_rfl) rfl #[.slice A0 l0.length c0] rfl (by (try simp only [List.map_toArray, List.map_cons, List.map_nil]); first | done | rfl | (simp only [List.length_drop, List.length_take]; rfl)) ?_; (with_reducible refine (impl_pitchesOk.calls _ _ l0 _ _ (cB HR0.out (by repeat (first | exact HB.out | apply bN | apply bD | apply bA))) HC0.out E2.out).mono ?_); rintro e w2 ⟨rfl, hb⟩; refine ⟨_, rfl, ?_⟩; have HB2 := Aside0.mk (below_step (by repeat (first | exact HB.out | apply bN | apply bD | apply bA)) hb); clear HB hb; have HB := HB2; clear HB2) | ((with_reducible refine gC (f := 32) rfl ?_); refine goesL_ (some 22) rfl rfl Try.func32 (by kernel_rfl) rfl #[.int .i64 a2] rfl (by (try simp only [List.map_toArray, List.map_cons, List.map_nil]); first | done | rfl | (simp only [List.length_drop, List.length_take]; rfl)) ?_; (with_reducible refine (impl_budgetValid.calls a2 _ _ E3.out).mono ?_); rintro e w3 ⟨rfl, ⟨nd, rfl⟩⟩; refine ⟨_, rfl, ?_⟩; have HB2 := Aside0.mk (bN (by repeat (first | exact HB.out | apply bN | apply bD | apply bA)) nd); clear HB; have HB := HB2; clear HB2) | ((with_reducible refine gC (f := 33) rfl ?_); refine goesL_ (some 27) rfl rfl Try.func33 (by kernel_rfl) rfl #[.slice A0 l0.length c0, .slice A1 l1.length c1] rfl (by (try simp only [List.map_toArray, List.map_cons, List.map_nil]); first | done | rfl | (simp only [List.length_drop, List.length_take]; rfl)) ?_; (with_reducible refine (impl_coveredSet.calls k _ _ l0 _ _ l1 goal _ (cB HR0.out (by repeat (first | exact HB.out | apply bN | apply bD | apply bA))) HC0.out (cB HR1.out (by repeat (first | exact HB.out | apply bN | apply bD | apply bA))) HC1.out E4.out).mono ?_); rintro e w4 ⟨rfl, hb⟩; refine ⟨_, rfl, ?_⟩; have HB2 := Aside0.mk (below_step (by repeat (first | exact HB.out | apply bN | apply bD | apply bA)) hb); clear HB hb; have HB := HB2; clear HB2) | ((with_reducible refine gate_dst (N := 8) rfl ?_); refine bE ?hg (N := 8) ?hd (cs := #[.slice none 0 0, .int .u64 0, .int .i64 0, .slice none 0 0]) (t := 61) ?hr ?_; (case hd => rfl); (case hg => rfl); (case hr => first | (go_simp; done) | (go_simp; rfl)); intro g hg_ w5 hbox hb; have HG := Aside0.mk (show w.heap.size ≤ g by rw [hg_]; exact bZ (by repeat (first | exact HB.out | apply bN | apply bD | apply bA))); have HK := Aside0.mk hbox; have HB2 := Aside0.mk (below_step (by repeat (first | exact HB.out | apply bN | apply bD | apply bA)) hb); clear HB hb hg_; have HB := HB2; clear HB2; have x0 : w5.cell? ⟨g, 0, none⟩ = some (.slice none 0 0) := (kC hbox 0).trans rfl; have f0 := blk_frozen hbox 0; have x1 : w5.cell? ⟨g, 1, none⟩ = some (.int .u64 0) := (kC hbox 1).trans rfl; have f1 := blk_frozen hbox 1; have x2 : w5.cell? ⟨g, 2, none⟩ = some (.int .i64 0) := (kC hbox 2).trans rfl; have f2 := blk_frozen hbox 2; have x3 : w5.cell? ⟨g, 3, none⟩ = some (.slice none 0 0) := (kC hbox 3).trans rfl; have f3 := blk_frozen hbox 3; clear hbox) | ((with_reducible refine gate_store (t := 61) (p := 8) rfl ?_); refine store_event (t := 61) (p := 8) (v := ?vo_s) (w1 := (((w5.setCell ⟨g, 0, none⟩ (.slice none 0 0)).setCell ⟨g, 1, none⟩ (.int .u64 goal)).setCell ⟨g, 2, none⟩ (.int .i64 a2)).setCell ⟨g, 3, none⟩ (.slice none 0 0)) ?hg ?ho ?hn ?hr ?_; (case ho => rfl); (case hg => rfl); (case hn => rfl); (case hr => first | (go_simp; done) | (go_simp; rfl)); intro w6 hw; have HX := Aside0.mk (xat_new HB.out HG.out HK.out hw); clear hw HB HK x0 x1 x2 x3 f0 f1 f2 f3))
    go_loopg [31] k (fun kq v31 wr => ∃ (j : Int) (As : Option Addr) (cs : Nat) (sets : List Int), v31 = .int .i64 j ∧ Aside0 (impl_FewestPhrases.l0 kq l0 l1 goal a2 sets j = some (r1, r2)) ∧ Aside0 (kq ≤ k) ∧ Aside0 (XAt w wr g As cs sets goal a2 (.slice none 0 0) []))
    case atStart => exact ⟨0, none, 0, [], rfl, H', ⟨Nat.le_refl _⟩, HX⟩
    case round =>
     clear H' HX
     obtain ⟨j, As, cs, sets, rfl, HA, HK1, HX⟩ := hrel
     cases gk with
     | zero => exact absurd HA.out (by simp [impl_FewestPhrases.l0])
     | succ k1 =>
      have H := HA.out
      clear HA
      rw [impl_FewestPhrases.l0] at H
      by_cases c1_ : j < (l1.length : Int)
      ·rw [if_pos c1_] at H
       have d1 : decide (j < (l1.length : Int)) = true := decide_eq_true c1_
       by_cases c2_ : 0 ≤ j ∧ sets.length < 1000
       rotate_left
       ·rw [if_neg c2_] at H
        cases H
       rw [if_pos c2_] at H
       obtain ⟨s, A, H3⟩ := Option.bind_eq_some_iff.1 H
       obtain ⟨ad, Ai, ci, ea, hx, hxl, hxc⟩ := at_L1 HR1.out j c2_.1 c1_
       subst ea
       have HA := Aside0.mk A
       have H' := Aside0.mk H3
       have HS := Aside0.mk c2_.2
       have HEL := Aside0.mk hxl
       have HEC := Aside0.mk hxc
       have d2 : (0 ≤ j) = True := eq_true c2_.1
       have d3 : (j < (l1.length : Int)) = True := eq_true c1_
       have y1 : wr.cell? (ad.add j.toNat) = some (.slice Ai (rd_L1 l1 j).length ci) := (HX.out.below.cell (World.block_lt_of_cell? _ _ hx)).trans hx
       clear A H3 H c1_ c2_ hx hxl hxc
       go_wp2
       clear y1 d1 d2 d3
       have HX1 := Aside0.mk HX.out.drew
       clear HX
       refine start_ (n := 10) (S := fun z => z.heap[g]? = some (XSt As sets.length cs goal a2 (.slice none 0 0))) (ds := [7, 9]) #[F,F,F,F,F,F,F,F,F,F] (by kernel_rfl) rfl rfl HX1.out.box (fun hHeld => ?_)
       generalize wr.drew = u at HX1 hHeld ⊢
       refine pure_ (i := 0) (N := some 35) (v := ?_) (a' := ?_) #[T,F,F,F,F,F,F,F,F,F] rfl rfl (by kernel_rfl) (fun _ _ _ h => h) (Or.inl ⟨by rfl, ?_⟩) ?_ ?_; rotate_left; (· intro z_; go_simp; with_reducible rfl); rotate_left; (· simp only [Act.put, sI, sZ, sS, iW, jW]; rfl)
       refine pure_ (i := 2) (N := some 37) (v := ?_) (a' := ?_) #[T,F,T,F,F,F,F,F,F,F] rfl rfl (by kernel_rfl) (fun _ _ _ h => h) (Or.inl ⟨by rfl, ?_⟩) ?_ ?_; rotate_left; (· intro z_; go_simp; with_reducible rfl); rotate_left; (· simp only [Act.put, sI, sZ, sS, iW, jW]; rfl)
       refine pure_ (i := 3) (N := some 38) (v := ?_) (a' := ?_) #[T,F,T,T,F,F,F,F,F,F] rfl rfl (by kernel_rfl) (fun _ _ _ h => h) (Or.inl ⟨by rfl, ?_⟩) ?_ ?_; rotate_left; (· intro z_; go_simp; with_reducible rfl); rotate_left; (· simp only [Act.put, sI, sZ, sS, iW, jW]; rfl)
       refine take_ (i := 1) (N := some 36) (v := ?_) (a' := ?_) #[T,T,T,T,F,F,F,F,F,F] rfl rfl (by kernel_rfl) (fun _ _ _ h => h) (Or.inl ⟨by rfl, ?_⟩) hHeld ?_ ?_; rotate_left; (· rintro z_ h1_; have q0_ : z_.cell? ⟨g, 0, none⟩ = some (.slice As sets.length cs) := (kC h1_ 0).trans rfl; clear h1_; go_simp; with_reducible rfl); rotate_left; (· simp only [Act.put, sI, sZ, sS, iW, jW]; rfl)
       refine one_ (i := 4) (N := some 39) #[T,T,T,T,T,F,F,F,F,F] rfl rfl (by kernel_rfl) (by decide) (fun K hK => ?_)
       refine Kd.R_lit_step (Kd.fixed (Kd.slice 2 (Kd.int .i64)) w) (w0 := w) w.heap.size 22 (by rfl) (N := 39) rfl (xs := [rd_L1 l1 j]) (inner := [.slice Ai (rd_L1 l1 j).length ci]) (ok := fun _ => True) (okp := fun _ => False) ?hr1 ⟨rfl, fun j_ p_ hp_ => ?hrep⟩ (fun _ hk => hk.elim) trivial HX1.out.below (bZ HX1.out.below) (by show 1 ≤ _; omega) ?_
       case hr1 => first | (go_simp; done) | (go_simp; rfl)
       case hrep => cases j_ with | zero => (injection hp_ with hp_; subst hp_; exact ⟨Ai, ci, rfl, HEL.out, HEC.out⟩) | succ j_ => (simp at hp_)
       intro v2 u2 ho hb hgr hat
       obtain ⟨A2, cap2, rfl⟩ := Kd.R_slice ho
       replace HX1 := Aside0.mk (HX1.out.none_ hgr hb)
       have HL1 := Aside0.mk ho
       clear ho hb hgr hat hHeld
       refine hK.out _ _ HX1.out.box (fun _ => ?_)
       clear hK K
       refine norm_ (a' := ?_) ?_ ?_; rotate_left; (· show Act.put _ (some 39) _ = _; simp only [Act.put, sI, sZ, sS, iW, jW]; rfl)
       refine one_ (i := 5) (N := some 40) #[T,T,T,T,T,T,F,F,F,F] rfl rfl (by kernel_rfl) (by decide) (fun K hK => ?_)
       refine goes_ Try.func33 (by kernel_rfl) rfl #[.slice A0 l0.length c0, .slice A2 ([rd_L1 l1 j]).length cap2] (by rfl) rfl rfl (by (try simp only [List.map_toArray, List.map_cons, List.map_nil]); first | done | rfl | (simp only [List.length_drop, List.length_take]; rfl)) ?_
       with_reducible refine (impl_coveredSet.calls k1 _ _ l0 _ _ [rd_L1 l1 j] s _ (cB HR0.out HX1.out.below) HC0.out (one_reads (v := .slice A2 1 cap2) HX1.out.below HL1.out).2.2 (one_reads (v := .slice A2 1 cap2) HX1.out.below HL1.out).2.1 HA.out).mono ?_
       rintro e_ u3 ⟨rfl, hb⟩
       refine ⟨_, rfl, ?_⟩
       replace HX1 := Aside0.mk (HX1.out.onto hb)
       clear hb HL1 HA
       refine hK.out _ _ HX1.out.box (fun hHeld => ?_)
       clear hK K
       refine norm_ (a' := ?_) ?_ ?_; rotate_left; (· show Act.put _ (some 40) _ = _; simp only [Act.put, sI, sZ, sS, iW, jW]; rfl)
       refine one_ (i := 6) (N := some 41) #[T,T,T,T,T,T,T,F,F,F] rfl rfl (by kernel_rfl) (by decide) (fun K hK => ?_)
       refine value_ (w1 := ?_) (v := ?_) (by rfl) rfl ?_ ?_
       rotate_left 2
       ·go_simp
        constructor
        ·rfl
        ·rfl
       refine hK.out _ _ (kA HX1.out.box _) (fun _ => ?_)
       clear hK K hHeld
       refine norm_ (a' := ?_) ?_ ?_; rotate_left; (· show Act.put _ (some 41) _ = _; simp only [Act.put, sI, sZ, sS, iW, jW]; rfl)
       refine last_ (i := 7) (N := some 42) #[T,T,T,T,T,T,T,T,F,F] rfl rfl (by kernel_rfl) (by decide) (fun K hK => ?_)
       refine Kd.R_append_step (Kd.int .u64) (w0 := w) w.heap.size (by rfl) (.tmp 36) (.tmp 41) 59 57 (.int .u64 0) 8 rfl Try.underlying59 xinfo57 rfl (by decide) (by omega) (.slice As sets.length cs) sets s [.int .u64 s] (fun _ => True) (fun _ => False) rfl rfl rfl (fun _ hk => hk.elim) (fun _ _ => trivial) HX1.out.tab HX1.out.below (bZ HX1.out.below) (by have := HS.out; omega) ?_
       intro v3 u4 ho hb hgr hat
       obtain ⟨A3, cap3, rfl⟩ := Kd.R_slice ho
       have HO1 := Aside0.mk ho
       have HB1 := Aside0.mk hb
       have HGR := Aside0.mk hgr
       have y0 : u4.cell? ⟨g, 0, none⟩ = some (.slice As sets.length cs) := (kC (blk_grown HX1.out.box hgr (row_ne HX1.out.box HX1.out.tab (by decide))) 0).trans rfl
       have f0 := blk_frozen (blk_grown HX1.out.box hgr (row_ne HX1.out.box HX1.out.tab (by decide))) 0
       clear ho hb hgr hat
       refine hK.out _ _ ?_
       clear hK K
       refine norm_ (a' := ?_) ?_ ?_; rotate_left; (· show Act.put _ (some 42) _ = _; simp only [Act.put, sI, sZ, sS, iW, jW]; rfl)
       refine pure_ (i := 8) (N := some 43) (v := ?_) (a' := ?_) #[T,T,T,T,T,T,T,T,T,F] rfl rfl (by kernel_rfl) (fun _ _ _ h => h) (Or.inl ⟨by rfl, ?_⟩) ?_ ?_; rotate_left; (· intro z_; go_simp; with_reducible rfl); rotate_left; (· simp only [Act.put, sI, sZ, sS, iW, jW]; rfl)
       refine last_ (i := 9) (N := none) #[T,T,T,T,T,T,T,T,T,T] rfl rfl (by kernel_rfl) (by decide) (fun K hK => ?_)
       refine skip_ (w1 := u4.setCell ⟨g, 0, none⟩ (.slice A3 (sets ++ [s]).length cap3)) (by rfl) rfl (by first | (go_simp; done) | (go_simp; rfl)) ?_
       have HX2 := Aside0.mk (XAt.grew0 HX1.out HGR.out HB1.out HO1.out HG.out (rfl : u4.setCell ⟨g, 0, none⟩ (.slice A3 (sets ++ [s]).length cap3) = _))
       clear HX1 HGR HB1 HO1 y0 f0
       generalize u4.setCell ⟨g, 0, none⟩ (.slice A3 (sets ++ [s]).length cap3) = u5 at HX2 ⊢
       refine hK.out _ _ ?_
       clear hK K
       refine done_ (by kernel_rfl) ?_
       go_wp2
       go_roundg k1
       case measure => have := HK1.out; omega
       case rel => exact ⟨wrap64 (j + 1), _, _, _, rfl, H', ⟨by have := HK1.out; omega⟩, HX2⟩
      ·rw [if_neg c1_] at H
       have d1 : decide (j < (l1.length : Int)) = false := decide_eq_false c1_
       have H' := Aside0.mk H
       clear H c1_
       go_wp2
       clear d1
       go_loopg [11] k1 (fun kq v11 wq => ∃ (n b : Int) (v : Value) (sm : List Int), v11 = .int .i64 n ∧ Aside0 (impl_FewestPhrases.l1 kq sets goal b sm n = some (r1, r2)) ∧ Aside0 (kq ≤ k1) ∧ Aside0 (XAt w wq g As cs sets goal b v sm))
       case atStart => exact ⟨0, a2, _, [], rfl, H', ⟨Nat.le_refl _⟩, HX⟩
       case round =>
        clear H' HX
        obtain ⟨n, b, v, sm, rfl, HA, HK2, HX⟩ := hrel
        cases gk with
        | zero => exact absurd HA.out (by simp [impl_FewestPhrases.l1])
        | succ k2 =>
         have H := HA.out
         clear HA
         rw [impl_FewestPhrases.l1] at H
         obtain ⟨⟨q1, q2, q3⟩, A, H3⟩ := Option.bind_eq_some_iff.1 H
         dsimp only at H3
         have HA := Aside0.mk A
         clear H A
         cases q1 with
         | true =>
          rw [if_pos rfl] at H3
          obtain ⟨rfl, rfl⟩ := Prod.mk.inj (Option.some.inj H3)
          clear H3
          go_wp2_with ((with_reducible refine gC (f := 34) rfl ?_); refine goesL_ (some 48) rfl rfl Try.func34 (by kernel_rfl) rfl #[.pointer (some ⟨g, 0, none⟩), .int .i64 0, .int .i64 n, .int .u64 0] rfl (by (try simp only [List.map_toArray, List.map_cons, List.map_nil]); first | done | rfl | (simp only [List.length_drop, List.length_take]; rfl)) ?_; (with_reducible refine (ext.calls k2 As cs sets goal b v sm 0 n 0 true q2 q3 g w wr HG.out HX.out HA.out).mono ?_); rintro e w8 ⟨rfl, v8, hX8⟩; refine ⟨_, rfl, ?_⟩; obtain ⟨A8, c8, rfl⟩ := Kd.R_slice hX8.row; have HX8 := Aside0.mk hX8; clear hX8 HX HA; have x3 : w8.cell? ⟨g, 3, none⟩ = some (.slice A8 q3.length c8) := (kC HX8.out.box 3).trans rfl)
          go_ret2
          exact ⟨_, rfl, HX8.out.row, HX8.out.below⟩
         | false =>
          rw [if_neg (by decide)] at H3
          by_cases c3_ : q2 < 0
          ·rw [if_pos c3_] at H3
           obtain ⟨rfl, rfl⟩ := Prod.mk.inj (Option.some.inj H3)
           have d2 : decide (q2 < 0) = true := decide_eq_true c3_
           clear H3 c3_
           go_wp2_with ((with_reducible refine gC (f := 34) rfl ?_); refine goesL_ (some 48) rfl rfl Try.func34 (by kernel_rfl) rfl #[.pointer (some ⟨g, 0, none⟩), .int .i64 0, .int .i64 n, .int .u64 0] rfl (by (try simp only [List.map_toArray, List.map_cons, List.map_nil]); first | done | rfl | (simp only [List.length_drop, List.length_take]; rfl)) ?_; (with_reducible refine (ext.calls k2 As cs sets goal b v sm 0 n 0 false q2 q3 g w wr HG.out HX.out HA.out).mono ?_); rintro e w8 ⟨rfl, v8, hX8⟩; refine ⟨_, rfl, ?_⟩; obtain ⟨A8, c8, rfl⟩ := Kd.R_slice hX8.row; have HX8 := Aside0.mk hX8; clear hX8 HX HA; have x2 : w8.cell? ⟨g, 2, none⟩ = some (.int .i64 q2) := (kC HX8.out.box 2).trans rfl)
           go_ret2
           exact ⟨_, rfl, Kd.R_nil _ _ _ _ _, HX8.out.below⟩
          ·rw [if_neg c3_] at H3
           have d2 : decide (q2 < 0) = false := decide_eq_false c3_
           have H4 := Aside0.mk H3
           clear H3 c3_
           go_wp2_with ((with_reducible refine gC (f := 34) rfl ?_); refine goesL_ (some 48) rfl rfl Try.func34 (by kernel_rfl) rfl #[.pointer (some ⟨g, 0, none⟩), .int .i64 0, .int .i64 n, .int .u64 0] rfl (by (try simp only [List.map_toArray, List.map_cons, List.map_nil]); first | done | rfl | (simp only [List.length_drop, List.length_take]; rfl)) ?_; (with_reducible refine (ext.calls k2 As cs sets goal b v sm 0 n 0 false q2 q3 g w wr HG.out HX.out HA.out).mono ?_); rintro e w8 ⟨rfl, v8, hX8⟩; refine ⟨_, rfl, ?_⟩; obtain ⟨A8, c8, rfl⟩ := Kd.R_slice hX8.row; have HX8 := Aside0.mk hX8; clear hX8 HX HA; have x2 : w8.cell? ⟨g, 2, none⟩ = some (.int .i64 q2) := (kC HX8.out.box 2).trans rfl)
           go_roundg k2
           case measure => have := HK2.out; omega
           case rel => exact ⟨wrap64 (n + 1), q2, _, q3, rfl, H4, ⟨by have := HK2.out; omega⟩, HX8⟩
theorem ext.mono_l : ∀ k, (∀ s g b sm i m c, LeO (ext.f k s g b sm i m c) (ext.f (k + 1) s g b sm i m c)) ∧ (∀ s g b sm m c i, LeO (ext.l k s g b sm m c i) (ext.l (k + 1) s g b sm m c i))
 | 0 => ⟨fun _ _ _ _ _ _ _ r h => by simp [ext.f] at h, fun _ _ _ _ _ _ _ r h => by simp [ext.l] at h⟩
 | k + 1 => by
  obtain ⟨ih0, ih1⟩ := ext.mono_l k
  refine ⟨?_, ?_⟩
  ·intro s g b sm i m c
   unfold ext.f
   repeat' first
    | (with_reducible exact LeO.refl _)
    | (with_reducible exact LeO.none _)
    | (with_reducible refine LeO.ite ?_ ?_)
    | exact ih1 _ _ _ _ _ _ _
  ·intro s g b sm m c i
   unfold ext.l
   repeat' first
    | (with_reducible exact LeO.refl _)
    | (with_reducible exact LeO.none _)
    | (with_reducible refine LeO.ite ?_ ?_)
    | (with_reducible refine LeO.bind ?_ (fun _ => ?_))
    | exact ih0 _ _ _ _ _ _ _
    | exact ih1 _ _ _ _ _ _ _
theorem impl_FewestPhrases.mono_1 : ∀ k, ∀ s g b sm n, LeO (impl_FewestPhrases.l1 k s g b sm n) (impl_FewestPhrases.l1 (k + 1) s g b sm n)
 | 0 => fun _ _ _ _ _ r h => by simp [impl_FewestPhrases.l1] at h
 | k + 1 => by
  have ih0 := impl_FewestPhrases.mono_1 k
  intro s g b sm n
  unfold impl_FewestPhrases.l1
  repeat' first
   | (with_reducible exact LeO.refl _)
   | (with_reducible exact LeO.none _)
   | (with_reducible refine LeO.ite ?_ ?_)
   | (with_reducible refine LeO.bind ?_ (fun _ => ?_))
   | exact ih0 _ _ _ _ _
   | exact (ext.mono_l k).1 _ _ _ _ _ _ _
theorem impl_FewestPhrases.mono_0 : ∀ k, ∀ x l g b s j, LeO (impl_FewestPhrases.l0 k x l g b s j) (impl_FewestPhrases.l0 (k + 1) x l g b s j)
 | 0 => fun _ _ _ _ _ _ r h => by simp [impl_FewestPhrases.l0] at h
 | k + 1 => by
  have ih0 := impl_FewestPhrases.mono_0 k
  intro x l g b s j
  unfold impl_FewestPhrases.l0
  repeat' first
   | (with_reducible exact LeO.refl _)
   | (with_reducible exact LeO.none _)
   | (with_reducible refine LeO.ite ?_ ?_)
   | (with_reducible refine LeO.bind ?_ (fun _ => ?_))
   | exact ih0 _ _ _ _ _ _
   | exact impl_FewestPhrases.mono_1 k _ _ _ _ _
   | exact impl_coveredSet.mono _ _ _
theorem impl_FewestPhrases.mono : ∀ x l b k, LeO (impl_FewestPhrases.f k x l b) (impl_FewestPhrases.f (k + 1) x l b) := by
 intro x l b k
 unfold impl_FewestPhrases.f
 repeat' first
  | (with_reducible exact LeO.refl _)
  | (with_reducible exact LeO.none _)
  | (with_reducible refine LeO.ite ?_ ?_)
  | (with_reducible refine LeO.bind ?_ (fun _ => ?_))
  | exact impl_FewestPhrases.mono_0 k _ _ _ _ _ _
  | exact impl_coveredSet.mono _ _ _
  | exact impl_ValidPhrases.mono _ _

end Go.Proofs.Yteljnbhbpidjpaa.F
-- shrunk
-- tight
