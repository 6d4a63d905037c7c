/- What functions of the given program compute, as plain Lean functions, and that the code comes to just that; by a program of this session over the kit's print. No condition. -/
import Derived.Test.YtbebcnnibjkclaaDoorRx0
import Derived.Test.YtbebcnnibjkclaaDoorRx11
import Derived.Test.YtbebcnnibjkclaaDoorRx12
import Derived.Test.YtbebcnnibjkclaaDoorRx19
namespace Go.Proofs.YtbebcnnibjkclaaDoor.R
open Go.RowKit Go.Proofs.YtbebcnnibjkclaaDoorW.PrintWords Go.Proofs.YtbebcnnibjkclaaDoorW.PrintLast Go.Proofs.YtbebcnnibjkclaaDoorW.PrintMore
open Go.Proofs.YtbebcnnibjkclaaDoorW.PrintWords renaming below_alloc → bA, pw_below_drewN → bN, below_drew1 → bD, below_set → bS, blk_below → kB, below_size → bZ, below_step → bP, blk_lt → kL, gate_callee → gC, box_event → bE, blk_cell → kC
open Go.Proofs.YtbebcnnibjkclaaDoorW.PrintLast renaming i64_w → iW, i32_w → jW
open Go.Proofs.YtbebcnnibjkclaaDoorW.PrintWords.Kd renaming R_alloc → rA, R_drewN → rN, R_drew → rD, C_alloc → cA, C_drewN → cN, C_drew → cD, C_below → cB, R_lower → rL, R_below → rB, R_mono → rM
open List renaming setIfInBounds_toArray → sI, set_cons_zero → sZ, set_cons_succ → sS
open Bool renaming true → T, false → F
attribute [local go_sem] max2_int min2_int max_two min_two max_three min_three max_four min_four   -- for this text's walks alone
set_option linter.unusedVariables false
set_option linter.unusedSimpArgs false

/-! ### impl_ReadRaga: function 5 -/
/-- Pairs in memory, told by their blocks. -/
abbrev D2 : Kd Nat := Kd.scalar (fun b : Nat => Value.slice (some ⟨b, 0, none⟩) 2 2) (fun _ => rfl)
def cloneP.f (l0 : List Nat) : Option (List Nat) := if l0.length < 5864062014805 then some l0 else none
set_option maxHeartbeats 4000000 in
set_option maxRecDepth 100000 in
theorem cloneP.calls (A0 : Option Addr) (c0 : Nat) (l0 : List Nat) (r : List Nat) (w : World) (hr0 : Kd.C D2 w A0 l0.length l0) (hc0 : l0.length ≤ c0) (h : cloneP.f l0 = some r) :
  Calls Tryd.prog 13 #[.slice A0 l0.length c0] w fun e w' => ∃ v0_ : Value, e = .returned (v0_) ∧ Kd.R D2 22 w' w.heap.size (fun _ => True) v0_ r ∧ Below w.heap.size w w' := by
 have _ := hc0
 by_cases c2 : l0.length < 5864062014805
 ·have hl : l0 = r := by unfold cloneP.f at h; rw [if_pos c2] at h; exact Option.some.inj h
  have LMc2 := Aside0.mk c2
  clear c2 h
  cases A0 with
  | none =>
   have h0 : l0.length = 0 := by
    rcases Nat.eq_zero_or_pos l0.length with h | h
    ·exact h
    ·obtain ⟨ad, e, _⟩ := hr0.2.2 h
     cases e
   have hl0 : l0 = [] := List.length_eq_zero_iff.1 h0
   subst hl
   subst hl0
   clear hr0 h0 LMc2
   have he := fun (W : World) => Lib.run_eql_slice_nil (P := Tryd.prog) W 23 22 none 0 c0 0 0 Tryd.underlying23
   go_enter Tryd.func13, Tryd.ntmps13
   go_wp2
   go_ret
   exact ⟨_, rfl, Kd.R_nil _ _ _ _ _, Below.refl _ _⟩
  | some ad =>
   have HR0 := Aside0.mk hr0
   clear hr0
   have HB := Aside0.mk (Below.refl w.heap.size w)
   have HL := Aside0.mk hl
   clear hl
   have he := fun (W : World) => Lib.run_eql_slice_nil (P := Tryd.prog) W 23 22 (some ad) l0.length c0 0 0 Tryd.underlying23
   go_enter Tryd.func13, Tryd.ntmps13
   go_wp2_with (first | ((with_reducible refine gate_dst (N := 5) rfl ?_); refine Kd.R_lit D2 _ 22 ?hg (N := 5) ?hd (xs := ([] : List Nat)) (inner := []) (ok := fun _ => True) (okp := fun _ => True) ?hr ?hp (fun _ hk => hk) trivial (Below.refl _ _) (Nat.le_refl _) (by simp) ?_; (case hd => rfl); (case hg => rfl); (case hr => first | (go_simp; done) | (go_simp; rfl)); (case hp => exact (Reps.none _ _)); intro v358 w3 ho4 hb hg_ hnew_; clear hg_ hnew_; have n0_ := Aside0.mk (rL ho4 (bZ (by repeat (first | (with_reducible first | exact HB.out | apply bA | apply bN | apply bD) | exact HB.out)))); have n1_ := Aside0.mk (bP (by repeat (first | (with_reducible first | exact HB.out | apply bA | apply bN | apply bD) | exact HB.out)) hb); clear HB; have HO359 := n0_; have HB := n1_; clear n0_ n1_; clear hb ho4) | ((with_reducible refine gate_builtin (b := .append) (xs := #[.tmp 5, .tmp 6]) rfl ?_); at_builtin; refine Kd.R_append_rows D2 (w0 := w) w.heap.size rfl (.tmp 5) (.tmp 6) 23 22 (.slice none 0 0) 24 rfl Tryd.underlying23 info22 rfl (by show 0 < 1; omega) (by omega) v358 [] l0 _ _ _ (fun _ => True) (fun _ => False) rfl rfl ?aO ?aR (fun _ _ h => h) (fun _ h => h.elim) ?aF ?aB ?aS ?aL ?_; (case aR => repeat (first | exact (cB HR0.out HB.out) | (with_reducible refine cA ?_ _) | (with_reducible refine cN ?_ _) | (with_reducible refine cD ?_))); (case aB => exact (by repeat (first | (with_reducible first | exact HB.out | apply bA | apply bN | apply bD) | exact HB.out))); (case aF => exact (fun _ _ => trivial)); (case aO => exact (by (with_reducible repeat (first | apply rA | apply rN | apply rD)); exact HO359.out)); (case aS => exact (bZ (by repeat (first | (with_reducible first | exact HB.out | apply bA | apply bN | apply bD) | exact HB.out)))); (case aL => have := LMc2.out; simp; omega); intro v361 w5 ho hb hg hat; rw [List.nil_append] at ho; have n0_ := Aside0.mk (hb); have n1_ := Aside0.mk (ho); clear HB; clear HO359; have HB := n0_; have HO362 := n1_; clear n0_ n1_; clear ho hb hg hat))
   go_ret
   exact ⟨_, rfl, by (with_reducible repeat (first | apply rA | apply rN | apply rD)); rw [← HL.out]; exact HO362.out, by repeat (first | (with_reducible first | exact HB.out | apply bA | apply bN | apply bD) | exact HB.out)⟩
 ·unfold cloneP.f at h
  rw [if_neg c2] at h
  exact absurd h (by simp)
/-- Between two heap sizes. -/
abbrev InR (lo hi k : Nat) : Prop := lo ≤ k ∧ k < hi
/-- Pairs in memory: each in a block of its own, in the order of making. -/
structure InnP (W : World) (n3 : Nat) (bs : List Nat) (ps : List (Int × Int)) : Prop where
 at_ : ∀ (j : Nat) (p : Int × Int) (b : Nat), ps[j]? = some p → bs[j]? = some b → W.heap[b]? = some (.cells #[.int .i64 p.1, .int .i64 p.2] 2 (0, 0)) ∧ n3 ≤ b
 len : bs.length = ps.length
 up : bs.Pairwise (· < ·)
theorem InnP.move {W W1 : World} {n3 : Nat} {bs : List Nat} {ps : List (Int × Int)} (h : InnP W n3 bs ps) (hm : ∀ (b : Nat) (cs : Array Value), W.heap[b]? = some (.cells cs 2 (0, 0)) → W1.heap[b]? = W.heap[b]?) : InnP W1 n3 bs ps :=
 ⟨fun j p b h1 h2 => by
  obtain ⟨h3, h4⟩ := h.at_ j p b h1 h2
  exact ⟨(hm b _ h3).trans h3, h4⟩, h.len, h.up⟩
theorem InnP.nil (W : World) (n3 : Nat) : InnP W n3 [] [] := ⟨fun j p b h => by simp at h, rfl, List.Pairwise.nil⟩
theorem InnP.snoc {W : World} {n3 b : Nat} {bs : List Nat} {ps : List (Int × Int)} {p : Int × Int} (h : InnP W n3 bs ps) (hb : W.heap[b]? = some (.cells #[.int .i64 p.1, .int .i64 p.2] 2 (0, 0))) (hn : n3 ≤ b) (hl : ∀ c ∈ bs, c < b) : InnP W n3 (bs ++ [b]) (ps ++ [p]) := by
 refine ⟨fun j q c h1 h2 => ?_, by simp [h.len], List.pairwise_append.2 ⟨h.up, List.pairwise_singleton _ _, fun x hx y hy => by rw [List.mem_singleton.1 hy]; exact hl x hx⟩⟩
 by_cases c1 : j < ps.length
 ·rw [List.getElem?_append_left c1] at h1
  rw [List.getElem?_append_left (by rw [h.len]; exact c1)] at h2
  exact h.at_ j q c h1 h2
 ·rw [List.getElem?_append_right (by omega)] at h1
  rw [List.getElem?_append_right (by rw [h.len]; omega), h.len] at h2
  have e : j - ps.length = 0 := by
   have := (List.getElem?_eq_some_iff.1 h1).1
   simp at this
   omega
  rw [e] at h1 h2
  simp only [List.getElem?_cons_zero, Option.some.injEq] at h1 h2
  subst h1 h2
  exact ⟨hb, hn⟩
theorem InnP.drop1 {W : World} {n3 : Nat} {bs : List Nat} {ps : List (Int × Int)} (h : InnP W n3 bs ps) : InnP W n3 (bs.drop 1) (ps.drop 1) :=
 ⟨fun j p b h1 h2 => by
  rw [List.getElem?_drop] at h1 h2
  exact h.at_ _ p b h1 h2, by simp [h.len], h.up.sublist (List.drop_sublist _ _)⟩
theorem InnP.lt {W : World} {n3 : Nat} {bs : List Nat} {ps : List (Int × Int)} (h : InnP W n3 bs ps) : ∀ c ∈ bs, c < W.heap.size := fun c hc => by
 obtain ⟨j, hj, rfl⟩ := List.getElem_of_mem hc
 have h2 : j < ps.length := by rw [← h.len]; exact hj
 exact kL (h.at_ j ps[j] bs[j] (List.getElem?_eq_getElem h2) (List.getElem?_eq_getElem hj)).1
theorem prow_ne {α : Type} {d : Kd α} {e base g t : Nat} {W : World} {ok : Nat → Prop} {v : Value} {xs : List α} {cs : Array Value} (hb : W.heap[g]? = some (.cells cs t (0, 0))) (h : d.R e W base ok v xs) (hne : t ≠ e) : some g ≠ v.ownBlock := fun he => by
 obtain ⟨_, inner, ho, _⟩ := h
 obtain ⟨cells, hc⟩ := own_typed ho g he.symm
 rw [hb] at hc
 injection hc with hc
 injection hc with _ hc
 exact hne hc
theorem prow_grown {α β : Type} {d : Kd α} {d' : Kd β} {e e' base base' : Nat} {W W1 : World} {ok ok' : Nat → Prop} {v v' : Value} {xs : List α} {ys : List β} (h : d.R e W base ok v xs) (h' : d'.R e' W base' ok' v' ys) (ht : ∀ q, q ∈ e' :: d'.E → q ≠ e) (hg : W.grownBy W1 v.ownBlock) : d'.R e' W1 base' ok' v' ys :=
 rM (Kd.R_grown (Kd.R_bound h') hg (fun k hk he => by
  obtain ⟨_, _, _, q, hq, cells, hc⟩ := hk
  exact prow_ne hc h (ht q hq) he)) (fun _ hk => hk.1)
abbrev ZR : Array Value := #[.string (⟨#[]⟩ : ByteArray), .slice none 0 0, .slice none 0 0, .int .i64 0, .int .i64 0, .slice none 0 0]
structure PAt (w0 W : World) (gr g : Nat) (bc : Array Value) (wv : Value) (ws : List ByteArray) (uv : Value) (u : List Int) (dv : Value) (d : List Int) (n1 n2 n3 : Nat) (pv : Value) (bs : List Nat) (ps : List (Int × Int)) : Prop where
 below : Below w0.heap.size w0 W
 res : W.heap[gr]? = some (.cells ZR 25 (0, 0))
 box : W.heap[g]? = some (.cells bc 25 (0, 0))
 words : Kd.R Kd.string 9 W w0.heap.size (fun _ => True) wv ws
 up : Kd.R (Kd.int .i64) 2 W w0.heap.size (InR n1 n2) uv u
 dn : Kd.R (Kd.int .i64) 2 W w0.heap.size (InR n2 n3) dv d
 prs : Kd.R D2 22 W w0.heap.size (fun _ => True) pv bs
 inn : InnP W n3 bs ps
 size8 : n3 ≤ W.heap.size
section
variable {w0 W W1 W2 : World} {gr g : Nat} {bc bc2 : Array Value} {wv : Value} {ws : List ByteArray} {uv uv2 : Value} {u u2 : List Int} {dv dv2 : Value} {d d2 : List Int} {n1 n2 n3 m1 m2 m3 : Nat} {pv pv2 : Value} {bs bs2 : List Nat} {ps ps2 : List (Int × Int)}
theorem PAt.onto (h : PAt w0 W gr g bc wv ws uv u dv d n1 n2 n3 pv bs ps) (hb : Below W.heap.size W W1) : PAt w0 W1 gr g bc wv ws uv u dv d n1 n2 n3 pv bs ps :=
 ⟨bP h.below hb, kB h.res hb, kB h.box hb, rB h.words hb, rB h.up hb, rB h.dn hb, rB h.prs hb, h.inn.move (fun b _ hc => hb.block b (kL hc)), Nat.le_trans h.size8 hb.size⟩
theorem PAt.drew (h : PAt w0 W gr g bc wv ws uv u dv d n1 n2 n3 pv bs ps) : PAt w0 W.drew gr g bc wv ws uv u dv d n1 n2 n3 pv bs ps := h.onto (bD (Below.refl _ _))
theorem PAt.drewN (h : PAt w0 W gr g bc wv ws uv u dv d n1 n2 n3 pv bs ps) (m : Nat) : PAt w0 (W.drewN m) gr g bc wv ws uv u dv d n1 n2 n3 pv bs ps := h.onto (bN (Below.refl _ _) m)
theorem PAt.drewN2 {m : Nat} (h : PAt w0 (W.drewN m) gr g bc wv ws uv u dv d n1 n2 n3 pv bs ps) (n : Nat) : PAt w0 (W.drewN (m + n)) gr g bc wv ws uv u dv d n1 n2 n3 pv bs ps := by
 have h1 := h.drewN n
 rwa [World.drewN_drewN] at h1
theorem PAt.setg {i : Nat} {x : Value} (h : PAt w0 W gr g bc wv ws uv u dv d n1 n2 n3 pv bs ps) (hg : w0.heap.size ≤ g) (hne : gr ≠ g) (hw : W1 = W.setCell ⟨g, i, none⟩ x) (hc : bc.setIfInBounds i x = bc2) : PAt w0 W1 gr g bc2 wv ws uv u dv d n1 n2 n3 pv bs ps := by
 subst hw
 exact ⟨bS h.below hg, (Below.heap_setCell W ⟨g, i, none⟩ x gr hne).trans h.res, blk_put h.box i x hc, Kd.R_set h.words h.box (by decide) i _, Kd.R_set h.up h.box (by decide) i _, Kd.R_set h.dn h.box (by decide) i _, Kd.R_set h.prs h.box (by decide) i _, h.inn.move (fun b cs hb => Below.heap_setCell W ⟨g, i, none⟩ x b (fun e => by
  have e' : b = g := e
  subst e'
  rw [h.box] at hb
  injection hb with hb
  injection hb with _ hb
  exact absurd hb (by decide))), by have := h.size8; simpa [World.setCell] using this⟩
theorem PAt.setg6 {v0 v1 v2 v3 v4 v5 z0 z1 z2 z3 z4 z5 : Value} (h : PAt w0 W gr g #[z0, z1, z2, z3, z4, z5] wv ws uv u dv d n1 n2 n3 pv bs ps) (hg : w0.heap.size ≤ g) (hne : gr ≠ g) (hw : W1 = (((((W.setCell ⟨g, 0, none⟩ v0).setCell ⟨g, 1, none⟩ v1).setCell ⟨g, 2, none⟩ v2).setCell ⟨g, 3, none⟩ v3).setCell ⟨g, 4, none⟩ v4).setCell ⟨g, 5, none⟩ v5) : PAt w0 W1 gr g #[v0, v1, v2, v3, v4, v5] wv ws uv u dv d n1 n2 n3 pv bs ps := by
 subst hw
 exact (((((h.setg hg hne rfl rfl).setg hg hne rfl rfl).setg hg hne rfl rfl).setg hg hne rfl rfl).setg hg hne rfl rfl).setg hg hne rfl rfl
theorem PAt.rows (h : PAt w0 W gr g bc wv ws uv u dv d n1 n2 n3 pv [] []) (hu : Kd.R (Kd.int .i64) 2 W w0.heap.size (InR m1 m2) uv2 u2) (hd : Kd.R (Kd.int .i64) 2 W w0.heap.size (InR m2 m3) dv2 d2) : PAt w0 W gr g bc wv ws uv2 u2 dv2 d2 m1 m2 W.heap.size pv [] [] :=
 ⟨h.below, h.res, h.box, h.words, hu, rM (Kd.R_bound hd) (fun _ hk => ⟨hk.1.1, hk.2.2.1⟩), h.prs, InnP.nil _ _, Nat.le_refl _⟩
theorem PAt.more (h : PAt w0 W gr g bc wv ws uv u dv d n1 n2 n3 pv bs ps) (hgr : W.grownBy W1 pv.ownBlock) (hb : Below w0.heap.size w0 W1) (hp : Kd.R D2 22 W1 w0.heap.size (fun _ => True) pv2 bs2) (hi : InnP W n3 bs2 ps2) : PAt w0 W1 gr g bc wv ws uv u dv d n1 n2 n3 pv2 bs2 ps2 :=
 ⟨hb, blk_grown h.res hgr (prow_ne h.res h.prs (by decide)), blk_grown h.box hgr (prow_ne h.box h.prs (by decide)), prow_grown h.prs h.words (by decide) hgr, prow_grown h.prs h.up (by decide) hgr, prow_grown h.prs h.dn (by decide) hgr, hp, hi.move (fun b cs hc => hgr.block b (kL hc) (prow_ne hc h.prs (by decide))), Nat.le_trans h.size8 hgr.size⟩
end
section
variable {P : Program} {ops : Array Oper} {rest : List Oper} {o : Oper} {a : Act} {Q : Exit → Act → World → Prop}
theorem lit_event {W : World} (hgd : o.guard = none) {N : Tmp} (_hd : o.dst = some N) {cs : Array Value} {t : TypeId} {n : Nat}
  (hrun : (execOp a.eval o).run P W = .ok (.value (.slice (some ⟨W.heap.size, 0, none⟩) n n)) (W.alloc (.cells cs t (0, 0))))
  (h : ∀ g, g = W.heap.size → ∀ w1, w1.heap[g]? = some (.cells cs t (0, 0)) → Below W.heap.size W w1 → wpList P ops Q rest (a.put o.dst (.slice (some ⟨g, 0, none⟩) n n)) w1) : wpList P ops Q (o :: rest) a W :=
 Kd.event_run hgd hrun (h _ rfl _ (blk_new W _) (bA (Below.refl _ _) _))
end
theorem put6 {W W1 : World} {g t : Nat} {z0 z1 z2 z3 z4 z5 v0 v1 v2 v3 v4 v5 : Value} (h : W.heap[g]? = some (.cells #[z0, z1, z2, z3, z4, z5] t (0, 0))) (hw : W1 = (((((W.setCell ⟨g, 0, none⟩ v0).setCell ⟨g, 1, none⟩ v1).setCell ⟨g, 2, none⟩ v2).setCell ⟨g, 3, none⟩ v3).setCell ⟨g, 4, none⟩ v4).setCell ⟨g, 5, none⟩ v5) : W1.heap[g]? = some (.cells #[v0, v1, v2, v3, v4, v5] t (0, 0)) ∧ Kept W W1 (fun k => k = g) := by
 subst hw
 have k0 : Kept W W (fun k => k = g) := Kept.refl W _
 have k1 := k0.setCell (p := ⟨g, 0, none⟩) (.inl rfl) v0
 have k2 := k1.setCell (p := ⟨g, 1, none⟩) (.inl rfl) v1
 have k3 := k2.setCell (p := ⟨g, 2, none⟩) (.inl rfl) v2
 have k4 := k3.setCell (p := ⟨g, 3, none⟩) (.inl rfl) v3
 have k5 := k4.setCell (p := ⟨g, 4, none⟩) (.inl rfl) v4
 have k6 := k5.setCell (p := ⟨g, 5, none⟩) (.inl rfl) v5
 exact ⟨blk_put (blk_put (blk_put (blk_put (blk_put (blk_put h 0 v0 rfl) 1 v1 rfl) 2 v2 rfl) 3 v3 rfl) 4 v4 rfl) 5 v5 rfl, k6⟩
theorem below_put6 {w W W1 : World} {g : Nat} {v0 v1 v2 v3 v4 v5 : Value} (hb : Below w.heap.size w W) (hg : w.heap.size ≤ g) (hw : W1 = (((((W.setCell ⟨g, 0, none⟩ v0).setCell ⟨g, 1, none⟩ v1).setCell ⟨g, 2, none⟩ v2).setCell ⟨g, 3, none⟩ v3).setCell ⟨g, 4, none⟩ v4).setCell ⟨g, 5, none⟩ v5) : Below w.heap.size w W1 := by
 subst hw
 exact bS (bS (bS (bS (bS (bS hb hg) hg) hg) hg) hg) hg
theorem r_put6 {α : Type} {dd : Kd α} {e base g t : Nat} {W W1 : World} {ok : Nat → Prop} {v : Value} {xs : List α} {z0 z1 z2 z3 z4 z5 v0 v1 v2 v3 v4 v5 : Value} (h : dd.R e W base ok v xs) (hz : W.heap[g]? = some (.cells #[z0, z1, z2, z3, z4, z5] t (0, 0))) (ht : ∀ q, q ∈ e :: dd.E → q ≠ t) (hw : W1 = (((((W.setCell ⟨g, 0, none⟩ v0).setCell ⟨g, 1, none⟩ v1).setCell ⟨g, 2, none⟩ v2).setCell ⟨g, 3, none⟩ v3).setCell ⟨g, 4, none⟩ v4).setCell ⟨g, 5, none⟩ v5) : dd.R e W1 base ok v xs :=
 rM (Kd.R_kept (Kd.R_types h hz ht) (put6 hz hw).2 (fun _ hk => hk.2)) (fun _ hk => hk.1)
/-- What is taken in the last drawn region. -/
def SP (gp b0 : Nat) (p1 p2 : Int) (W : World) : Prop := W.cell? ⟨gp, 0, none⟩ = some (.slice (some ⟨b0, 0, none⟩) 2 2) ∧ W.cell? ⟨b0, 0, none⟩ = some (.int .i64 p1) ∧ W.cell? ⟨b0, 1, none⟩ = some (.int .i64 p2)
theorem SP.below {gp b0 : Nat} {p1 p2 : Int} {W W1 : World} (h : SP gp b0 p1 p2 W) (hb : Below W.heap.size W W1) : SP gp b0 p1 p2 W1 :=
 ⟨(hb.cell (World.block_lt_of_cell? _ _ h.1)).trans h.1, (hb.cell (World.block_lt_of_cell? _ _ h.2.1)).trans h.2.1, (hb.cell (World.block_lt_of_cell? _ _ h.2.2)).trans h.2.2⟩
theorem SP.set {gp b0 g i : Nat} {p1 p2 : Int} {x : Value} {W : World} (h : SP gp b0 p1 p2 W) (h1 : g ≠ gp) (h2 : g ≠ b0) : SP gp b0 p1 p2 (W.setCell ⟨g, i, none⟩ x) :=
 ⟨(World.cell?_setCell_far _ _ _ _ h1).trans h.1, (World.cell?_setCell_far _ _ _ _ h2).trans h.2.1, (World.cell?_setCell_far _ _ _ _ h2).trans h.2.2⟩
abbrev DSS : Kd (List Int) := Kd.slice 2 (Kd.int .i64)
theorem pair_R {W : World} {base b : Nat} {ok : Nat → Prop} {x y : Int} (h : W.heap[b]? = some (.cells #[.int .i64 x, .int .i64 y] 2 (0, 0))) (hb : base ≤ b) (ho : ok b) : (Kd.int .i64).R 2 W base ok (.slice (some ⟨b, 0, none⟩) 2 2) [x, y] :=
 ⟨fun k hk => by
  have e : b = k := by simpa [Value.ownBlock] using hk
  rw [← e]
  exact ho, [.int .i64 x, .int .i64 y], ⟨rfl, .inr ⟨b, 2, _, rfl, hb, h, Nat.le_refl _, by decide, rfl, rfl⟩⟩, rfl, fun j p hj => by
   match j, hj with
   | 0, hj =>
    obtain rfl : x = p := by simpa using hj
    rfl
   | 1, hj =>
    obtain rfl : y = p := by simpa using hj
    rfl
   | j + 2, hj => simp at hj⟩
open Classical in
theorem pairs_S {W : World} {n3 base : Nat} {bs : List Nat} {qs : List (Int × Int)} {v : Value} {okk : Nat → Prop} (h : Kd.R D2 22 W base okk v bs) (hbb : n3 ≤ base) (hi : InnP W n3 bs qs) : Kd.S DSS 22 W n3 (fun k => n3 ≤ k) v (qs.map fun q => [q.1, q.2]) := by
 have hbase := Kd.R_base h
 have hty := Kd.R_typed h
 obtain ⟨h0, inner, ho, hr⟩ := rL h hbb
 have hz : bs.length = (qs.map fun q : Int × Int => [q.1, q.2]).zipIdx.length := by simp [hi.len]
 refine ⟨fun k => if hk : ∃ j : Nat, bs[j]? = some k then hk.choose else 0, fun k hk => Nat.le_trans hbb (hbase k hk), inner, by rw [← hz]; exact ho, by rw [← hz]; exact hr.1, fun j p hj => ?_⟩
 have hj' : ∃ q, qs[j]? = some q ∧ p = ([q.1, q.2], j) := by
  rw [List.getElem?_zipIdx, List.getElem?_map] at hj
  cases hq : qs[j]? with
  | none => rw [hq] at hj; simp at hj
  | some q => rw [hq] at hj; exact ⟨q, rfl, by simpa using hj.symm⟩
 obtain ⟨q, hq, rfl⟩ := hj'
 have hjl : j < bs.length := by rw [hi.len]; exact (List.getElem?_eq_some_iff.1 hq).1
 have hbj := List.getElem?_eq_getElem hjl
 obtain ⟨hbk, hn⟩ := hi.at_ j q _ hq hbj
 refine ⟨_, hr.2 j _ hbj, pair_R hbk hn ⟨⟨hn, fun he => ?_⟩, ?_⟩⟩
 ·obtain ⟨cells, hc⟩ := hty _ he.symm
  rw [hbk] at hc
  injection hc with hc
  injection hc with _ hc
  exact absurd hc (by decide)
 ·have hex : ∃ i : Nat, bs[i]? = some bs[j] := ⟨j, hbj⟩
  show (if hk : ∃ i : Nat, bs[i]? = some bs[j] then hk.choose else 0) = j
  rw [dif_pos hex]
  have hc := hex.choose_spec
  obtain ⟨hl2, he2⟩ := List.getElem?_eq_some_iff.1 hc
  have hp := List.pairwise_iff_getElem.1 hi.up
  rcases Nat.lt_trichotomy hex.choose j with c | c | c
  ·have := hp _ _ hl2 hjl c
   omega
  ·exact c
  ·have := hp _ _ hjl hl2 c
   omega
theorem s_put6 {α : Type} {dd : Kd α} {e base g t : Nat} {W W1 : World} {ok : Nat → Prop} {v : Value} {xs : List α} {z0 z1 z2 z3 z4 z5 v0 v1 v2 v3 v4 v5 : Value} (h : Kd.S dd e W base ok v xs) (hz : W.heap[g]? = some (.cells #[z0, z1, z2, z3, z4, z5] t (0, 0))) (ht : ∀ q, q ∈ e :: dd.E → q ≠ t) (hw : W1 = (((((W.setCell ⟨g, 0, none⟩ v0).setCell ⟨g, 1, none⟩ v1).setCell ⟨g, 2, none⟩ v2).setCell ⟨g, 3, none⟩ v3).setCell ⟨g, 4, none⟩ v4).setCell ⟨g, 5, none⟩ v5) : Kd.S dd e W1 base ok v xs := by
 obtain ⟨f, h⟩ := h
 exact ⟨f, r_put6 h hz ht hw⟩
abbrev RgR := ByteArray × List Int × List Int × Int × Int × List (List Int) × Bool
def rg0 : RgR := (⟨#[]⟩, [], [], 0, 0, [], false)
def impl_ReadRaga.e (k : Nat) (s : ByteArray) (ws : List ByteArray) (u d : List Int) : List (Int × Int) → Option RgR
 | [] => none
 | p :: qs => if qs.length < 2000000 then (impl_RagaText.f k (rdOf ByteArray.empty ws 0) u d p.1 p.2 (qs.map fun q => [q.1, q.2])).bind (fun t => if t.toList = s.toList then some (rdOf ByteArray.empty ws 0, u, d, p.1, p.2, qs.map fun q => [q.1, q.2], true) else some rg0) else none
def impl_ReadRaga.l : Nat → ByteArray → List ByteArray → List Int → List Int → List (Int × Int) → Int → Option RgR
 | 0, _, _, _, _, _, _ => none
 | k + 1, s, ws, u, d, ps, j => if j < ((ws.length - 3 : Nat) : Int) then (if 0 ≤ j ∧ ps.length < 2000000 then (if ((rdOf ByteArray.empty ws (3 + j)).size : Int) = 2 then (impl_ToneNamed.f ((rdOf ByteArray.empty ws (3 + j)).extract 0 1)).bind fun a => (impl_ToneNamed.f ((rdOf ByteArray.empty ws (3 + j)).extract 1 (rdOf ByteArray.empty ws (3 + j)).size)).bind fun b => impl_ReadRaga.l k s ws u d (ps ++ [(a.1, b.1)]) (wrap64 (j + 1)) else some rg0) else none)
  else impl_ReadRaga.e k s ws u d ps
def impl_ReadRaga.f (k : Nat) (s : ByteArray) : Option RgR := (strings_Split.f s ⟨#[32]⟩).bind fun ws => if (ws.length : Int) < 4 then some rg0 else
 (impl_ReadScale.f k (rdOf ByteArray.empty ws 1)).bind fun u => (impl_ReadScale.f k (rdOf ByteArray.empty ws 2)).bind fun d => impl_ReadRaga.l k s ws u.1 d.1 [] 0
theorem rinfo9 : (Tryd.prog.info? 9).map (fun i => (i.zero, i.size, i.bytes)) = some (some (.string ⟨#[]⟩), 1, 16) := by kernel_rfl
set_option maxHeartbeats 8000000 in
set_option maxRecDepth 100000 in
theorem impl_ReadRaga.calls (k : Nat) (a0 : ByteArray) (r1 : ByteArray) (r2 : List Int) (r3 : List Int) (r4 : Int) (r5 : Int) (r6 : List (List Int)) (r7 : Bool) (w : World) (hT : TabM w) (h : impl_ReadRaga.f k a0 = some (r1, r2, r3, r4, r5, r6, r7)) :
  Calls Tryd.prog 5 #[.string a0] w fun e w' => ∃ v1_ v2_ v5_ : Value, e = .returned (.tuple #[.agg #[.string r1, v1_, v2_, .int .i64 r4, .int .i64 r5, v5_], .bool r7]) ∧ Kd.R (Kd.int .i64) 2 w' w.heap.size (fun k_ => some k_ ≠ (v2_ : Value).ownBlock) v1_ r2 ∧ Kd.R (Kd.int .i64) 2 w' w.heap.size (fun k_ => some k_ ≠ (v1_ : Value).ownBlock) v2_ r3 ∧ Kd.S (Kd.slice 2 (Kd.int .i64)) 22 w' w.heap.size (fun k_ => some k_ ≠ (v1_ : Value).ownBlock ∧ some k_ ≠ (v2_ : Value).ownBlock) v5_ r6 ∧ Below w.heap.size w w' := by
 have hu25 := Tryd.underlying25
 have HB := Aside0.mk (Below.refl w.heap.size w)
 unfold impl_ReadRaga.f at h
 obtain ⟨ws, a1, h⟩ := Option.bind_eq_some_iff.1 h
 have E1 := Aside0.mk a1
 clear a1
 by_cases c : (ws.length : Int) < 4
 ·rw [if_pos c] at h
  obtain ⟨rfl, rfl, rfl, rfl, rfl, rfl, rfl⟩ : (⟨#[]⟩ : ByteArray) = r1 ∧ [] = r2 ∧ [] = r3 ∧ 0 = r4 ∧ 0 = r5 ∧ [] = r6 ∧ false = r7 := by simpa [rg0] using h
  have d1 : decide ((ws.length : Int) < 4) = true := decide_eq_true c
  clear h c
  go_enter Tryd.func5, Tryd.ntmps5
  go_wp2_with (first | ((with_reducible refine gate_dst (N := 2) rfl ?_); refine bE ?hg (N := 2) ?hd (cs := #[.string (⟨#[]⟩ : ByteArray), .slice none 0 0, .slice none 0 0, .int .i64 0, .int .i64 0, .slice none 0 0]) (t := 25) ?hr ?_; (case hd => rfl); (case hg => rfl); (case hr => first | (go_simp; done) | (go_simp; rfl)); intro gr hg_ w1 hbox hb; have HGR := Aside0.mk (show w.heap.size ≤ gr by rw [hg_]; exact bZ (by repeat (first | exact HB.out | apply bN | apply bD | apply bA))); have HK := Aside0.mk hbox; have HB2 := Aside0.mk (bP (by repeat (first | exact HB.out | apply bN | apply bD | apply bA)) hb); clear HB hb hg_ hbox; have HB := HB2; clear HB2) | ((with_reducible refine gC (f := 10) rfl ?_); refine goesL_ (some 14) rfl rfl Tryd.func10 (by kernel_rfl) rfl #[.string a0, .string ⟨#[32]⟩] rfl (by (try simp only [List.map_toArray, List.map_cons, List.map_nil]); first | done | rfl | (simp only [List.length_drop, List.length_take]; rfl)) ?_; (with_reducible refine (strings_Split.calls a0 ⟨#[32]⟩ ws _ (TabM.below hT (by repeat (first | exact HB.out | apply bN | apply bD | apply bA))) E1.out).mono ?_); rintro e w2 ⟨v2, rfl, h2, hb⟩; refine ⟨_, rfl, ?_⟩; obtain ⟨Aw, cw, rfl⟩ := Kd.R_slice h2; have HW := Aside0.mk (rL h2 (bZ (by repeat (first | exact HB.out | apply bN | apply bD | apply bA)))); have HK2 := Aside0.mk (kB HK.out hb); have HB2 := Aside0.mk (bP (by repeat (first | exact HB.out | apply bN | apply bD | apply bA)) hb); clear HB HK hb h2; have HB := HB2; clear HB2; have r0 : w2.cell? ⟨gr, 0, none⟩ = some (.string (⟨#[]⟩ : ByteArray)) := (kC HK2.out 0).trans rfl; have fr0 := blk_frozen HK2.out 0; have r1 : w2.cell? ⟨gr, 1, none⟩ = some (.slice none 0 0) := (kC HK2.out 1).trans rfl; have fr1 := blk_frozen HK2.out 1; have r2 : w2.cell? ⟨gr, 2, none⟩ = some (.slice none 0 0) := (kC HK2.out 2).trans rfl; have fr2 := blk_frozen HK2.out 2; have r3 : w2.cell? ⟨gr, 3, none⟩ = some (.int .i64 0) := (kC HK2.out 3).trans rfl; have fr3 := blk_frozen HK2.out 3; have r4 : w2.cell? ⟨gr, 4, none⟩ = some (.int .i64 0) := (kC HK2.out 4).trans rfl; have fr4 := blk_frozen HK2.out 4; have r5 : w2.cell? ⟨gr, 5, none⟩ = some (.slice none 0 0) := (kC HK2.out 5).trans rfl; have fr5 := blk_frozen HK2.out 5) | ((with_reducible refine gate_store (t := 25) (p := 2) rfl ?_); refine store_event (t := 25) (p := 2) (v := ?vo_z1) (w1 := ((((((w2.setCell ⟨gr, 0, none⟩ (.string (⟨#[]⟩ : ByteArray))).setCell ⟨gr, 1, none⟩ (.slice none 0 0)).setCell ⟨gr, 2, none⟩ (.slice none 0 0)).setCell ⟨gr, 3, none⟩ (.int .i64 0)).setCell ⟨gr, 4, none⟩ (.int .i64 0)).setCell ⟨gr, 5, none⟩ (.slice none 0 0))) ?hg ?ho ?hn ?hr ?_; (case ho => rfl); (case hg => rfl); (case hn => rfl); (case hr => first | (go_simp; done) | (go_simp; rfl)); intro w3 hw; have HZ := Aside0.mk (put6 HK2.out hw).1; have HB2 := Aside0.mk (below_put6 (by repeat (first | exact HB.out | apply bN | apply bD | apply bA)) HGR.out hw); clear hw HB HK2; clear r0 fr0 r1 fr1 r2 fr2 r3 fr3 r4 fr4 r5 fr5; have HB := HB2; clear HB2))
  refine bodyPost_ret (results_ct rfl _ _ gr 25 #[.string (⟨#[]⟩ : ByteArray), .slice none 0 0, .slice none 0 0, .int .i64 0, .int .i64 0, .slice none 0 0] (0, 0) _ rfl HZ.out hu25 rfl (by kernel_rfl)) rfl ?_
  exact ⟨_, _, _, rfl, Kd.R_nil _ _ _ _ _, Kd.R_nil _ _ _ _ _, Kd.S_nil _ _ _ _ _, (by repeat (first | exact HB.out | apply bN | apply bD | apply bA))⟩

 rw [if_neg c] at h
 have HL4 := Aside0.mk (show 4 ≤ ws.length by omega)
 obtain ⟨⟨u, ub⟩, a2, h⟩ := Option.bind_eq_some_iff.1 h
 obtain ⟨⟨d, db⟩, a3, h⟩ := Option.bind_eq_some_iff.1 h
 dsimp only at h
 have E2 := Aside0.mk a2
 have E3 := Aside0.mk a3
 have H' := Aside0.mk h
 have d1 : decide ((ws.length : Int) < 4) = false := decide_eq_false c
 have p0 : ((0 : Int) < (ws.length : Int)) = True := eq_true (by omega)
 have p1 : ((1 : Int) < (ws.length : Int)) = True := eq_true (by omega)
 have p2 : ((2 : Int) < (ws.length : Int)) = True := eq_true (by omega)
 have p3 : ((3 : Int) ≤ (ws.length : Int)) = True := eq_true (by omega)
 have p0n : (0 < ws.length) = True := eq_true (by omega)
 have p1n : (1 < ws.length) = True := eq_true (by omega)
 have p2n : (2 < ws.length) = True := eq_true (by omega)
 clear a2 a3 h c
 go_enter Tryd.func5, Tryd.ntmps5
 go_upto_region 8 with (first | ((with_reducible refine gate_dst (N := 2) rfl ?_); refine bE ?hg (N := 2) ?hd (cs := #[.string (⟨#[]⟩ : ByteArray), .slice none 0 0, .slice none 0 0, .int .i64 0, .int .i64 0, .slice none 0 0]) (t := 25) ?hr ?_; (case hd => rfl); (case hg => rfl); (case hr => first | (go_simp; done) | (go_simp; rfl)); intro gr hg_ w1 hbox hb; have HGR := Aside0.mk (show w.heap.size ≤ gr by rw [hg_]; exact bZ (by repeat (first | exact HB.out | apply bN | apply bD | apply bA))); have HK := Aside0.mk hbox; have HB2 := Aside0.mk (bP (by repeat (first | exact HB.out | apply bN | apply bD | apply bA)) hb); clear HB hb hg_ hbox; have HB := HB2; clear HB2) | ((with_reducible refine gC (f := 10) rfl ?_); refine goesL_ (some 14) rfl rfl Tryd.func10 (by kernel_rfl) rfl #[.string a0, .string ⟨#[32]⟩] rfl (by (try simp only [List.map_toArray, List.map_cons, List.map_nil]); first | done | rfl | (simp only [List.length_drop, List.length_take]; rfl)) ?_; (with_reducible refine (strings_Split.calls a0 ⟨#[32]⟩ ws _ (TabM.below hT (by repeat (first | exact HB.out | apply bN | apply bD | apply bA))) E1.out).mono ?_); rintro e w2 ⟨v2, rfl, h2, hb⟩; refine ⟨_, rfl, ?_⟩; obtain ⟨gw, cw, rfl, _⟩ := Kd.R_form h2 (by have := HL4.out; omega); have HW := Aside0.mk (rL h2 (bZ (by repeat (first | exact HB.out | apply bN | apply bD | apply bA)))); have HK2 := Aside0.mk (kB HK.out hb); have HB2 := Aside0.mk (bP (by repeat (first | exact HB.out | apply bN | apply bD | apply bA)) hb); clear HB HK hb h2; have HB := HB2; clear HB2; have t0 : w2.cell? ⟨gw, 0, none⟩ = some (.string (rdOf ByteArray.empty ws 0)) := (Kd.R_celln ByteArray.empty HW.out 0 (by omega) (by have := HL4.out; omega)).1) | ((with_reducible refine gate_dst (N := 5) rfl ?_); refine bE ?hg (N := 5) ?hd (cs := #[.string (⟨#[]⟩ : ByteArray), .slice none 0 0, .slice none 0 0, .int .i64 0, .int .i64 0, .slice none 0 0]) (t := 25) ?hr ?_; (case hd => rfl); (case hg => rfl); (case hr => first | (go_simp; done) | (go_simp; rfl)); intro g hg_ w3 hbox hb; have HG := Aside0.mk (show w.heap.size ≤ g by rw [hg_]; exact bZ (by repeat (first | exact HB.out | apply bN | apply bD | apply bA))); have HNE := Aside0.mk (show gr ≠ g by rw [hg_]; exact Nat.ne_of_lt (kL HK2.out)); have HP := Aside0.mk (show PAt w w3 gr g #[.string (⟨#[]⟩ : ByteArray), .slice none 0 0, .slice none 0 0, .int .i64 0, .int .i64 0, .slice none 0 0] (.slice (some ⟨gw, 0, none⟩) ws.length cw) ws (.slice none 0 0) [] (.slice none 0 0) [] 0 0 0 (.slice none 0 0) [] [] from ⟨bP (by repeat (first | exact HB.out | apply bN | apply bD | apply bA)) hb, kB HK2.out hb, hbox, rB HW.out hb, Kd.R_nil _ _ _ _ _, Kd.R_nil _ _ _ _ _, Kd.R_nil _ _ _ _ _, InnP.nil _ _, Nat.zero_le _⟩); clear HB HK2 HW hb hg_ hbox t0; have b0 : w3.cell? ⟨g, 0, none⟩ = some (.string (⟨#[]⟩ : ByteArray)) := (kC HP.out.box 0).trans rfl; have fb0 := blk_frozen HP.out.box 0; have b1 : w3.cell? ⟨g, 1, none⟩ = some (.slice none 0 0) := (kC HP.out.box 1).trans rfl; have fb1 := blk_frozen HP.out.box 1; have b2 : w3.cell? ⟨g, 2, none⟩ = some (.slice none 0 0) := (kC HP.out.box 2).trans rfl; have fb2 := blk_frozen HP.out.box 2; have b3 : w3.cell? ⟨g, 3, none⟩ = some (.int .i64 0) := (kC HP.out.box 3).trans rfl; have fb3 := blk_frozen HP.out.box 3; have b4 : w3.cell? ⟨g, 4, none⟩ = some (.int .i64 0) := (kC HP.out.box 4).trans rfl; have fb4 := blk_frozen HP.out.box 4; have b5 : w3.cell? ⟨g, 5, none⟩ = some (.slice none 0 0) := (kC HP.out.box 5).trans rfl; have fb5 := blk_frozen HP.out.box 5) | ((with_reducible refine gate_store (t := 25) (p := 5) rfl ?_); refine store_event (t := 25) (p := 5) (v := ?vo_s5) (w1 := ((((((w3.setCell ⟨g, 0, none⟩ (.string (rdOf ByteArray.empty ws 0))).setCell ⟨g, 1, none⟩ (.slice none 0 0)).setCell ⟨g, 2, none⟩ (.slice none 0 0)).setCell ⟨g, 3, none⟩ (.int .i64 0)).setCell ⟨g, 4, none⟩ (.int .i64 0)).setCell ⟨g, 5, none⟩ (.slice none 0 0))) ?hg ?ho ?hn ?hr ?_; (case ho => rfl); (case hg => rfl); (case hn => rfl); (case hr => first | (go_simp; done) | (go_simp; rfl)); intro w4 hw; have HP2 := Aside0.mk (PAt.setg6 HP.out HG.out HNE.out hw); clear hw HP; clear b0 fb0 b1 fb1 b2 fb2 b3 fb3 b4 fb4 b5 fb5; have HP := HP2; clear HP2; have t1 : w4.cell? ⟨gw, 1, none⟩ = some (.string (rdOf ByteArray.empty ws 1)) := (Kd.R_celln ByteArray.empty HP.out.words 1 (by omega) (by have := HL4.out; omega)).1) | ((with_reducible refine gC (f := 11) rfl ?_); refine goesL_ (some 27) rfl rfl Tryd.func11 (by kernel_rfl) rfl #[.string (rdOf ByteArray.empty ws 1)] rfl (by (try simp only [List.map_toArray, List.map_cons, List.map_nil]); first | done | rfl | (simp only [List.length_drop, List.length_take]; rfl)) ?_; (with_reducible refine (impl_ReadScale.calls k (rdOf ByteArray.empty ws 1) u ub _ (TabM.below hT HP.out.below) E2.out).mono ?_); rintro e w5 ⟨v5, rfl, h5, hb⟩; refine ⟨_, rfl, ?_⟩; obtain ⟨Au, cu, rfl⟩ := Kd.R_slice h5; have HU := Aside0.mk (rL (rM (ok' := InR w4.heap.size w5.heap.size) (Kd.R_bound h5) (fun _ hk => ⟨hk.2.1, hk.2.2.1⟩)) (bZ HP.out.below)); have HP2 := Aside0.mk (HP.out.onto hb); clear hb h5 HP t1; have HP := HP2; clear HP2; have b1 : w5.cell? ⟨g, 1, none⟩ = some (.slice none 0 0) := (kC HP.out.box 1).trans rfl; have fb1 := blk_frozen HP.out.box 1) | ((with_reducible refine gate_store (t := 22) (p := 30) rfl ?_); refine store_event (t := 22) (p := 30) (v := ?vo_s1) (w1 := w5.setCell ⟨g, 1, none⟩ (.slice Au u.length cu)) ?hg ?ho ?hn ?hr ?_; (case ho => rfl); (case hg => rfl); (case hn => rfl); (case hr => first | (go_simp; done) | (go_simp; rfl)); intro w6 hw; have HU2 := Aside0.mk (show Kd.R (Kd.int .i64) 2 w6 w.heap.size (InR w4.heap.size w6.heap.size) (.slice Au u.length cu) u from hw ▸ rM (Kd.R_set HU.out HP.out.box (by decide) 1 _) (fun _ hk => ⟨hk.1, by have := hk.2; simpa [World.setCell] using this⟩)); have HP2 := Aside0.mk (PAt.setg HP.out HG.out HNE.out hw rfl); clear hw HP HU b1 fb1; have HP := HP2; clear HP2; have t2 : w6.cell? ⟨gw, 2, none⟩ = some (.string (rdOf ByteArray.empty ws 2)) := (Kd.R_celln ByteArray.empty HP.out.words 2 (by omega) (by have := HL4.out; omega)).1) | ((with_reducible refine gC (f := 11) rfl ?_); refine goesL_ (some 35) rfl rfl Tryd.func11 (by kernel_rfl) rfl #[.string (rdOf ByteArray.empty ws 2)] rfl (by (try simp only [List.map_toArray, List.map_cons, List.map_nil]); first | done | rfl | (simp only [List.length_drop, List.length_take]; rfl)) ?_; (with_reducible refine (impl_ReadScale.calls k (rdOf ByteArray.empty ws 2) d db _ (TabM.below hT HP.out.below) E3.out).mono ?_); rintro e w7 ⟨v7, rfl, h7, hb⟩; refine ⟨_, rfl, ?_⟩; obtain ⟨Ad, cd, rfl⟩ := Kd.R_slice h7; have HD := Aside0.mk (rL (rM (ok' := InR w6.heap.size w7.heap.size) (Kd.R_bound h7) (fun _ hk => ⟨hk.2.1, hk.2.2.1⟩)) (bZ HP.out.below)); have HU3 := Aside0.mk (rB HU2.out hb); have HN0 := Aside0.mk hb.size; have HP2 := Aside0.mk (HP.out.onto hb); clear hb h7 HP HU2 t2; have HP := HP2; clear HP2; have b2 : w7.cell? ⟨g, 2, none⟩ = some (.slice none 0 0) := (kC HP.out.box 2).trans rfl; have fb2 := blk_frozen HP.out.box 2) | ((with_reducible refine gate_store (t := 22) (p := 38) rfl ?_); refine store_event (t := 22) (p := 38) (v := ?vo_s2) (w1 := w7.setCell ⟨g, 2, none⟩ (.slice Ad d.length cd)) ?hg ?ho ?hn ?hr ?_; (case ho => rfl); (case hg => rfl); (case hn => rfl); (case hr => first | (go_simp; done) | (go_simp; rfl)); intro w8 hw; have HP2 := Aside0.mk ((PAt.setg HP.out HG.out HNE.out hw rfl).rows (by rw [hw]; exact Kd.R_set HU3.out HP.out.box (by decide) 2 _) (show Kd.R (Kd.int .i64) 2 w8 w.heap.size (InR w6.heap.size w8.heap.size) (.slice Ad d.length cd) d from hw ▸ rM (Kd.R_set HD.out HP.out.box (by decide) 2 _) (fun _ hk => ⟨hk.1, by have := hk.2; simpa [World.setCell] using this⟩))); have HP0 := Aside0.mk (show Below w.heap.size w w8 from HP2.out.below); have HN := Aside0.mk (show w6.heap.size ≤ w8.heap.size by rw [hw]; simpa [World.setCell] using HN0.out); clear hw HP HU3 HD b2 fb2 HN0; have HP := HP2; clear HP2))
 obtain ⟨i9, hi9, _, hsz9, _⟩ := info_parts rinfo9
 have hcw := (Kd.R_reads' HP.out.words).2.1
 obtain ⟨ad3, had⟩ : ∃ x : Addr, x = ⟨gw, 3, none⟩ := ⟨_, rfl⟩
 have hcut : ∀ W : World, (Instr.slice 31 (.slice (some ⟨gw, 0, none⟩) ws.length cw) (some (.int .i64 3)) none none).run Tryd.prog W = .ok (.slice (some ad3) (ws.length - 3) (cw - 3)) W := fun W => by
  have e := cut_from (P := Tryd.prog) 31 9 .i64 Tryd.underlying31 hi9 1 hsz9 (some ⟨gw, 0, none⟩) ws.length cw 3 (by omega) (by have := HL4.out; omega) W
  rw [e, had, if_neg (by have := HL4.out; show ¬ cw = 3; omega)]
  rfl
 have HAD := Aside0.mk had
 clear hi9 hsz9 hcw had d1 p0 p1 p2 p0n p1n p2n
 go_wp2
 clear hcut p3
 go_loopg [6, 42] k (fun kq v6 v42 wr => ∃ (j : Int) (bs : List Nat) (ps : List (Int × Int)), v42 = .int .i64 j ∧ Aside0 (impl_ReadRaga.l kq a0 ws u d ps j = some (r1, r2, r3, r4, r5, r6, r7)) ∧ Aside0 (kq ≤ k) ∧ Aside0 (PAt w wr gr g #[.string (rdOf ByteArray.empty ws 0), .slice Au u.length cu, .slice Ad d.length cd, .int .i64 0, .int .i64 0, .slice none 0 0] (.slice (some ⟨gw, 0, none⟩) ws.length cw) ws (.slice Au u.length cu) u (.slice Ad d.length cd) d w4.heap.size w6.heap.size w8.heap.size v6 bs ps))
 case atStart => exact ⟨0, [], [], rfl, H', ⟨Nat.le_refl _⟩, HP⟩
 case round =>
  clear H' HP
  obtain ⟨j, bs, ps, rfl, HA, HK1, HP⟩ := hrel
  cases gk with
  | zero => exact absurd HA.out (by simp [impl_ReadRaga.l])
  | succ k1 =>
   have H := HA.out
   clear HA
   rw [impl_ReadRaga.l] at H
   by_cases c1 : j < ((ws.length - 3 : Nat) : Int)
   ·rw [if_pos c1] at H
    have d1 : decide (j < ((ws.length - 3 : Nat) : Int)) = true := decide_eq_true c1
    by_cases c2 : 0 ≤ j ∧ ps.length < 2000000
    rotate_left
    ·rw [if_neg c2] at H
     cases H
    rw [if_pos c2] at H
    have y0 : wr.cell? (ad3.add j.toNat) = some (.string (rdOf ByteArray.empty ws (3 + j))) := by
     have e := (Kd.R_celln ByteArray.empty HP.out.words (3 + j) (by omega) (by omega)).1
     rw [HAD.out, show (⟨gw, 3, none⟩ : Addr).add j.toNat = ⟨gw, 3 + j.toNat, none⟩ by unfold Addr.add; split <;> simp_all]
     rw [show (3 + j).toNat = 3 + j.toNat by omega] at e
     exact e
    generalize rdOf ByteArray.empty ws (3 + j) = wd at H y0
    have e1 : (0 ≤ j) = True := eq_true c2.1
    have e2 : (j < ((ws.length - 3 : Nat) : Int)) = True := eq_true c1
    have HPL := Aside0.mk c2.2
    clear c1 c2
    by_cases c3 : (wd.size : Int) = 2
    ·rw [if_pos c3] at H
     obtain ⟨⟨a1, a2⟩, A, H⟩ := Option.bind_eq_some_iff.1 H
     obtain ⟨⟨b1, b2⟩, B, H⟩ := Option.bind_eq_some_iff.1 H
     dsimp only at H
     have HA := Aside0.mk A
     have HBB := Aside0.mk B
     have H' := Aside0.mk H
     have d3 : ((wd.size : Int) != 2) = false := bne_eq_false_iff_eq.mpr c3
     have d4 : ((1 : Int) ≤ (wd.size : Int)) = True := eq_true (by omega)
     clear A B H
     go_wp2_with (first | ((with_reducible refine gC (f := 12) rfl ?_); refine goesL_ (some 53) rfl rfl Tryd.func12 (by kernel_rfl) rfl #[.string (wd.extract 0 1)] rfl (by (try simp only [List.map_toArray, List.map_cons, List.map_nil]); first | done | rfl | (simp only [List.length_drop, List.length_take]; rfl)) ?_; (with_reducible refine (impl_ToneNamed.calls (wd.extract 0 1) a1 a2 _ (TabM.below hT HP.out.below) HA.out).mono ?_); rintro e x1 ⟨rfl, ⟨nd, rfl⟩⟩; refine ⟨_, rfl, ?_⟩; have HP3 := Aside0.mk (HP.out.drewN nd); clear HP HA y0; have HP := HP3; clear HP3) | ((with_reducible refine gC (f := 12) rfl ?_); refine goesL_ (some 59) rfl rfl Tryd.func12 (by kernel_rfl) rfl #[.string (wd.extract 1 wd.size)] rfl (by (try simp only [List.map_toArray, List.map_cons, List.map_nil]); first | done | rfl | (simp only [List.length_drop, List.length_take]; rfl)) ?_; (with_reducible refine (impl_ToneNamed.calls (wd.extract 1 wd.size) b1 b2 _ (TabM.below hT HP.out.below) HBB.out).mono ?_); rintro e x2 ⟨rfl, ⟨nd2, rfl⟩⟩; refine ⟨_, rfl, ?_⟩; have HP3 := Aside0.mk (HP.out.drewN2 nd2); clear HP HBB; have HP := HP3; clear HP3) | ((with_reducible refine gate_dst (N := 65) rfl ?_); refine lit_event ?hg (N := 65) ?hd (cs := #[.int .i64 a1, .int .i64 b1]) (t := 2) (n := 2) ?hr ?_; (case hd => rfl); (case hg => rfl); (case hr => first | (go_simp; done) | (go_simp; rfl)); intro nb hg_ w9 hbox hb; have HI := Aside0.mk (show InnP w9 w8.heap.size (bs ++ [nb]) (ps ++ [(a1, b1)]) from (HP.out.onto hb).inn.snoc (p := (a1, b1)) hbox (by rw [hg_]; exact HP.out.size8) (fun c hc => by rw [hg_]; exact HP.out.inn.lt c hc)); have HP3 := Aside0.mk (HP.out.onto hb); clear HP hb hbox hg_; have HP := HP3; clear HP3) | ((with_reducible refine gate_builtin (b := .append) (xs := #[.tmp 62, .tmp 66]) rfl ?_); at_builtin; refine Kd.R_append D2 (w0 := w) w.heap.size rfl (.tmp 62) (.tmp 66) 23 22 (.slice none 0 0) 24 rfl Tryd.underlying23 info22 rfl (by show 0 < 1; omega) (by omega) u6 bs nb [.slice (some ⟨nb, 0, none⟩) 2 2] (fun _ => True) (fun _ => False) rfl rfl rfl (fun _ hk => hk.elim) (fun _ _ => trivial) HP.out.prs HP.out.below (bZ HP.out.below) (by have := HPL.out; have := HP.out.inn.len; omega) ?_; intro v10 w10 ho hb hgr hat; have HP2 := Aside0.mk (PAt.more HP.out hgr hb ho HI.out); clear ho hb hgr hat HP HI))
     go_roundg k1
     case measure => have := HK1.out; omega
     case rel => exact ⟨wrap64 (j + 1), _, _, rfl, H', ⟨by have := HK1.out; omega⟩, HP2⟩
    ·rw [if_neg c3] at H
     obtain ⟨rfl, rfl, rfl, rfl, rfl, rfl, rfl⟩ : (⟨#[]⟩ : ByteArray) = r1 ∧ [] = r2 ∧ [] = r3 ∧ 0 = r4 ∧ 0 = r5 ∧ [] = r6 ∧ false = r7 := by simpa [rg0] using H
     have d3 : ((wd.size : Int) != 2) = true := bne_iff_ne.mpr c3
     have r0 : wr.cell? ⟨gr, 0, none⟩ = some (.string (⟨#[]⟩ : ByteArray)) := (kC HP.out.res 0).trans rfl
     have fr0 := blk_frozen HP.out.res 0
     have r1 : wr.cell? ⟨gr, 1, none⟩ = some (.slice none 0 0) := (kC HP.out.res 1).trans rfl
     have fr1 := blk_frozen HP.out.res 1
     have r2 : wr.cell? ⟨gr, 2, none⟩ = some (.slice none 0 0) := (kC HP.out.res 2).trans rfl
     have fr2 := blk_frozen HP.out.res 2
     have r3 : wr.cell? ⟨gr, 3, none⟩ = some (.int .i64 0) := (kC HP.out.res 3).trans rfl
     have fr3 := blk_frozen HP.out.res 3
     have r4 : wr.cell? ⟨gr, 4, none⟩ = some (.int .i64 0) := (kC HP.out.res 4).trans rfl
     have fr4 := blk_frozen HP.out.res 4
     have r5 : wr.cell? ⟨gr, 5, none⟩ = some (.slice none 0 0) := (kC HP.out.res 5).trans rfl
     have fr5 := blk_frozen HP.out.res 5
     clear H c3
     go_wp2_with ((with_reducible refine gate_store (t := 25) (p := 2) rfl ?_); refine store_event (t := 25) (p := 2) (v := ?vo_zl) (w1 := ((((((wr.setCell ⟨gr, 0, none⟩ (.string (⟨#[]⟩ : ByteArray))).setCell ⟨gr, 1, none⟩ (.slice none 0 0)).setCell ⟨gr, 2, none⟩ (.slice none 0 0)).setCell ⟨gr, 3, none⟩ (.int .i64 0)).setCell ⟨gr, 4, none⟩ (.int .i64 0)).setCell ⟨gr, 5, none⟩ (.slice none 0 0))) ?hg ?ho ?hn ?hr ?_; (case ho => rfl); (case hg => rfl); (case hn => rfl); (case hr => first | (go_simp; done) | (go_simp; rfl)); intro w9 hw; have HZ := Aside0.mk (put6 HP.out.res hw).1; have HBZ := Aside0.mk (below_put6 HP.out.below HGR.out hw); clear hw HP r0 fr0 r1 fr1 r2 fr2 r3 fr3 r4 fr4 r5 fr5)
     refine bodyPost_ret (results_ct rfl _ _ gr 25 #[.string (⟨#[]⟩ : ByteArray), .slice none 0 0, .slice none 0 0, .int .i64 0, .int .i64 0, .slice none 0 0] (0, 0) _ rfl HZ.out hu25 rfl (by kernel_rfl)) rfl ?_
     exact ⟨_, _, _, rfl, Kd.R_nil _ _ _ _ _, Kd.R_nil _ _ _ _ _, Kd.S_nil _ _ _ _ _, HBZ.out⟩
   ·rw [if_neg c1] at H
    have d1 : decide (j < ((ws.length - 3 : Nat) : Int)) = false := decide_eq_false c1
    cases ps with
    | nil => cases H
    | cons p qs =>
     obtain ⟨p1, p2⟩ := p
     rw [impl_ReadRaga.e] at H
     by_cases c2 : qs.length < 2000000
     rotate_left
     ·rw [if_neg c2] at H
      cases H
     rw [if_pos c2] at H
     dsimp only at H
     obtain ⟨xs, hxs⟩ : ∃ xs, xs = qs.map (fun q : Int × Int => [q.1, q.2]) := ⟨_, rfl⟩
     rw [← hxs] at H
     obtain ⟨tt, A, H⟩ := Option.bind_eq_some_iff.1 H
     have HA := Aside0.mk A
     have H' := Aside0.mk H
     obtain ⟨b0, bs', rfl⟩ : ∃ b0 bs', bs = b0 :: bs' := by
      cases bs with
      | nil => exact absurd HP.out.inn.len (by simp)
      | cons b t => exact ⟨b, t, rfl⟩
     obtain ⟨n, hn⟩ : ∃ n, n = (b0 :: bs').length := ⟨_, rfl⟩
     have hn1 : n = bs'.length + 1 := hn
     have hbl : bs'.length < 2000000 := by
      have := HP.out.inn.len
      simp only [List.length_cons] at this
      omega
     obtain ⟨gp, cp, eu, _, _, cpc, hcpc⟩ := Kd.R_form HP.out.prs (by simp)
     rw [← hn] at eu
     subst eu
     have x0 : wr.cell? ⟨gp, 0, none⟩ = some (.slice (some ⟨b0, 0, none⟩) 2 2) := (Kd.R_celln 0 HP.out.prs 0 (by omega) (by omega)).1
     have hb0 := (HP.out.inn.at_ 0 (p1, p2) b0 rfl rfl).1
     have x1 : wr.cell? ⟨b0, 0, none⟩ = some (.int .i64 p1) := (kC hb0 0).trans rfl
     have x2 : wr.cell? ⟨b0, 1, none⟩ = some (.int .i64 p2) := (kC hb0 1).trans rfl
     have hnp : g ≠ gp := fun e => by
      subst e
      rw [HP.out.box] at hcpc
      injection hcpc with hc
      injection hc with _ hc
      exact absurd hc (by decide)
     have hnb : g ≠ b0 := fun e => by
      subst e
      rw [HP.out.box] at hb0
      injection hb0 with hc
      injection hc with _ hc
      exact absurd hc (by decide)
     have hncp : n ≤ cp := (Kd.R_reads' HP.out.prs).2.1
     obtain ⟨i22, hi22, _, hsz22, _⟩ := info_parts info22
     obtain ⟨A8, hA8⟩ : ∃ x, x = (if cp = 1 then some (⟨gp, 0, none⟩ : Addr) else (some (⟨gp, 0, none⟩ : Addr)).map (·.add (1 * 1))) := ⟨_, rfl⟩
     have hcut : ∀ W : World, (Instr.slice 23 (.slice (some ⟨gp, 0, none⟩) n cp) (some (.int .i64 1)) none none).run Tryd.prog W = .ok (.slice A8 bs'.length (cp - 1)) W := fun W => by
      have e := cut_from (P := Tryd.prog) 23 22 .i64 Tryd.underlying23 hi22 1 hsz22 (some ⟨gp, 0, none⟩) n cp 1 (by omega) (by omega) W
      rw [e, hA8, show bs'.length = n - 1 by omega]
      rfl
     have hc0 : D2.C wr A8 bs'.length bs' := by
      have e := Kd.C_drop (k := D2) (m := 1) (c := cp) (Kd.R_reads' HP.out.prs).2.2 (by simp) (by rw [← hn]; exact hncp)
      rw [hA8]
      exact e
     have HC0 := Aside0.mk hc0
     have HXS := Aside0.mk hxs
     have HBL := Aside0.mk hbl
     have HCP := Aside0.mk (show bs'.length ≤ cp - 1 by omega)
     have HNP := Aside0.mk hnp
     have HNB := Aside0.mk hnb
     have q0 : ((0 : Int) < (n : Int)) = True := eq_true (by omega)
     have q1 : (0 < n) = True := eq_true (by omega)
     have q2 : ((1 : Int) ≤ (n : Int)) = True := eq_true (by omega)
     clear A H c1 c2 hb0 hcpc hi22 hsz22 hc0 hxs hbl hn1 hn hncp hA8 hnp hnb
     go_wp2
     have hS0 : SP gp b0 p1 p2 wr.drew := ⟨x0, x1, x2⟩
     have HP2 := Aside0.mk HP.out.drew
     clear HP x0 x1 x2
     have HP := HP2
     clear HP2
     replace HC0 := Aside0.mk (show D2.C wr.drew A8 bs'.length bs' from cB HC0.out (bD (Below.refl _ _)))
     refine start_ (n := 19) (S := SP gp b0 p1 p2) (ds := []) #[F,F,F,F,F,F,F,F,F,F,F,F,F,F,F,F,F,F,F] (by kernel_rfl) rfl rfl hS0 (fun hHeld => ?_)
     clear hS0
     generalize wr.drew = v at HP HC0 hHeld ⊢
     refine pure_ (i := 0) (N := some 69) (v := ?_) (a' := ?_) #[T,F,F,F,F,F,F,F,F,F,F,F,F,F,F,F,F,F,F] rfl rfl (by kernel_rfl) (fun _ _ _ h => h) (Or.inl ⟨by rfl, ?_⟩) ?_ ?_; rotate_left; (· intro z_; go_simp; with_reducible rfl); rotate_left; (· simp only [Act.put, sI, sZ, sS, iW, jW]; rfl)
     refine pure_ (i := 5) (N := some 74) (v := ?_) (a' := ?_) #[T,F,F,F,F,T,F,F,F,F,F,F,F,F,F,F,F,F,F] rfl rfl (by kernel_rfl) (fun _ _ _ h => h) (Or.inl ⟨by rfl, ?_⟩) ?_ ?_; rotate_left; (· intro z_; go_simp; with_reducible rfl); rotate_left; (· simp only [Act.put, sI, sZ, sS, iW, jW]; rfl)
     refine pure_ (i := 10) (N := some 79) (v := ?_) (a' := ?_) #[T,F,F,F,F,T,F,F,F,F,T,F,F,F,F,F,F,F,F] rfl rfl (by kernel_rfl) (fun _ _ _ h => h) (Or.inl ⟨by rfl, ?_⟩) ?_ ?_; rotate_left; (· intro z_; go_simp; with_reducible rfl); rotate_left; (· simp only [Act.put, sI, sZ, sS, iW, jW]; rfl)
     refine pure_ (i := 1) (N := some 70) (v := ?_) (a' := ?_) #[T,T,F,F,F,T,F,F,F,F,T,F,F,F,F,F,F,F,F] rfl rfl (by kernel_rfl) (fun _ _ _ h => h) (Or.inl ⟨by rfl, ?_⟩) ?_ ?_; rotate_left; (· intro z_; go_simp; with_reducible rfl); rotate_left; (· simp only [Act.put, sI, sZ, sS, iW, jW]; rfl)
     refine take_ (i := 2) (N := some 71) (v := ?_) (a' := ?_) #[T,T,T,F,F,T,F,F,F,F,T,F,F,F,F,F,F,F,F] rfl rfl (by kernel_rfl) (fun _ _ _ h => h) (Or.inl ⟨by rfl, ?_⟩) hHeld ?_ ?_; rotate_left; (· rintro z_ ⟨q3_, q4_, q5_⟩; go_simp; with_reducible rfl); rotate_left; (· simp only [Act.put, sI, sZ, sS, iW, jW]; rfl)
     refine pure_ (i := 3) (N := some 72) (v := ?_) (a' := ?_) #[T,T,T,T,F,T,F,F,F,F,T,F,F,F,F,F,F,F,F] rfl rfl (by kernel_rfl) (fun _ _ _ h => h) (Or.inl ⟨by rfl, ?_⟩) ?_ ?_; rotate_left; (· intro z_; go_simp; with_reducible rfl); rotate_left; (· simp only [Act.put, sI, sZ, sS, iW, jW]; rfl)
     refine take_ (i := 4) (N := some 73) (v := ?_) (a' := ?_) #[T,T,T,T,T,T,F,F,F,F,T,F,F,F,F,F,F,F,F] rfl rfl (by kernel_rfl) (fun _ _ _ h => h) (Or.inl ⟨by rfl, ?_⟩) hHeld ?_ ?_; rotate_left; (· rintro z_ ⟨q3_, q4_, q5_⟩; go_simp; with_reducible rfl); rotate_left; (· simp only [Act.put, sI, sZ, sS, iW, jW]; rfl)
     refine pure_ (i := 6) (N := some 75) (v := ?_) (a' := ?_) #[T,T,T,T,T,T,T,F,F,F,T,F,F,F,F,F,F,F,F] rfl rfl (by kernel_rfl) (fun _ _ _ h => h) (Or.inl ⟨by rfl, ?_⟩) ?_ ?_; rotate_left; (· intro z_; go_simp; with_reducible rfl); rotate_left; (· simp only [Act.put, sI, sZ, sS, iW, jW]; rfl)
     refine take_ (i := 7) (N := some 76) (v := ?_) (a' := ?_) #[T,T,T,T,T,T,T,T,F,F,T,F,F,F,F,F,F,F,F] rfl rfl (by kernel_rfl) (fun _ _ _ h => h) (Or.inl ⟨by rfl, ?_⟩) hHeld ?_ ?_; rotate_left; (· rintro z_ ⟨q3_, q4_, q5_⟩; go_simp; with_reducible rfl); rotate_left; (· simp only [Act.put, sI, sZ, sS, iW, jW]; rfl)
     refine pure_ (i := 8) (N := some 77) (v := ?_) (a' := ?_) #[T,T,T,T,T,T,T,T,T,F,T,F,F,F,F,F,F,F,F] rfl rfl (by kernel_rfl) (fun _ _ _ h => h) (Or.inl ⟨by rfl, ?_⟩) ?_ ?_; rotate_left; (· intro z_; go_simp; with_reducible rfl); rotate_left; (· simp only [Act.put, sI, sZ, sS, iW, jW]; rfl)
     refine take_ (i := 9) (N := some 78) (v := ?_) (a' := ?_) #[T,T,T,T,T,T,T,T,T,T,T,F,F,F,F,F,F,F,F] rfl rfl (by kernel_rfl) (fun _ _ _ h => h) (Or.inl ⟨by rfl, ?_⟩) hHeld ?_ ?_; rotate_left; (· rintro z_ ⟨q3_, q4_, q5_⟩; go_simp; with_reducible rfl); rotate_left; (· simp only [Act.put, sI, sZ, sS, iW, jW]; rfl)
     refine pure_ (i := 11) (N := some 80) (v := ?_) (a' := ?_) #[T,T,T,T,T,T,T,T,T,T,T,T,F,F,F,F,F,F,F] rfl rfl (by kernel_rfl) (fun _ _ _ h => h) (Or.inl ⟨by rfl, ?_⟩) ?_ ?_; rotate_left; (· intro z_; go_simp; with_reducible rfl); rotate_left; (· simp only [Act.put, sI, sZ, sS, iW, jW]; rfl)
     refine pure_ (i := 13) (N := some 82) (v := ?_) (a' := ?_) #[T,T,T,T,T,T,T,T,T,T,T,T,F,T,F,F,F,F,F] rfl rfl (by kernel_rfl) (fun _ _ _ h => h) (Or.inl ⟨by rfl, ?_⟩) ?_ ?_; rotate_left; (· intro z_; go_simp; with_reducible rfl); rotate_left; (· simp only [Act.put, sI, sZ, sS, iW, jW]; rfl)
     refine one_ (i := 12) (N := some 81) #[T,T,T,T,T,T,T,T,T,T,T,T,T,T,F,F,F,F,F] rfl rfl (by kernel_rfl) (by decide) (fun K hK => ?_)
     refine goes_ Tryd.func13 (by kernel_rfl) rfl #[.slice A8 bs'.length (cp - 1)] (by rfl) rfl rfl (by (try simp only [List.map_toArray, List.map_cons, List.map_nil]); first | done | rfl | (simp only [List.length_drop, List.length_take]; rfl)) ?_
     with_reducible refine (cloneP.calls A8 (cp - 1) bs' bs' v HC0.out HCP.out (by unfold cloneP.f; rw [if_pos (by have := HBL.out; omega)])).mono ?_
     rintro e_ v1 ⟨v0, rfl, h0, hb⟩
     refine ⟨_, rfl, ?_⟩
     have HP2 := Aside0.mk (HP.out.onto hb)
     have hS := pairs_S h0 HP.out.size8 HP2.out.inn.drop1
     rw [show (((p1, p2) :: qs).drop 1).map (fun q : Int × Int => [q.1, q.2]) = xs from HXS.out.symm] at hS
     obtain ⟨A0, cc0, rfl⟩ := Kd.S_slice hS
     have HS := Aside0.mk hS
     have hH1 := hHeld.below hb
     clear HP hS h0 HC0 hHeld hcut hb
     have HP := HP2
     clear HP2
     refine hK.out _ _ hH1 (fun hHeld => ?_)
     clear hK K hH1
     refine norm_ (a' := ?_) ?_ ?_; rotate_left; (· show Act.put _ (some 81) _ = _; simp only [Act.put, sI, sZ, sS, iW, jW]; rfl)
     have y_ : v1.cell? ⟨g, 3, none⟩ = some (.int .i64 0) := (kC HP.out.box 3).trans rfl
     have fy_ := blk_frozen HP.out.box 3
     refine one_ (i := 14) (N := none) #[T,T,T,T,T,T,T,T,T,T,T,T,T,T,T,F,F,F,F] rfl rfl (by kernel_rfl) (by decide) (fun K hK => ?_)
     refine skip_ (w1 := v1.setCell ⟨g, 3, none⟩ (.int .i64 p1)) (by rfl) rfl (by first | (go_simp; done) | (go_simp; rfl)) ?_
     have HP2 := Aside0.mk (PAt.setg (x := .int .i64 p1) (i := 3) HP.out HG.out HNE.out rfl rfl)
     have HS2 := Aside0.mk (Kd.S_set HS.out HP.out.box (by decide) 3 (.int .i64 p1))
     have hH1 := hHeld.set (i := 3) (x := .int .i64 p1) HNP.out HNB.out
     clear HP HS hHeld y_ fy_
     have HP := HP2
     have HS := HS2
     clear HP2 HS2
     generalize v1.setCell ⟨g, 3, none⟩ (.int .i64 p1) = v2 at HP HS hH1 ⊢
     refine hK.out _ _ hH1 (fun hHeld => ?_)
     clear hK K hH1
     refine pure_ (i := 15) (N := some 83) (v := ?_) (a' := ?_) #[T,T,T,T,T,T,T,T,T,T,T,T,T,T,T,T,F,F,F] rfl rfl (by kernel_rfl) (fun _ _ _ h => h) (Or.inl ⟨by rfl, ?_⟩) ?_ ?_; rotate_left; (· intro z_; go_simp; with_reducible rfl); rotate_left; (· simp only [Act.put, sI, sZ, sS, iW, jW]; rfl)
     have y_ : v2.cell? ⟨g, 4, none⟩ = some (.int .i64 0) := (kC HP.out.box 4).trans rfl
     have fy_ := blk_frozen HP.out.box 4
     refine one_ (i := 16) (N := none) #[T,T,T,T,T,T,T,T,T,T,T,T,T,T,T,T,T,F,F] rfl rfl (by kernel_rfl) (by decide) (fun K hK => ?_)
     refine skip_ (w1 := v2.setCell ⟨g, 4, none⟩ (.int .i64 p2)) (by rfl) rfl (by first | (go_simp; done) | (go_simp; rfl)) ?_
     have HP2 := Aside0.mk (PAt.setg (x := .int .i64 p2) (i := 4) HP.out HG.out HNE.out rfl rfl)
     have HS2 := Aside0.mk (Kd.S_set HS.out HP.out.box (by decide) 4 (.int .i64 p2))
     have hH1 := hHeld.set (i := 4) (x := .int .i64 p2) HNP.out HNB.out
     clear HP HS hHeld y_ fy_
     have HP := HP2
     have HS := HS2
     clear HP2 HS2
     generalize v2.setCell ⟨g, 4, none⟩ (.int .i64 p2) = v3 at HP HS hH1 ⊢
     refine hK.out _ _ hH1 (fun hHeld => ?_)
     clear hK K hH1
     refine pure_ (i := 17) (N := some 84) (v := ?_) (a' := ?_) #[T,T,T,T,T,T,T,T,T,T,T,T,T,T,T,T,T,T,F] rfl rfl (by kernel_rfl) (fun _ _ _ h => h) (Or.inl ⟨by rfl, ?_⟩) ?_ ?_; rotate_left; (· intro z_; go_simp; with_reducible rfl); rotate_left; (· simp only [Act.put, sI, sZ, sS, iW, jW]; rfl)
     have y_ : v3.cell? ⟨g, 5, none⟩ = some (.slice none 0 0) := (kC HP.out.box 5).trans rfl
     have fy_ := blk_frozen HP.out.box 5
     refine one_ (i := 18) (N := none) #[T,T,T,T,T,T,T,T,T,T,T,T,T,T,T,T,T,T,T] rfl rfl (by kernel_rfl) (by decide) (fun K hK => ?_)
     refine skip_ (w1 := v3.setCell ⟨g, 5, none⟩ (.slice A0 xs.length cc0)) (by rfl) rfl (by first | (go_simp; done) | (go_simp; rfl)) ?_
     have HP2 := Aside0.mk (PAt.setg (x := .slice A0 xs.length cc0) (i := 5) HP.out HG.out HNE.out rfl rfl)
     have HS2 := Aside0.mk (Kd.S_set HS.out HP.out.box (by decide) 5 (.slice A0 xs.length cc0))
     have hH1 := hHeld.set (i := 5) (x := .slice A0 xs.length cc0) HNP.out HNB.out
     clear HP HS hHeld y_ fy_
     have HP := HP2
     have HS := HS2
     clear HP2 HS2
     generalize v3.setCell ⟨g, 5, none⟩ (.slice A0 xs.length cc0) = v4 at HP HS hH1 ⊢
     refine hK.out _ _ hH1 (fun hHeld => ?_)
     clear hK K hH1
     refine done_ (by kernel_rfl) ?_
     clear hHeld HNP HNB HXS HBL HCP
     have cr0 : v4.cell? ⟨gr, 0, none⟩ = some (.string (⟨#[]⟩ : ByteArray)) := (kC HP.out.res 0).trans rfl
     have fcr0 := blk_frozen HP.out.res 0
     have cr1 : v4.cell? ⟨gr, 1, none⟩ = some (.slice none 0 0) := (kC HP.out.res 1).trans rfl
     have fcr1 := blk_frozen HP.out.res 1
     have cr2 : v4.cell? ⟨gr, 2, none⟩ = some (.slice none 0 0) := (kC HP.out.res 2).trans rfl
     have fcr2 := blk_frozen HP.out.res 2
     have cr3 : v4.cell? ⟨gr, 3, none⟩ = some (.int .i64 0) := (kC HP.out.res 3).trans rfl
     have fcr3 := blk_frozen HP.out.res 3
     have cr4 : v4.cell? ⟨gr, 4, none⟩ = some (.int .i64 0) := (kC HP.out.res 4).trans rfl
     have fcr4 := blk_frozen HP.out.res 4
     have cr5 : v4.cell? ⟨gr, 5, none⟩ = some (.slice none 0 0) := (kC HP.out.res 5).trans rfl
     have fcr5 := blk_frozen HP.out.res 5
     have cg0 : v4.cell? ⟨g, 0, none⟩ = some (.string (rdOf ByteArray.empty ws 0)) := (kC HP.out.box 0).trans rfl
     have cg1 : v4.cell? ⟨g, 1, none⟩ = some (.slice Au u.length cu) := (kC HP.out.box 1).trans rfl
     have cg2 : v4.cell? ⟨g, 2, none⟩ = some (.slice Ad d.length cd) := (kC HP.out.box 2).trans rfl
     have cg3 : v4.cell? ⟨g, 3, none⟩ = some (.int .i64 p1) := (kC HP.out.box 3).trans rfl
     have cg4 : v4.cell? ⟨g, 4, none⟩ = some (.int .i64 p2) := (kC HP.out.box 4).trans rfl
     have cg5 : v4.cell? ⟨g, 5, none⟩ = some (.slice A0 xs.length cc0) := (kC HP.out.box 5).trans rfl
     by_cases ct : tt.toList = a0.toList
     ·have H := H'.out
      rw [if_pos ct] at H
      simp only [Option.some.injEq, Prod.mk.injEq] at H
      obtain ⟨rfl, rfl, rfl, rfl, rfl, rfl, rfl⟩ := H
      have d3 : (tt.toList == a0.toList) = true := beq_iff_eq.mpr ct
      clear H' ct
      go_wp2_with (first | ((with_reducible refine gC (f := 14) rfl ?_); refine goesL_ (some 86) rfl rfl Tryd.func14 (by kernel_rfl) rfl #[.agg #[.string (rdOf ByteArray.empty ws 0), .slice Au u.length cu, .slice Ad d.length cd, .int .i64 p1, .int .i64 p2, .slice A0 xs.length cc0]] rfl (by (try simp only [List.map_toArray, List.map_cons, List.map_nil]); first | done | rfl | (simp only [List.length_drop, List.length_take]; rfl)) ?_; (with_reducible refine (impl_RagaText.calls k1 (rdOf ByteArray.empty ws 0) Au cu u Ad cd d p1 p2 A0 cc0 xs tt _ (Kd.R_reads' HP.out.up).2.2 (Kd.R_reads' HP.out.up).2.1 (Kd.R_reads' HP.out.dn).2.2 (Kd.R_reads' HP.out.dn).2.1 (Kd.S_reads' HS.out).2.2 (Kd.S_reads' HS.out).2.1 HA.out).mono ?_); rintro e y1 ⟨rfl, hb⟩; refine ⟨_, rfl, ?_⟩; have HP2 := Aside0.mk (HP.out.onto hb); have HS2 := Aside0.mk (Kd.S_below HS.out hb); clear HP HS hb HA cr0 fcr0 cr1 fcr1 cr2 fcr2 cr3 fcr3 cr4 fcr4 cr5 fcr5 cg0 cg1 cg2 cg3 cg4 cg5; have HP := HP2; have HS := HS2; clear HP2 HS2; have cr0 : y1.cell? ⟨gr, 0, none⟩ = some (.string (⟨#[]⟩ : ByteArray)) := (kC HP.out.res 0).trans rfl; have fcr0 := blk_frozen HP.out.res 0; have cr1 : y1.cell? ⟨gr, 1, none⟩ = some (.slice none 0 0) := (kC HP.out.res 1).trans rfl; have fcr1 := blk_frozen HP.out.res 1; have cr2 : y1.cell? ⟨gr, 2, none⟩ = some (.slice none 0 0) := (kC HP.out.res 2).trans rfl; have fcr2 := blk_frozen HP.out.res 2; have cr3 : y1.cell? ⟨gr, 3, none⟩ = some (.int .i64 0) := (kC HP.out.res 3).trans rfl; have fcr3 := blk_frozen HP.out.res 3; have cr4 : y1.cell? ⟨gr, 4, none⟩ = some (.int .i64 0) := (kC HP.out.res 4).trans rfl; have fcr4 := blk_frozen HP.out.res 4; have cr5 : y1.cell? ⟨gr, 5, none⟩ = some (.slice none 0 0) := (kC HP.out.res 5).trans rfl; have fcr5 := blk_frozen HP.out.res 5; have cg0 : y1.cell? ⟨g, 0, none⟩ = some (.string (rdOf ByteArray.empty ws 0)) := (kC HP.out.box 0).trans rfl; have cg1 : y1.cell? ⟨g, 1, none⟩ = some (.slice Au u.length cu) := (kC HP.out.box 1).trans rfl; have cg2 : y1.cell? ⟨g, 2, none⟩ = some (.slice Ad d.length cd) := (kC HP.out.box 2).trans rfl; have cg3 : y1.cell? ⟨g, 3, none⟩ = some (.int .i64 p1) := (kC HP.out.box 3).trans rfl; have cg4 : y1.cell? ⟨g, 4, none⟩ = some (.int .i64 p2) := (kC HP.out.box 4).trans rfl; have cg5 : y1.cell? ⟨g, 5, none⟩ = some (.slice A0 xs.length cc0) := (kC HP.out.box 5).trans rfl) | ((with_reducible refine gate_store (t := 25) (p := 2) rfl ?_); refine store_event (t := 25) (p := 2) (v := ?vo_wa) (w1 := ((((((y1.setCell ⟨gr, 0, none⟩ (.string (rdOf ByteArray.empty ws 0))).setCell ⟨gr, 1, none⟩ (.slice Au u.length cu)).setCell ⟨gr, 2, none⟩ (.slice Ad d.length cd)).setCell ⟨gr, 3, none⟩ (.int .i64 p1)).setCell ⟨gr, 4, none⟩ (.int .i64 p2)).setCell ⟨gr, 5, none⟩ (.slice A0 xs.length cc0))) ?hg ?ho ?hn ?hr ?_; (case ho => rfl); (case hg => rfl); (case hn => rfl); (case hr => first | (go_simp; done) | (go_simp; rfl)); intro y2 hw; have HZ := Aside0.mk (put6 HP.out.res hw).1; have HBZ := Aside0.mk (below_put6 HP.out.below HGR.out hw); have HUZ := Aside0.mk (r_put6 HP.out.up HP.out.res (by decide) hw); have HDZ := Aside0.mk (r_put6 HP.out.dn HP.out.res (by decide) hw); have HSZ := Aside0.mk (s_put6 HS.out HP.out.res (by decide) hw); clear hw HS cr0 fcr0 cr1 fcr1 cr2 fcr2 cr3 fcr3 cr4 fcr4 cr5 fcr5))
      refine bodyPost_ret (results_ct rfl _ _ gr 25 #[.string (rdOf ByteArray.empty ws 0), .slice Au u.length cu, .slice Ad d.length cd, .int .i64 p1, .int .i64 p2, .slice A0 xs.length cc0] (0, 0) _ rfl HZ.out hu25 rfl (by kernel_rfl)) rfl ?_
      exact ⟨_, _, _, rfl, rM HUZ.out (fun k_ hk he => by have h1 := HP.out.dn.1 k_ he.symm; have h2 := hk.2; have h3 := h1.1; omega), rM HDZ.out (fun k_ hk he => by have h1 := HP.out.up.1 k_ he.symm; have h2 := hk.1; have h3 := h1.2; omega), Kd.S_mono (Kd.S_lower HSZ.out (Nat.le_trans (bZ HP0.out) (by omega))) (fun k_ hk => ⟨fun he => by have h1 := HP.out.up.1 k_ he.symm; have h3 := h1.2; have := HN.out; omega, fun he => by have h1 := HP.out.dn.1 k_ he.symm; have h3 := h1.2; omega⟩), HBZ.out⟩
     ·have H := H'.out
      rw [if_neg ct] at H
      obtain ⟨rfl, rfl, rfl, rfl, rfl, rfl, rfl⟩ : (⟨#[]⟩ : ByteArray) = r1 ∧ [] = r2 ∧ [] = r3 ∧ 0 = r4 ∧ 0 = r5 ∧ [] = r6 ∧ false = r7 := by simpa [rg0] using H
      have d3 : (tt.toList == a0.toList) = false := beq_eq_false_iff_ne.mpr ct
      clear H' ct H
      go_wp2_with (first | ((with_reducible refine gC (f := 14) rfl ?_); refine goesL_ (some 86) rfl rfl Tryd.func14 (by kernel_rfl) rfl #[.agg #[.string (rdOf ByteArray.empty ws 0), .slice Au u.length cu, .slice Ad d.length cd, .int .i64 p1, .int .i64 p2, .slice A0 xs.length cc0]] rfl (by (try simp only [List.map_toArray, List.map_cons, List.map_nil]); first | done | rfl | (simp only [List.length_drop, List.length_take]; rfl)) ?_; (with_reducible refine (impl_RagaText.calls k1 (rdOf ByteArray.empty ws 0) Au cu u Ad cd d p1 p2 A0 cc0 xs tt _ (Kd.R_reads' HP.out.up).2.2 (Kd.R_reads' HP.out.up).2.1 (Kd.R_reads' HP.out.dn).2.2 (Kd.R_reads' HP.out.dn).2.1 (Kd.S_reads' HS.out).2.2 (Kd.S_reads' HS.out).2.1 HA.out).mono ?_); rintro e y1 ⟨rfl, hb⟩; refine ⟨_, rfl, ?_⟩; have HP2 := Aside0.mk (HP.out.onto hb); have HS2 := Aside0.mk (Kd.S_below HS.out hb); clear HP HS hb HA cr0 fcr0 cr1 fcr1 cr2 fcr2 cr3 fcr3 cr4 fcr4 cr5 fcr5 cg0 cg1 cg2 cg3 cg4 cg5; have HP := HP2; have HS := HS2; clear HP2 HS2; have cr0 : y1.cell? ⟨gr, 0, none⟩ = some (.string (⟨#[]⟩ : ByteArray)) := (kC HP.out.res 0).trans rfl; have fcr0 := blk_frozen HP.out.res 0; have cr1 : y1.cell? ⟨gr, 1, none⟩ = some (.slice none 0 0) := (kC HP.out.res 1).trans rfl; have fcr1 := blk_frozen HP.out.res 1; have cr2 : y1.cell? ⟨gr, 2, none⟩ = some (.slice none 0 0) := (kC HP.out.res 2).trans rfl; have fcr2 := blk_frozen HP.out.res 2; have cr3 : y1.cell? ⟨gr, 3, none⟩ = some (.int .i64 0) := (kC HP.out.res 3).trans rfl; have fcr3 := blk_frozen HP.out.res 3; have cr4 : y1.cell? ⟨gr, 4, none⟩ = some (.int .i64 0) := (kC HP.out.res 4).trans rfl; have fcr4 := blk_frozen HP.out.res 4; have cr5 : y1.cell? ⟨gr, 5, none⟩ = some (.slice none 0 0) := (kC HP.out.res 5).trans rfl; have fcr5 := blk_frozen HP.out.res 5) | ((with_reducible refine gate_store (t := 25) (p := 2) rfl ?_); refine store_event (t := 25) (p := 2) (v := ?vo_wb) (w1 := ((((((y1.setCell ⟨gr, 0, none⟩ (.string (⟨#[]⟩ : ByteArray))).setCell ⟨gr, 1, none⟩ (.slice none 0 0)).setCell ⟨gr, 2, none⟩ (.slice none 0 0)).setCell ⟨gr, 3, none⟩ (.int .i64 0)).setCell ⟨gr, 4, none⟩ (.int .i64 0)).setCell ⟨gr, 5, none⟩ (.slice none 0 0))) ?hg ?ho ?hn ?hr ?_; (case ho => rfl); (case hg => rfl); (case hn => rfl); (case hr => first | (go_simp; done) | (go_simp; rfl)); intro y2 hw; have HZ := Aside0.mk (put6 HP.out.res hw).1; have HBZ := Aside0.mk (below_put6 HP.out.below HGR.out hw); have HUZ := Aside0.mk (r_put6 HP.out.up HP.out.res (by decide) hw); have HDZ := Aside0.mk (r_put6 HP.out.dn HP.out.res (by decide) hw); have HSZ := Aside0.mk (s_put6 HS.out HP.out.res (by decide) hw); clear hw HS cr0 fcr0 cr1 fcr1 cr2 fcr2 cr3 fcr3 cr4 fcr4 cr5 fcr5))
      refine bodyPost_ret (results_ct rfl _ _ gr 25 #[.string (⟨#[]⟩ : ByteArray), .slice none 0 0, .slice none 0 0, .int .i64 0, .int .i64 0, .slice none 0 0] (0, 0) _ rfl HZ.out hu25 rfl (by kernel_rfl)) rfl ?_
      exact ⟨_, _, _, rfl, Kd.R_nil _ _ _ _ _, Kd.R_nil _ _ _ _ _, Kd.S_nil _ _ _ _ _, HBZ.out⟩

end Go.Proofs.YtbebcnnibjkclaaDoor.R
-- shrunk
-- tight
