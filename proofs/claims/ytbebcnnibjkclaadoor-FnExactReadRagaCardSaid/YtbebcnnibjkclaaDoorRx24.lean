/- What functions of the given program compute, as plain Lean functions, and that the code comes to just that; by a program of this session over the kit's print. No condition. -/
import Derived.Test.YtbebcnnibjkclaaDoorRx0
namespace Go.Proofs.YtbebcnnibjkclaaDoor.R
open Go.RowKit Go.Proofs.YtbebcnnibjkclaaDoorW.PrintWords Go.Proofs.YtbebcnnibjkclaaDoorW.PrintLast Go.Proofs.YtbebcnnibjkclaaDoorW.PrintMore
open Go.Proofs.YtbebcnnibjkclaaDoorW.PrintWords renaming below_alloc → bA, below_set → bS, blk_alloc → kA, blk_cell → kC, gate_callee → gC
open Go.Proofs.YtbebcnnibjkclaaDoorW.PrintWords.Kd renaming C_alloc → cA, C_drewN → cN, C_drew → cD
attribute [local go_sem] max2_int min2_int max_two min_two max_three min_three max_four min_four   -- for this text's walks alone
set_option linter.unusedVariables false
set_option linter.unusedSimpArgs false

/-! ### laws_markInt64SS: function 18 -/
def mkA : Nat → Int → Int
 | 0, a => a
 | n + 1, a => mkA n (wrap64 (a + 1))
def mkS : List (List Int) → Int → Int
 | [], a => a
 | x :: l, a => mkS l (mkA x.length a)
def WRow (w : World) (base : Nat) (P : Nat → Prop) (v : Value) (n : Nat) : Prop := ∃ (A : Option Addr) (cap : Nat), v = .slice A n cap ∧ n ≤ maxLen ∧ (n = 0 ∨ ∃ (g : Nat) (cur : Array Value), A = some ⟨g, 0, none⟩ ∧ base ≤ g ∧ P g ∧ w.heap[g]? = some (.cells cur 2 (0, 0)) ∧ n ≤ cur.size)
theorem WRow.of_R {w : World} {base : Nat} {P : Nat → Prop} {v : Value} {xs : List Int} (h : Kd.R (Kd.int .i64) 2 w base P v xs) : WRow w base P v xs.length := by
 obtain ⟨h0, inner, ⟨_, h1⟩, _⟩ := h
 rcases h1 with ⟨rfl, hn⟩ | ⟨g, cap, cur, rfl, hg, hh, hn, hc, hs, _⟩
 ·rw [hn]
  exact ⟨none, 0, rfl, Nat.zero_le _, .inl rfl⟩
 ·exact ⟨_, cap, rfl, by omega, .inr ⟨g, cur, rfl, hg, h0 g rfl, hh, by rw [hs]; simp [Kd.int, Kd.scalar]; omega⟩⟩
theorem setCell_blk {w : World} {g : Nat} {cur : Array Value} {t : TypeId} (h : w.heap[g]? = some (.cells cur t (0, 0))) (i : Nat) (v : Value) : (w.setCell ⟨g, i, none⟩ v).heap[g]? = some (.cells (cur.setIfInBounds i v) t (0, 0)) := by
 simp [World.setCell, Array.getElem?_modify, h]
def SzK (w W : World) : Prop := ∀ (g : Nat) (cur : Array Value), w.heap[g]? = some (.cells cur 2 (0, 0)) → ∃ cur' : Array Value, W.heap[g]? = some (.cells cur' 2 (0, 0)) ∧ cur'.size = cur.size
theorem SzK.refl (w : World) : SzK w w := fun _ cur h => ⟨cur, h, rfl⟩
theorem SzK.trans {w W W2 : World} (h : SzK w W) (h2 : SzK W W2) : SzK w W2 := fun g cur e => by
 obtain ⟨c1, e1, s1⟩ := h g cur e
 obtain ⟨c2, e2, s2⟩ := h2 g c1 e1
 exact ⟨c2, e2, s2.trans s1⟩
theorem SzK.set {w : World} {g : Nat} {cur : Array Value} (hg : w.heap[g]? = some (.cells cur 2 (0, 0))) (i : Nat) (v : Value) : SzK w (w.setCell ⟨g, i, none⟩ v) := fun k c e => by
 by_cases hk : k = g
 ·subst hk
  rw [hg] at e
  cases e
  exact ⟨_, setCell_blk hg i v, by simp⟩
 ·exact ⟨c, (Below.heap_setCell w ⟨g, i, none⟩ v k hk).trans e, rfl⟩
theorem SzK.drew {w W : World} (h : SzK w W) (n : Nat) : SzK w (W.drewN n) := h
theorem WRow.szk {w W : World} {base : Nat} {P : Nat → Prop} {v : Value} {n : Nat} (h : WRow w base P v n) (hs : SzK w W) : WRow W base P v n := by
 obtain ⟨A, cap, rfl, hm, h⟩ := h
 refine ⟨A, cap, rfl, hm, ?_⟩
 rcases h with h | ⟨g, cur, e, hb, hp, hh, hn⟩
 ·exact .inl h
 ·obtain ⟨c, e2, e3⟩ := hs g cur hh
  exact .inr ⟨g, c, e, hb, hp, e2, by omega⟩
theorem kept_set {w W : World} {S : Nat → Prop} {g : Nat} (h : Kept w W S) (hg : S g) (i : Nat) (v : Value) : Kept w (W.setCell ⟨g, i, none⟩ v) S := ⟨by have := h.1; simpa [World.setCell] using this, fun k hk hs => (Below.heap_setCell W ⟨g, i, none⟩ v k (fun e => hs (by rw [e]; exact hg))).trans (h.2 k hk hs)⟩
set_option maxHeartbeats 1600000 in
set_option maxRecDepth 100000 in
theorem mk31 (A : Option Addr) (n cap : Nat) (a : Int) (P : Nat → Prop) (w0 w : World) (hB : Below w0.heap.size w0 w) (hr : WRow w w0.heap.size P (.slice A n cap) n) :
  Calls Tryd.prog 17 #[.slice A n cap, .int .i64 a] w fun e w' => e = .returned (.int .i64 (mkA n a)) ∧ Below w0.heap.size w0 w' ∧ Kept w w' (fun k => 0 < n ∧ some k = (Value.slice A n cap).ownBlock) ∧ SzK w w' := by
 have HBB := Aside0.mk hB
 have HR := Aside0.mk hr
 clear hB hr
 go_enter Tryd.func17, Tryd.ntmps17
 go_wp2
 go_loopw [1, 5] (fun v1 v5 wr => ∃ (i : Nat) (a' : Int), v1 = .int .i64 a' ∧ v5 = .int .i64 (i : Int) ∧ i ≤ n ∧ Aside0 (mkA (n - i) a' = mkA n a) ∧ Aside0 (Below w0.heap.size w0 wr) ∧ Aside0 (Kept w wr (fun k => 0 < n ∧ some k = (Value.slice A n cap).ownBlock)) ∧ Aside0 (SzK w wr)) (fun _ v5 _ => n - (intOf v5).toNat)
 case atStart => exact ⟨0, a, rfl, rfl, Nat.zero_le _, ⟨rfl⟩, HBB, ⟨Kept.refl _ _⟩, ⟨SzK.refl _⟩⟩
 case round =>
  obtain ⟨i, a', rfl, rfl, hi, HA, HB, HK, HS⟩ := hrel
  obtain ⟨A', cap', e, hm, hg⟩ := HR.out.szk HS.out
  cases e
  have hm2 : n ≤ 9223372036854775807 := hm
  by_cases hlt : i < n
  ·rcases hg with hg | ⟨g, cur, rfl, hb, hp, hh, hn⟩
   ·omega
   ·have hx : wr.cell? ⟨g, i, none⟩ = some cur[i] := (kC hh i).trans (Array.getElem?_eq_getElem (by omega))
    have hf := blk_frozen hh i
    have HH := Aside0.mk hh
    have HBG := Aside0.mk hb
    clear hh hm hb
    go_wp2
    go_roundw
    case rel => exact ⟨i + 1, wrap64 (a' + 1), rfl, by go_num, by omega, ⟨by rw [← HA.out, show n - i = (n - (i + 1)) + 1 by omega, mkA]⟩, ⟨bS HB.out HBG.out⟩, ⟨kept_set HK.out ⟨by omega, rfl⟩ _ _⟩, ⟨HS.out.trans (SzK.set HH.out _ _)⟩⟩
    case measure => simp [intOf]; omega
  ·go_wp2
   go_ret
   have e0 : mkA (n - i) a' = a' := by rw [show n - i = 0 by omega]; rfl
   exact ⟨by rw [show mkA n a = a' from HA.out.symm.trans e0]; rfl, HB.out, HK.out, HS.out⟩
theorem Kept.via {w W W2 : World} {S S2 : Nat → Prop} (h : Kept w W S) (h2 : Kept W W2 S2) (hs : ∀ k, S2 k → S k) : Kept w W2 S := ⟨Nat.le_trans h.1 h2.1, fun k hk hn => (h2.2 k (Nat.lt_of_lt_of_le hk h.1) (fun e => hn (hs k e))).trans (h.2 k hk hn)⟩
/-- The rows inside: by their places alone. -/
def Inner (w : World) (base : Nat) (P : Nat → Prop) (cells : List Value) (l : List (List Int)) : Prop := cells.length = l.length ∧ ∀ (j : Nat) (x : List Int) (v : Value), l[j]? = some x → cells[j]? = some v → WRow w base P v x.length
theorem Inner.szk {w W : World} {base : Nat} {P : Nat → Prop} {cells : List Value} {l : List (List Int)} (h : Inner w base P cells l) (hs : SzK w W) : Inner W base P cells l := ⟨h.1, fun j x v e1 e2 => (h.2 j x v e1 e2).szk hs⟩
theorem rows_open {w : World} {base : Nat} {P : Nat → Prop} {u : Value} {l : List (List Int)} (h : Kd.R (Kd.slice 2 (Kd.int .i64)) 22 w base P u l) : ∃ (A : Option Addr) (cap : Nat) (cells : List Value), u = .slice A l.length cap ∧ l.length ≤ maxLen ∧ (l.length = 0 ∨ ∃ (G : Nat) (cur : Array Value), A = some ⟨G, 0, none⟩ ∧ w.heap[G]? = some (.cells cur 22 (0, 0)) ∧ (∀ j, j < l.length → cur[j]? = cells[j]?) ∧ G < w.heap.size) ∧ Inner w base (fun k => P k ∧ some k ≠ u.ownBlock) cells l := by
 obtain ⟨h0, inner, ⟨hl, h1⟩, hr⟩ := h
 have hin : Inner w base (fun k => P k ∧ some k ≠ u.ownBlock) inner l := by
  refine ⟨by rw [hl]; simp [Kd.slice], fun j x v e1 e2 => ?_⟩
  have q := hr.2 j x e1
  have hs : (inner.drop (j * 1)).take 1 = [v] := by
   rw [Nat.mul_one]
   have hj : j < inner.length := (List.getElem?_eq_some_iff.1 e2).1
   rw [List.drop_eq_getElem_cons hj]
   simp [(List.getElem?_eq_some_iff.1 e2).2]
  rw [show (Kd.slice 2 (Kd.int .i64)).sz = 1 from rfl, hs] at q
  obtain ⟨v2, e, hR⟩ := q
  cases e
  exact WRow.of_R hR
 rcases h1 with ⟨rfl, hn⟩ | ⟨g, cap, cur, rfl, hg, hh, hn, hc, hs, ht⟩
 ·refine ⟨none, 0, inner, by rw [hn], by rw [hn]; exact Nat.zero_le _, .inl hn, hin⟩
 ·refine ⟨_, cap, inner, rfl, by omega, .inr ⟨g, cur, rfl, hh, fun j hj => ?_, (Array.getElem?_eq_some_iff.1 hh).1⟩, hin⟩
  rw [← ht, show (Kd.slice 2 (Kd.int .i64)).sz = 1 from rfl, Nat.mul_one, List.getElem?_take, if_pos hj, Array.getElem?_toList]
def Outer (w : World) (A : Option Addr) (n : Nat) (cells : List Value) : Prop := n = 0 ∨ ∃ (G : Nat) (cur : Array Value), A = some ⟨G, 0, none⟩ ∧ w.heap[G]? = some (.cells cur 22 (0, 0)) ∧ (∀ j, j < n → cur[j]? = cells[j]?) ∧ G < w.heap.size
theorem Outer.kept {w W : World} {A : Option Addr} {n : Nat} {cells : List Value} (h : Outer w A n cells) {base n2 : Nat} {P : Nat → Prop} {v : Value} (hv : WRow w base P v n2) (hk : Kept w W (fun k => 0 < n2 ∧ some k = v.ownBlock)) : Outer W A n cells := by
 rcases h with h | ⟨G, cur, rfl, hh, hc, hG⟩
 ·exact .inl h
 ·refine .inr ⟨G, cur, rfl, (hk.2 G hG fun e => ?_).trans hh, hc, Nat.lt_of_lt_of_le hG hk.1⟩
  obtain ⟨A2, c2, rfl, _, hq⟩ := hv
  rcases hq with hq | ⟨g, cu, rfl, _, _, hg, _⟩
  ·have := e.1
   omega
  ·obtain rfl := Option.some.inj e.2
   rw [hh] at hg
   simp at hg
set_option maxHeartbeats 1600000 in
set_option maxRecDepth 100000 in
theorem ss98 (P : Nat → Prop) (A : Option Addr) (cap : Nat) (cells : List Value) (l0 : List (List Int)) (a1 : Int) (w0 w : World) (hB : Below w0.heap.size w0 w) (hm : l0.length ≤ maxLen) (hg : Outer w A l0.length cells) (hi : Inner w w0.heap.size P cells l0) (hp : ∀ k, P k → some k ≠ (Value.slice A l0.length cap).ownBlock) :
  Calls Tryd.prog 18 #[.slice A l0.length cap, .int .i64 a1] w fun e w' => e = .returned (.int .i64 (mkS l0 a1)) ∧ Below w0.heap.size w0 w' ∧ Kept w w' P := by
 have HBB := Aside0.mk hB
 have HG := Aside0.mk hg
 have HI := Aside0.mk hi
 have HP := Aside0.mk hp
 have hm2 : l0.length ≤ 9223372036854775807 := hm
 clear hB hi hm hg hp
 go_enter Tryd.func18, Tryd.ntmps18
 go_wp2
 go_loopw [1, 5] (fun v1 v5 wr => ∃ (i : Nat) (a' : Int), v1 = .int .i64 a' ∧ v5 = .int .i64 (i : Int) ∧ i ≤ l0.length ∧ Aside0 (mkS (l0.drop i) a' = mkS l0 a1) ∧ Aside0 (Below w0.heap.size w0 wr) ∧ Aside0 (Kept w wr P) ∧ Aside0 (SzK w wr)) (fun _ v5 _ => l0.length - (intOf v5).toNat)
 case atStart => exact ⟨0, a1, rfl, rfl, Nat.zero_le _, ⟨rfl⟩, HBB, ⟨Kept.refl _ _⟩, ⟨SzK.refl _⟩⟩
 case round =>
  obtain ⟨i, a', rfl, rfl, hi, HA, HB, HK, HS⟩ := hrel
  by_cases hlt : i < l0.length
  ·rcases HG.out with hg | ⟨G, cur, rfl, hh, hc, hG⟩
   ·omega
   ·obtain ⟨A2, cap2, e2, hm3, hg2⟩ := HI.out.2 i l0[i] (cells[i]'(by rw [HI.out.1]; exact hlt)) (List.getElem?_eq_getElem hlt) (List.getElem?_eq_getElem _)
    have hh2 := (HK.out.2 G hG (fun e => HP.out G e rfl)).trans hh
    have hx : wr.cell? ⟨G, i, none⟩ = some (.slice A2 l0[i].length cap2) := (kC hh2 i).trans ((hc i hlt).trans (by rw [List.getElem?_eq_getElem (by rw [HI.out.1]; exact hlt), e2]))
    have HW := Aside0.mk (show WRow w w0.heap.size P (.slice A2 l0[i].length cap2) l0[i].length from ⟨A2, cap2, rfl, hm3, hg2⟩)
    clear hh2 hg2 hm3 e2 hc hh
    go_wp2_with (go_at_call 17; (with_reducible refine (mk31 A2 l0[i].length cap2 a' P w0 _ HB.out (HW.out.szk HS.out)).mono ?_); rintro e w' ⟨rfl, hb, hk, hs⟩; have n1_ := Aside0.mk (Kept.via HK.out hk (fun k e => by
     obtain ⟨A3, c3, e3, _, hq⟩ := HW.out
     cases e3
     rcases hq with hq | ⟨g, cu, rfl, _, hp, _⟩
     ·have := e.1
      omega
     ·obtain rfl := Option.some.inj e.2
      exact hp)); have n2_ := Aside0.mk hb; have n3_ := Aside0.mk (HS.out.trans hs); clear hb hk hs HB HK HS; have HB := n2_; have HK := n1_; have HS := n3_; clear n1_ n2_ n3_)
    go_roundw
    case rel => exact ⟨i + 1, mkA l0[i].length a', rfl, by go_num, by omega, ⟨by rw [← HA.out, List.drop_eq_getElem_cons hlt, mkS]⟩, HB, HK, HS⟩
    case measure => simp [intOf]; omega
  ·go_wp2
   go_ret
   have e0 : mkS (l0.drop i) a' = a' := by rw [List.drop_eq_nil_of_le (by omega)]; rfl
   exact ⟨by rw [show mkS l0 a1 = a' from HA.out.symm.trans e0]; rfl, HB.out, HK.out⟩
def laws_markInt64SS.f (l0 : List (List Int)) (a1 : Int) : Option Int := some (mkS l0 a1)
theorem laws_markInt64SS.calls (P0_ : Nat → Prop) (u9000_ : Value) (l0 : List (List Int)) (a1 : Int) (r : Int) (w0 w : World) (hB : Below w0.heap.size w0 w) (ho0 : Kd.R (Kd.slice 2 (Kd.int .i64)) 22 w w0.heap.size P0_ u9000_ l0) (h : laws_markInt64SS.f l0 a1 = some r) :
  Calls Tryd.prog 18 #[u9000_, .int .i64 a1] w fun e w' => e = .returned (.int .i64 r) ∧ Below w0.heap.size w0 w' ∧ Kept w w' (fun k_ => P0_ k_) := by
 obtain ⟨A, cap, cells, rfl, hm, hg, hi⟩ := rows_open ho0
 obtain rfl := Option.some.inj h
 exact (ss98 _ A cap cells l0 a1 w0 w hB hm hg hi (fun k hk => hk.2)).mono fun e w' ⟨h1, h2, h3⟩ => ⟨h1, h2, h3.1, fun k hk hn => h3.2 k hk (fun e => hn e.1)⟩

/-! ### laws_markRaga: function 7 -/
def laws_markRaga.f (a0_0 : ByteArray) (l0_1 : List Int) (l0_2 : List Int) (a0_3 : Int) (a0_4 : Int) (l0_5 : List (List Int)) (a1 : Int) : Option Int := some (mkS l0_5 (mkA l0_2.length (mkA l0_1.length a1)))
theorem kept_of {w W : World} {base n : Nat} {P S : Nat → Prop} {v : Value} (hv : WRow w base P v n) (hk : Kept w W (fun k => 0 < n ∧ some k = v.ownBlock)) (hs : ∀ k, P k → S k) : Kept w W S := ⟨hk.1, fun k hl hn => hk.2 k hl fun e => by
 obtain ⟨A2, c2, rfl, _, hq⟩ := hv
 rcases hq with hq | ⟨g, cu, rfl, _, hp, _⟩
 ·have := e.1
  omega
 ·obtain rfl := Option.some.inj e.2
  exact hn (hs _ hp)⟩
theorem kept_lt {w W : World} {B : Nat} {S : Nat → Prop} {o : Obj} (h : w.heap[B]? = some o) (hk : Kept w W S) (hn : ¬ S B) : W.heap[B]? = some o := (hk.2 B (Array.getElem?_eq_some_iff.1 h).1 hn).trans h
theorem WRow.not_box {w : World} {base n B t : Nat} {P : Nat → Prop} {v : Value} {cs : Array Value} (hv : WRow w base P v n) (h : w.heap[B]? = some (.cells cs t (0, 0))) (ht : t ≠ 2) : ¬ (0 < n ∧ some B = v.ownBlock) := by
 rintro ⟨h1, h2⟩
 obtain ⟨A2, c2, rfl, _, hq⟩ := hv
 rcases hq with hq | ⟨g, cu, rfl, _, hp, hg, _⟩
 ·omega
 ·obtain rfl := Option.some.inj h2
  rw [h] at hg
  simp at hg
  exact ht hg.2
theorem WRow.alloc {w : World} {base n : Nat} {P : Nat → Prop} {v : Value} (hv : WRow w base P v n) (o : Obj) : WRow (w.alloc o) base P v n := by
 obtain ⟨A2, c2, rfl, hm, hq⟩ := hv
 refine ⟨A2, c2, rfl, hm, ?_⟩
 rcases hq with hq | ⟨g, cu, rfl, hb, hp, hg, hn⟩
 ·exact .inl hq
 ·exact .inr ⟨g, cu, rfl, hb, hp, kA hg _, hn⟩
theorem Outer.alloc {w : World} {A : Option Addr} {n : Nat} {cells : List Value} (h : Outer w A n cells) (o : Obj) : Outer (w.alloc o) A n cells := by
 rcases h with h | ⟨G, cur, rfl, hh, hc, hG⟩
 ·exact .inl h
 ·exact .inr ⟨G, cur, rfl, kA hh _, hc, Nat.lt_of_lt_of_le hG (bA (Below.refl w.heap.size w) o).size⟩
theorem Inner.alloc {w : World} {base : Nat} {P : Nat → Prop} {cells : List Value} {l : List (List Int)} (h : Inner w base P cells l) (o : Obj) : Inner (w.alloc o) base P cells l := ⟨h.1, fun j x v e1 e2 => (h.2 j x v e1 e2).alloc o⟩
set_option maxHeartbeats 1600000 in
set_option maxRecDepth 100000 in
theorem laws_markRaga.calls (a0_0 : ByteArray) (P0_1_ : Nat → Prop) (u9000_ : Value) (l0_1 : List Int) (P0_2_ : Nat → Prop) (u9001_ : Value) (l0_2 : List Int) (a0_3 : Int) (a0_4 : Int) (P0_5_ : Nat → Prop) (u9002_ : Value) (l0_5 : List (List Int)) (a1 : Int) (r1 : Int) (w0 w : World) (hB : Below w0.heap.size w0 w) (ho0_1 : Kd.R (Kd.int .i64) 2 w w0.heap.size P0_1_ u9000_ l0_1) (_hp0_1_0_2 : ∀ k_, P0_1_ k_ → ¬ P0_2_ k_) (ho0_2 : Kd.R (Kd.int .i64) 2 w w0.heap.size P0_2_ u9001_ l0_2) (_hp0_2_0_1 : ∀ k_, P0_2_ k_ → ¬ P0_1_ k_) (ho0_5 : Kd.R (Kd.slice 2 (Kd.int .i64)) 22 w w0.heap.size P0_5_ u9002_ l0_5) (h : laws_markRaga.f a0_0 l0_1 l0_2 a0_3 a0_4 l0_5 a1 = some r1) :
  Calls Tryd.prog 7 #[.agg #[.string a0_0, u9000_, u9001_, .int .i64 a0_3, .int .i64 a0_4, u9002_], .int .i64 a1] w fun e w' => e = .returned (.int .i64 r1) ∧ Below w0.heap.size w0 w' ∧ Kept w w' (fun k_ => P0_1_ k_ ∨ P0_2_ k_ ∨ P0_5_ k_) := by
 have hu := Tryd.underlying25
 obtain rfl := Option.some.inj h
 have v1 := WRow.of_R ho0_1
 have v2 := WRow.of_R ho0_2
 obtain ⟨A5, c5, cells, rfl, hm, hg, hi⟩ := rows_open ho0_5
 obtain ⟨A1, c1, rfl, hm1, v1'⟩ := v1
 have v1 : WRow w w0.heap.size P0_1_ (.slice A1 l0_1.length c1) l0_1.length := ⟨A1, c1, rfl, hm1, v1'⟩
 obtain ⟨A2, c2, rfl, hm2, v2'⟩ := v2
 have v2 : WRow w w0.heap.size P0_2_ (.slice A2 l0_2.length c2) l0_2.length := ⟨A2, c2, rfl, hm2, v2'⟩
 have hBX := heap_alloc_new w (.cells #[.string a0_0, .slice A1 l0_1.length c1, .slice A2 l0_2.length c2, .int .i64 a0_3, .int .i64 a0_4, .slice A5 l0_5.length c5] 25)
 have V1 := Aside0.mk (v1.alloc (.cells #[.string a0_0, .slice A1 l0_1.length c1, .slice A2 l0_2.length c2, .int .i64 a0_3, .int .i64 a0_4, .slice A5 l0_5.length c5] 25))
 have V2 := Aside0.mk (v2.alloc (.cells #[.string a0_0, .slice A1 l0_1.length c1, .slice A2 l0_2.length c2, .int .i64 a0_3, .int .i64 a0_4, .slice A5 l0_5.length c5] 25))
 have HO := Aside0.mk (Outer.alloc (show Outer w A5 l0_5.length cells from hg) (.cells #[.string a0_0, .slice A1 l0_1.length c1, .slice A2 l0_2.length c2, .int .i64 a0_3, .int .i64 a0_4, .slice A5 l0_5.length c5] 25))
 have HI := Aside0.mk (hi.alloc (.cells #[.string a0_0, .slice A1 l0_1.length c1, .slice A2 l0_2.length c2, .int .i64 a0_3, .int .i64 a0_4, .slice A5 l0_5.length c5] 25))
 have HBX := Aside0.mk hBX
 have HB := Aside0.mk (bA hB (.cells #[.string a0_0, .slice A1 l0_1.length c1, .slice A2 l0_2.length c2, .int .i64 a0_3, .int .i64 a0_4, .slice A5 l0_5.length c5] 25))
 have HK := Aside0.mk (show Kept w (w.alloc (.cells #[.string a0_0, .slice A1 l0_1.length c1, .slice A2 l0_2.length c2, .int .i64 a0_3, .int .i64 a0_4, .slice A5 l0_5.length c5] 25)) (fun k_ => P0_1_ k_ ∨ P0_2_ k_ ∨ P0_5_ k_) from Kept.alloc (Kept.refl _ _) _)
 clear hB ho0_1 ho0_2 ho0_5 h hg hi hm1 hm2 v1 v2 v1' v2' hBX
 go_enter Tryd.func7, Tryd.ntmps7
 go_wp2_with (first
  | (go_at_call 17; (with_reducible refine (mk31 A1 l0_1.length c1 a1 P0_1_ w0 _ HB.out V1.out).mono ?_); rintro e w' ⟨rfl, hb, hk, hs⟩; have m1 := Aside0.mk (V2.out.szk hs); have m2 := Aside0.mk (HI.out.szk hs); have m3 := Aside0.mk (HO.out.kept V1.out hk); have m4 := Aside0.mk (kept_lt HBX.out hk (V1.out.not_box HBX.out (by decide))); have m5 := Aside0.mk (Kept.via HK.out (kept_of (S := P0_1_) V1.out hk (fun _ e => e)) (fun _ e => .inl e)); have m6 := Aside0.mk hb; clear V1 V2 HI HO HBX HK HB hb hk hs; have V2 := m1; have HI := m2; have HO := m3; have HBX := m4; have HK := m5; have HB := m6; clear m1 m2 m3 m4 m5 m6; have z2 := (kC HBX.out 2).trans (rfl : _ = some (Value.slice A2 l0_2.length c2)); have z5 := (kC HBX.out 5).trans (rfl : _ = some (Value.slice A5 l0_5.length c5)))
  | (go_at_call 17; (with_reducible refine (mk31 A2 l0_2.length c2 _ P0_2_ w0 _ HB.out V2.out).mono ?_); rintro e w' ⟨rfl, hb, hk, hs⟩; have m2 := Aside0.mk (HI.out.szk hs); have m3 := Aside0.mk (HO.out.kept V2.out hk); have m4 := Aside0.mk (kept_lt HBX.out hk (V2.out.not_box HBX.out (by decide))); have m5 := Aside0.mk (Kept.via HK.out (kept_of (S := P0_2_) V2.out hk (fun _ e => e)) (fun _ e => .inr (.inl e))); have m6 := Aside0.mk hb; clear V2 HI HO HBX HK HB hb hk hs z2 z5; have HI := m2; have HO := m3; have HBX := m4; have HK := m5; have HB := m6; clear m2 m3 m4 m5 m6; have z5 := (kC HBX.out 5).trans (rfl : _ = some (Value.slice A5 l0_5.length c5)))
  | (go_at_call 18; (with_reducible refine (ss98 _ A5 c5 cells l0_5 _ w0 _ HB.out hm HO.out HI.out (fun k hk => hk.2)).mono ?_); rintro e w' ⟨rfl, hb, hk⟩; have m5 := Aside0.mk (Kept.via HK.out hk (fun _ e => .inr (.inr e.1))); have m6 := Aside0.mk hb; clear HK HB hb hk; have HK := m5; have HB := m6; clear m5 m6))
 go_ret
 exact ⟨rfl, HB.out, HK.out⟩


/-! ### laws_heldInt64S: function 19 -/
def laws_heldInt64S.l0 : Nat → List Int → Int → Int → Option (Int)
 | 0, _, _, _ => none
 | k + 1, x0, x1, x5 => if x5 < (x0.length : Int) then (if 0 ≤ x5 then (if (rd x0 x5) = x1 then (laws_heldInt64S.l0 k x0 (wrap64 (x1 + 1)) (wrap64 (x5 + 1))) else (some (-1))) else (none)) else (some x1)
def laws_heldInt64S.f (k : Nat) (l0 : List Int) (a1 : Int) : Option (Int) := laws_heldInt64S.l0 k l0 a1 0
theorem laws_heldInt64S.mono_l : ∀ k, (∀ y0 y1 y2, LeO (laws_heldInt64S.l0 k y0 y1 y2) (laws_heldInt64S.l0 (k + 1) y0 y1 y2))
 | 0 => fun _ _ _ r h => by simp [laws_heldInt64S.l0] at h
 | k + 1 => by
  have ih0 := laws_heldInt64S.mono_l k
  ·intro y0 y1 y2
   unfold laws_heldInt64S.l0
   repeat' first
   | (with_reducible exact ih0 _ _ _)
   | (with_reducible exact LeO.refl _)
   | (with_reducible exact LeO.none _)
   | (with_reducible refine LeO.ite ?_ ?_)
   | (with_reducible refine LeO.bind ?_ (fun _ => ?_))
   | exact ih0 _ _ _
   | exact LeO.none _
   | refine LeO.ite ?_ ?_
   | refine LeO.bind ?_ (fun _ => ?_)
theorem laws_heldInt64S.mono : ∀ a0 a1 k, LeO (laws_heldInt64S.f k a0 a1) (laws_heldInt64S.f (k + 1) a0 a1) := by
 intro a0 a1 k
 have ih0 := laws_heldInt64S.mono_l k
 unfold laws_heldInt64S.f
 repeat' first
   | (with_reducible exact ih0 _ _ _)
   | (with_reducible exact LeO.refl _)
   | (with_reducible exact LeO.none _)
   | (with_reducible refine LeO.ite ?_ ?_)
   | (with_reducible refine LeO.bind ?_ (fun _ => ?_))
   | exact ih0 _ _ _
   | exact LeO.none _
   | refine LeO.ite ?_ ?_
   | refine LeO.bind ?_ (fun _ => ?_)
set_option maxHeartbeats 8000000 in
set_option maxRecDepth 100000 in
theorem laws_heldInt64S.calls (k : Nat) (A0 : Option Addr) (c0 : Nat) (l0 : List Int) (a1 : Int) (r : Int) (w : World) (hr0 : Kd.C (Kd.int .i64) w A0 l0.length l0) (hc0 : l0.length ≤ c0) (h : laws_heldInt64S.f k l0 a1 = some r) :
  Calls Tryd.prog 19 #[.slice A0 l0.length c0, .int .i64 a1] w fun e w' => e = .returned (.int .i64 r) ∧ Drawn0 w w' := by
 have HR0 := Aside0.mk hr0
 have HC0 := Aside0.mk hc0
 clear hr0 hc0
 have H : (laws_heldInt64S.l0 k l0 a1 0) = some r := h
 clear h
 have H' := Aside0.mk H
 clear H
 go_enter Tryd.func19, Tryd.ntmps19
 go_wp2
 go_loopg [1, 5] k (fun kq v1 v5 w' => ∃ (x1_1 : Int) (x5_1 : Int), v1 = .int .i64 x1_1 ∧ v5 = .int .i64 x5_1 ∧ Aside0 (laws_heldInt64S.l0 kq l0 x1_1 x5_1 = some r) ∧ Aside0 (kq ≤ k) ∧ Drawn0 w w')
 case atStart => exact ⟨(a1), (0), (by first | rfl | (simp; done) | (simp [*]; done)), (by first | rfl | (simp; done) | (simp [*]; done)), H', ⟨Nat.le_refl _⟩, by repeat (first | exact Drawn0.refl _ | apply Drawn0.step)⟩
 case round =>
  clear H'
  try clear c1
  try clear p2
  obtain ⟨x1_1, x5_1, rfl, rfl, HA, HK1, ⟨m1, rfl⟩⟩ := hrel
  cases gk with
  | zero => exact absurd HA.out (by simp [laws_heldInt64S.l0])
  | succ k1 =>
   have H := HA.out
   clear HA
   simp only [laws_heldInt64S.l0] at H
   by_cases c3 : x5_1 < (l0.length : Int)
   ·rw [if_pos c3] at H
    have c3b0 : decide (x5_1 < (l0.length : Int)) = true := decide_eq_true c3
    clear c3
    by_cases c4 : 0 ≤ x5_1
    ·rw [if_pos c4] at H
     have c4b0 : decide (0 ≤ x5_1) = true := decide_eq_true c4
     clear c4
     by_cases c5 : (rd l0 x5_1) = x1_1
     ·rw [if_pos c5] at H
      have c5b0 : ((rd l0 x5_1) == x1_1) = true := beq_iff_eq.mpr c5
      have c5b1 : ((rd l0 x5_1) != x1_1) = false := bne_eq_false_iff_eq.mpr c5
      clear c5
      have H' := Aside0.mk H
      clear H
      have p241 : 0 ≤ (x5_1 : Int) := of_decide_eq_true (by first | (with_reducible assumption) | assumption)
      have q241 : x5_1 < (l0.length : Int) := of_decide_eq_true (by first | (with_reducible assumption) | assumption)
      obtain ⟨ad241, e241, hx241_0⟩ := Kd.at_int HR0.out x5_1 p241 q241
      cases e241
      replace p241 := eq_true p241
      replace q241 := eq_true q241
      go_wp2
      go_roundg k1
      case measure => have := HK1.out; omega
      case rel => exact ⟨(wrap64 (x1_1 + 1)), (wrap64 (x5_1 + 1)), (by first | rfl | (simp; done) | (simp [*]; done)), (by first | rfl | (simp; done) | (simp [*]; done)), H', ⟨by have := HK1.out; omega⟩, by repeat (first | exact Drawn0.refl _ | apply Drawn0.step)⟩
     ·rw [if_neg c5] at H
      have c5b0 : ((rd l0 x5_1) == x1_1) = false := beq_eq_false_iff_ne.mpr c5
      have c5b1 : ((rd l0 x5_1) != x1_1) = true := bne_iff_ne.mpr c5
      obtain rfl := Option.some.inj H
      have p241 : 0 ≤ (x5_1 : Int) := of_decide_eq_true (by first | (with_reducible assumption) | assumption)
      have q241 : x5_1 < (l0.length : Int) := of_decide_eq_true (by first | (with_reducible assumption) | assumption)
      obtain ⟨ad241, e241, hx241_0⟩ := Kd.at_int HR0.out x5_1 p241 q241
      cases e241
      replace p241 := eq_true p241
      replace q241 := eq_true q241
      go_wp2
      go_ret
      exact ⟨by first | rfl | (simp; done) | (simp [*]; done), by repeat (first | exact Drawn0.refl _ | apply Drawn0.step)⟩
    ·rw [if_neg c4] at H
     exact absurd H (by simp)
   ·rw [if_neg c3] at H
    have c3b0 : decide (x5_1 < (l0.length : Int)) = false := decide_eq_false c3
    clear c3
    obtain rfl := Option.some.inj H
    go_wp2
    go_ret
    exact ⟨by first | rfl | (simp; done) | (simp [*]; done), by repeat (first | exact Drawn0.refl _ | apply Drawn0.step)⟩

/-! ### laws_heldInt64SS: function 20 -/
def laws_heldInt64SS.l0 : Nat → List (List Int) → Int → Int → Option (Int)
 | 0, _, _, _ => none
 | k + 1, x0, x1, x5 => if x5 < (x0.length : Int) then (if 0 ≤ x5 then ((laws_heldInt64S.f k (rd_L2 x0 x5) x1).bind fun t243 => (if t243 < 0 then (some (-1)) else (laws_heldInt64SS.l0 k x0 t243 (wrap64 (x5 + 1))))) else (none)) else (some x1)
def laws_heldInt64SS.f (k : Nat) (l0 : List (List Int)) (a1 : Int) : Option (Int) := laws_heldInt64SS.l0 k l0 a1 0
theorem laws_heldInt64SS.mono_l : ∀ k, (∀ y0 y1 y2, LeO (laws_heldInt64SS.l0 k y0 y1 y2) (laws_heldInt64SS.l0 (k + 1) y0 y1 y2))
 | 0 => fun _ _ _ r h => by simp [laws_heldInt64SS.l0] at h
 | k + 1 => by
  have ih0 := laws_heldInt64SS.mono_l k
  ·intro y0 y1 y2
   unfold laws_heldInt64SS.l0
   repeat' first
   | (with_reducible exact ih0 _ _ _)
   | (with_reducible exact laws_heldInt64S.mono _ _ _)
   | (with_reducible exact LeO.refl _)
   | (with_reducible exact LeO.none _)
   | (with_reducible refine LeO.ite ?_ ?_)
   | (with_reducible refine LeO.bind ?_ (fun _ => ?_))
   | exact ih0 _ _ _
   | exact laws_heldInt64S.mono _ _ _
   | exact LeO.none _
   | refine LeO.ite ?_ ?_
   | refine LeO.bind ?_ (fun _ => ?_)
theorem laws_heldInt64SS.mono : ∀ a0 a1 k, LeO (laws_heldInt64SS.f k a0 a1) (laws_heldInt64SS.f (k + 1) a0 a1) := by
 intro a0 a1 k
 have ih0 := laws_heldInt64SS.mono_l k
 unfold laws_heldInt64SS.f
 repeat' first
   | (with_reducible exact ih0 _ _ _)
   | (with_reducible exact laws_heldInt64S.mono _ _ _)
   | (with_reducible exact LeO.refl _)
   | (with_reducible exact LeO.none _)
   | (with_reducible refine LeO.ite ?_ ?_)
   | (with_reducible refine LeO.bind ?_ (fun _ => ?_))
   | exact ih0 _ _ _
   | exact laws_heldInt64S.mono _ _ _
   | exact LeO.none _
   | refine LeO.ite ?_ ?_
   | refine LeO.bind ?_ (fun _ => ?_)
set_option maxHeartbeats 8000000 in
set_option maxRecDepth 100000 in
theorem laws_heldInt64SS.calls (k : Nat) (A0 : Option Addr) (c0 : Nat) (l0 : List (List Int)) (a1 : Int) (r : Int) (w : World) (hr0 : Kd.C (Kd.slice 2 (Kd.int .i64)) w A0 l0.length l0) (hc0 : l0.length ≤ c0) (h : laws_heldInt64SS.f k l0 a1 = some r) :
  Calls Tryd.prog 20 #[.slice A0 l0.length c0, .int .i64 a1] w fun e w' => e = .returned (.int .i64 r) ∧ Drawn0 w w' := by
 have HR0 := Aside0.mk hr0
 have HC0 := Aside0.mk hc0
 clear hr0 hc0
 have H : (laws_heldInt64SS.l0 k l0 a1 0) = some r := h
 clear h
 have H' := Aside0.mk H
 clear H
 go_enter Tryd.func20, Tryd.ntmps20
 go_wp2
 go_loopg [1, 5] k (fun kq v1 v5 w' => ∃ (x1_1 : Int) (x5_1 : Int), v1 = .int .i64 x1_1 ∧ v5 = .int .i64 x5_1 ∧ Aside0 (laws_heldInt64SS.l0 kq l0 x1_1 x5_1 = some r) ∧ Aside0 (kq ≤ k) ∧ Drawn0 w w')
 case atStart => exact ⟨(a1), (0), (by first | rfl | (simp; done) | (simp [*]; done)), (by first | rfl | (simp; done) | (simp [*]; done)), H', ⟨Nat.le_refl _⟩, by repeat (first | exact Drawn0.refl _ | apply Drawn0.step)⟩
 case round =>
  clear H'
  try clear c2
  try clear p2
  obtain ⟨x1_1, x5_1, rfl, rfl, HA, HK1, ⟨m1, rfl⟩⟩ := hrel
  cases gk with
  | zero => exact absurd HA.out (by simp [laws_heldInt64SS.l0])
  | succ k1 =>
   have H := HA.out
   clear HA
   simp only [laws_heldInt64SS.l0] at H
   by_cases c3 : x5_1 < (l0.length : Int)
   ·rw [if_pos c3] at H
    have c3b0 : decide (x5_1 < (l0.length : Int)) = true := decide_eq_true c3
    clear c3
    by_cases c4 : 0 ≤ x5_1
    ·rw [if_pos c4] at H
     have c4b0 : decide (0 ≤ x5_1) = true := decide_eq_true c4
     clear c4
     replace H := Option.bind_eq_some_iff.mp H
     obtain ⟨t243, A50, H⟩ := H
     replace H : (if t243 < 0 then (some (-1)) else (laws_heldInt64SS.l0 k1 l0 t243 (wrap64 (x5_1 + 1)))) = some r := H
     have A5 := Aside0.mk A50
     clear A50
     by_cases c6 : t243 < 0
     ·rw [if_pos c6] at H
      have c6b0 : decide (t243 < 0) = true := decide_eq_true c6
      clear c6
      obtain rfl := Option.some.inj H
      have p242 : 0 ≤ (x5_1 : Int) := of_decide_eq_true (by first | (with_reducible assumption) | assumption)
      have q242 : x5_1 < (l0.length : Int) := of_decide_eq_true (by first | (with_reducible assumption) | assumption)
      obtain ⟨ad242, A242_0, c242_0, e242, hx242_0, hl242_0, hi242_0⟩ := at_L2 HR0.out x5_1 p242 q242
      cases e242
      have HR242_0 := Aside0.mk hi242_0
      have HC242_0 := Aside0.mk hl242_0
      clear hi242_0 hl242_0
      replace p242 := eq_true p242
      replace q242 := eq_true q242
      go_wp2_with (first | ((with_reducible refine gC (f := 19) rfl ?_); refine goesL_ (some 17) rfl rfl Tryd.func19 (by kernel_rfl) rfl #[.slice A242_0 (rd_L2 l0 x5_1).length c242_0, .int .i64 x1_1] rfl (by (try simp only [List.map_toArray, List.map_cons, List.map_nil]); first | done | rfl | (simp only [List.length_drop, List.length_take]; rfl)) ?_; (with_reducible refine (laws_heldInt64S.calls k1 _ _ (rd_L2 l0 x5_1) x1_1 t243 _ ?side1 ?side2 A5.out).mono ?_); (case side1 => repeat (first | exact HR242_0.out | (with_reducible refine cA ?_ _) | (with_reducible refine cN ?_ _) | (with_reducible refine cD ?_))); (case side2 => exact HC242_0.out); rintro e w' ⟨rfl, ⟨nd, rfl⟩⟩; refine ⟨_, rfl, ?_⟩))
      go_ret
      exact ⟨by first | rfl | (simp; done) | (simp [*]; done), by repeat (first | exact Drawn0.refl _ | apply Drawn0.step)⟩
     ·rw [if_neg c6] at H
      have c6b0 : decide (t243 < 0) = false := decide_eq_false c6
      clear c6
      have H' := Aside0.mk H
      clear H
      have p242 : 0 ≤ (x5_1 : Int) := of_decide_eq_true (by first | (with_reducible assumption) | assumption)
      have q242 : x5_1 < (l0.length : Int) := of_decide_eq_true (by first | (with_reducible assumption) | assumption)
      obtain ⟨ad242, A242_0, c242_0, e242, hx242_0, hl242_0, hi242_0⟩ := at_L2 HR0.out x5_1 p242 q242
      cases e242
      have HR242_0 := Aside0.mk hi242_0
      have HC242_0 := Aside0.mk hl242_0
      clear hi242_0 hl242_0
      replace p242 := eq_true p242
      replace q242 := eq_true q242
      go_wp2_with (first | ((with_reducible refine gC (f := 19) rfl ?_); refine goesL_ (some 17) rfl rfl Tryd.func19 (by kernel_rfl) rfl #[.slice A242_0 (rd_L2 l0 x5_1).length c242_0, .int .i64 x1_1] rfl (by (try simp only [List.map_toArray, List.map_cons, List.map_nil]); first | done | rfl | (simp only [List.length_drop, List.length_take]; rfl)) ?_; (with_reducible refine (laws_heldInt64S.calls k1 _ _ (rd_L2 l0 x5_1) x1_1 t243 _ ?side1 ?side2 A5.out).mono ?_); (case side1 => repeat (first | exact HR242_0.out | (with_reducible refine cA ?_ _) | (with_reducible refine cN ?_ _) | (with_reducible refine cD ?_))); (case side2 => exact HC242_0.out); rintro e w' ⟨rfl, ⟨nd, rfl⟩⟩; refine ⟨_, rfl, ?_⟩))
      go_roundg k1
      case measure => have := HK1.out; omega
      case rel => exact ⟨(t243), (wrap64 (x5_1 + 1)), (by first | rfl | (simp; done) | (simp [*]; done)), (by first | rfl | (simp; done) | (simp [*]; done)), H', ⟨by have := HK1.out; omega⟩, by repeat (first | exact Drawn0.refl _ | apply Drawn0.step)⟩
    ·rw [if_neg c4] at H
     exact absurd H (by simp)
   ·rw [if_neg c3] at H
    have c3b0 : decide (x5_1 < (l0.length : Int)) = false := decide_eq_false c3
    clear c3
    obtain rfl := Option.some.inj H
    go_wp2
    go_ret
    exact ⟨by first | rfl | (simp; done) | (simp [*]; done), by repeat (first | exact Drawn0.refl _ | apply Drawn0.step)⟩

end Go.Proofs.YtbebcnnibjkclaaDoor.R
-- shrunk
-- tight
