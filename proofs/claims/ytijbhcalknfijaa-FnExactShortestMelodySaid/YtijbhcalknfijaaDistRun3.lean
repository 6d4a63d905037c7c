/- Distances to a final state: what the program's loops compute. No condition. -/
import Derived.Test.YtijbhcalknfijaaM3x0
import Derived.Test.YtijbhcalknfijaaM3x16
import Derived.Test.YtijbhcalknfijaaDist3
namespace Go.Proofs.Ytijbhcalknfijaa.Pure
open Go.RowKit Go.Proofs.Ytijbhcalknfijaa.M3 Go.Proofs.YtijbhcalknfijaaW.PrintWords Go.Proofs.YtijbhcalknfijaaW.PrintLast
section
variable {s t : Int} {f : List Int} {l : List S67}
theorem okG_arcs (h : okG s t f l = true) : Arcs s l := fun x hx => by
  have := okG_arc h hx
  exact ⟨⟨by omega, by omega⟩, ⟨by omega, by omega⟩⟩
theorem good_lt {v : List Int} (h : Good s f l v) (hs : s ≤ 32) {q : Int} (q0 : 0 ≤ q) (q1 : q < s) : -1 ≤ rd v q ∧ rd v q ≤ 32 := by
  have a := h.low q q0 q1
  have b := h.bound q q0 q1
  have c := cnt_le v
  have d := h.len
  omega
theorem implD_l0 (h : okG s t f l = true) (hf : f.length ≤ 1048576) (d : Nat) : ∀ (k i : Nat) (v : List Int), 1048577 ≤ k → i + d = s.toNat → v.length = s.toNat → (∀ q : Int, 0 ≤ q → q < i → rd v q = rd (ini s f) q) → impl_Grammar_distances.l0 (k + d + 1) v (s.toNat : Int) (i : Int) s t f l = impl_Grammar_distances.l1 k (ini s f) true s t f l := by
  have hs := okG_st h
  induction d with
  | zero =>
    intro k i v hk hi hv hq
    have e : v = ini s f := rd_ext (by rw [hv, ini_len]) (fun q q0 q1 => hq q q0 (by rw [ini_len] at q1; omega))
    rw [Nat.add_zero, impl_Grammar_distances.l0, if_neg (by omega), e]
  | succ d ih =>
    intro k i v hk hi hv hq
    have e0 : rd (ini s f) (i : Int) = if hasL f (i : Int) = true then 0 else -1 := ini_rd s f (by omega) (by omega)
    rw [show k + (d + 1) + 1 = (k + d + 1) + 1 by omega, impl_Grammar_distances.l0, if_pos (by omega), if_pos (by omega), if_pos (by omega), Option.bind_some, implHas s t f l _ hf _ (by omega), Option.bind_some, w64 (by omega) (by omega), show ((i : Int) + 1) = ((i + 1 : Nat) : Int) by omega]
    by_cases c : hasL f (i : Int) = true
    · rw [if_pos c] at e0
      rw [if_pos c]
      refine ih k (i + 1) _ hk (by omega) (by simpa using hv) (fun q q0 q1 => ?_)
      rw [rd_set (by rw [List.length_set]; omega) (by rw [List.length_set]; omega)]
      by_cases z : q = (i : Int)
      · rw [if_pos z, z, e0]
      · rw [if_neg z, rd_set (by omega) (by omega), if_neg z]
        exact hq q q0 (by omega)
    · rw [if_neg c] at e0
      rw [if_neg c]
      refine ih k (i + 1) _ hk (by omega) (by simpa using hv) (fun q q0 q1 => ?_)
      rw [rd_set (by omega) (by omega)]
      by_cases z : q = (i : Int)
      · rw [if_pos z, z, e0]
      · rw [if_neg z]
        exact hq q q0 (by omega)
theorem implD_l2 (h : okG s t f l = true) (d : Nat) : ∀ (k i : Nat) (v : List Int) (b : Bool), i + d = l.length → Good s f l v → impl_Grammar_distances.l2 (k + d + 1) v b l (l.length : Int) (i : Int) s t f l = impl_Grammar_distances.l1 k (passV (l.drop i) v) (passB (l.drop i) v b) s t f l := by
  have hs := okG_st h
  have hll := okG_len h
  induction d with
  | zero =>
    intro k i v b hi hv
    rw [Nat.add_zero, impl_Grammar_distances.l2, if_neg (by omega), List.drop_eq_nil_of_le (by omega), passV, passB]
  | succ d ih =>
    intro k i v b hi hv
    have hlt : i < l.length := by omega
    have hx := okG_arcs h l[i] (List.getElem_mem hlt)
    have hl := hv.len
    have g2 := good_lt hv (by omega) hx.2.1 hx.2.2
    have g0 := good_lt hv (by omega) hx.1.1 hx.1.2
    rw [show k + (d + 1) + 1 = (k + d + 1) + 1 by omega, impl_Grammar_distances.l2]
    simp only [if_pos (show (i : Int) < (l.length : Int) by omega), if_pos (show (0 : Int) ≤ (i : Int) by omega)]
    rw [rdA_at hlt, if_pos hx.2.1, if_pos (by omega), w64 (n := rd v l[i].f2 + 1) (by omega) (by omega), w64 (n := (i : Int) + 1) (by omega) (by omega), show ((i : Int) + 1) = ((i + 1 : Nat) : Int) by omega, List.drop_eq_getElem_cons hlt, passV, passB]
    have gr := relax_good hv (List.getElem_mem hlt) hx.1 hx.2
    by_cases c : upd v l[i]
    · have e : relax v l[i] = v.set l[i].f0.toNat (rd v l[i].f2 + 1) := by unfold relax; rw [if_pos c]
      have i1 := ih k (i + 1) _ true (by omega) gr
      rw [e] at i1 ⊢
      rw [if_pos c]
      obtain ⟨c1, c2⟩ := c
      rw [if_pos (by omega), if_pos hx.1.1, if_pos (by omega)]
      by_cases z : rd v l[i].f0 < 0
      · rw [if_pos z, i1]
      · rw [if_neg z, if_pos (by omega), i1]
    · have e : relax v l[i] = v := by unfold relax; rw [if_neg c]
      have i1 := ih k (i + 1) v b (by omega) hv
      rw [e, if_neg c]
      unfold upd at c
      by_cases y : rd v l[i].f2 + 1 > 0
      · rw [if_pos y, if_pos hx.1.1, if_pos (by omega), if_neg (by omega), if_neg (by omega), i1]
      · rw [if_neg y, i1]
theorem implD_l1 (h : okG s t f l = true) (N : Nat) : ∀ v : List Int, mea s v < N → Good s f l v → ∃ v', Good s f l v' ∧ Le s v' v ∧ passV l v' = v' ∧ ∀ k, N * (l.length + 3) + 1 ≤ k → impl_Grammar_distances.l1 k v true s t f l = some v' := by
  induction N with
  | zero => intro v hm _; omega
  | succ N ih =>
    intro v hm hv
    have ha := okG_arcs h
    have gw := passV_good ha l v (fun _ hx => hx) hv
    have step : ∀ k, impl_Grammar_distances.l1 (k + l.length + 1 + 1) v true s t f l = impl_Grammar_distances.l1 k (passV l v) (passB l v false) s t f l := by
      intro k
      rw [impl_Grammar_distances.l1, if_pos rfl]
      have := implD_l2 h l.length k 0 v false (by omega) hv
      rw [List.drop_zero] at this
      exact this
    cases hb : passB l v false with
    | false =>
      have e := (passB_false l v false hb).2
      refine ⟨v, hv, Le.refl s v, e, fun k hk => ?_⟩
      rw [Nat.succ_mul] at hk
      obtain ⟨k', rfl⟩ : ∃ k', k = (k' + 1) + l.length + 1 + 1 := ⟨k - (l.length + 3), by omega⟩
      rw [step, hb, e, impl_Grammar_distances.l1, if_neg (by decide)]
    | true =>
      have hme := (passV_mea ha l v false (fun _ hx => hx) hv).2 rfl hb
      obtain ⟨v', g1, g2, g3, g4⟩ := ih (passV l v) (by omega) gw
      refine ⟨v', g1, Le.trans g2 (passV_le l v ha hv.len), g3, fun k hk => ?_⟩
      rw [Nat.succ_mul] at hk
      obtain ⟨k', rfl⟩ : ∃ k', k = k' + l.length + 1 + 1 := ⟨k - (l.length + 2), by omega⟩
      rw [step, hb]
      exact g4 k' (by omega)
theorem ini_HH : HH s f l 0 (ini s f) := by
  intro j hj x x0 x1 hw
  obtain rfl : j = 0 := by omega
  have e := ini_rd s f x0 x1
  rw [if_pos (hasL_mem.2 hw)] at e
  omega
theorem distG_good (h : okG s t f l = true) : Good s f l (distG s f l) := itP_good (okG_arcs h) _ _ (ini_good s f l (by have := okG_st h; omega))
theorem distG_HH (h : okG s t f l = true) : HH s f l s.toNat (distG s f l) := by
  have hs := okG_st h
  have := itP_HH (okG_arcs h) s.toNat 0 (ini s f) (by rw [ini_len]; omega) ini_HH
  rwa [Nat.zero_add] at this
theorem implDist (h : okG s t f l = true) (hf : f.length ≤ 1048576) : passV l (distG s f l) = distG s f l ∧ ∀ k, 2000000 ≤ k → impl_Grammar_distances.f k s t f l = some (distG s f l) := by
  have hs := okG_st h
  have hl := okG_len h
  have hm := ini_mea s f (by omega)
  obtain ⟨v', g1, g2, g3, g4⟩ := implD_l1 h 1025 (ini s f) (by omega) (ini_good s f l (by omega))
  have h0 : ∀ x ∈ f, 0 ≤ rd v' x ∧ rd v' x ≤ 0 := by
    intro x hx
    have hb := okG_fin h hx
    have e := ini_rd s f hb.1 (show x < s by omega)
    rw [if_pos (hasL_mem.2 hx)] at e
    have := g2 x hb.1 (by omega) (by omega)
    omega
  have e : distG s f l = v' := same_row (distG_good h) g1 (by omega) (distG_HH h) (fix_low (okG_arcs h) g1 h0 g3)
  rw [e]
  refine ⟨g3, fun k hk => ?_⟩
  obtain ⟨k', rfl⟩ : ∃ k', k = k' + s.toNat + 1 := ⟨k - (s.toNat + 1), by omega⟩
  rw [impl_Grammar_distances.f, if_pos (by omega), if_pos (by omega), Option.bind_some, List.length_replicate]
  have e1 := implD_l0 h hf s.toNat k' 0 (List.replicate s.toNat 0) (by omega) (by omega) (by simp) (fun q q0 q1 => by omega)
  rw [show impl_Grammar_distances.l0 (k' + s.toNat + 1) (List.replicate s.toNat 0) (s.toNat : Int) 0 s t f l = _ from e1]
  exact g4 k' (by omega)
end

end Go.Proofs.Ytijbhcalknfijaa.Pure
