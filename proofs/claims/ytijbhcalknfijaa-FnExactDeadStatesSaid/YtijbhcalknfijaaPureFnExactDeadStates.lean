/- The law FnExactDeadStates over lists alone. No condition. -/
import Derived.Test.YtijbhcalknfijaaMx0
import Derived.Test.YtijbhcalknfijaaMx25
import Derived.Test.YtijbhcalknfijaaMx26
import Derived.Test.YtijbhcalknfijaaMx28
import Derived.Test.YtijbhcalknfijaaMx29
import Derived.Test.YtijbhcalknfijaaDistRun
import Derived.Test.YtijbhcalknfijaaGMarks
namespace Go.Proofs.Ytijbhcalknfijaa.Pure
open Go.RowKit Go.Proofs.Ytijbhcalknfijaa.M Go.Proofs.YtijbhcalknfijaaW.PrintWords Go.Proofs.YtijbhcalknfijaaW.PrintLast
def al (v : List Int) : List Bool := v.map (fun y => decide (0 ≤ y))
theorem al_len (v : List Int) : (al v).length = v.length := by simp [al]
theorem al_rd {v : List Int} {q : Int} (q0 : 0 ≤ q) (q1 : q < v.length) : rdOf false (al v) q = decide (0 ≤ rd v q) := by
  obtain ⟨i, rfl⟩ := Int.eq_ofNat_of_zero_le q0
  have hi : i < v.length := by omega
  rw [rd_at hi]
  simp [rdOf, al, List.getD_eq_getElem?_getD, List.getElem?_eq_getElem hi]
theorem ob_ext {u v : List Bool} (hl : u.length = v.length) (h : ∀ q : Int, 0 ≤ q → q < v.length → rdOf false u q = rdOf false v q) : u = v := by
  apply List.ext_getElem hl
  intro i h1 h2
  have := h (i : Int) (by omega) (by omega)
  simpa [rdOf, List.getD_eq_getElem?_getD, List.getElem?_eq_getElem h1, List.getElem?_eq_getElem h2] using this
theorem ob_set {v : List Bool} {p q : Int} {y : Bool} (hp : 0 ≤ p ∧ p < v.length) (hq : 0 ≤ q ∧ q < v.length) : rdOf false (v.set p.toNat y) q = if q = p then y else rdOf false v q := by
  obtain ⟨i, rfl⟩ := Int.eq_ofNat_of_zero_le hp.1
  obtain ⟨j, rfl⟩ := Int.eq_ofNat_of_zero_le hq.1
  have hj : j < v.length := by omega
  have hj' : j < (v.set i y).length := by simpa using hj
  simp only [rdOf, Int.toNat_natCast, List.getD_eq_getElem?_getD, List.getElem?_eq_getElem hj, List.getElem?_eq_getElem hj', Option.getD_some, List.getElem_set]
  by_cases c : i = j
  · rw [if_pos c, if_pos (by omega)]
  · rw [if_neg c, if_neg (by omega)]
section
variable {s t : Int} {f : List Int} {l : List S67}
theorem specA_l0 (h : okG s t f l = true) (hf : f.length ≤ 1048576) (d : Nat) : ∀ (k i : Nat) (v : List Bool), i + d = f.length → v.length = s.toNat → (∀ q : Int, 0 ≤ q → q < s → rdOf false v q = hasL (f.take i) q) → spec_l07Alive.l0 (k + d + 1) v (i : Int) s t f l = spec_l07Alive.l1 k (al (ini s f)) 0 s t f l := by
  have hs := okG_st h
  induction d with
  | zero =>
    intro k i v hi hv hq
    have e : v = al (ini s f) := ob_ext (by rw [hv, al_len, ini_len]) (fun q q0 q1 => by
      rw [al_len, ini_len] at q1
      rw [hq q q0 (by omega), al_rd q0 (by rw [ini_len]; omega), ini_rd s f q0 (by omega), List.take_of_length_le (by omega)]
      cases hasL f q <;> simp)
    rw [Nat.add_zero, spec_l07Alive.l0, if_neg (by omega), e]
  | succ d ih =>
    intro k i v hi hv hq
    have hlt : i < f.length := by omega
    have hx := okG_fin h (List.getElem_mem hlt)
    rw [show k + (d + 1) + 1 = (k + d + 1) + 1 by omega, spec_l07Alive.l0, if_pos (by omega), if_pos (by omega), rd_at hlt, if_pos (by omega), if_pos (by omega), w64 (by omega) (by omega), show ((i : Int) + 1) = ((i + 1 : Nat) : Int) by omega]
    refine ih k (i + 1) _ (by omega) (by simpa using hv) (fun q q0 q1 => ?_)
    rw [ob_set (by omega) (by omega), hq q q0 q1, List.take_succ_eq_append_getElem hlt]
    unfold hasL
    rw [List.any_append]
    by_cases z : q = f[i]
    · rw [if_pos z]; simp [z]
    · rw [if_neg z]
      have : (f[i] == q) = false := beq_eq_false_iff_ne.2 (fun e => z e.symm)
      simp [this]
theorem al_relax {v : List Int} (hl : (v.length : Int) = s) {x : S67} (h0 : 0 ≤ x.f0 ∧ x.f0 < s) (h2 : 0 ≤ x.f2 ∧ x.f2 < s) : al (relax v x) = if rdOf false (al v) x.f2 = true then (al v).set x.f0.toNat true else al v := by
  rw [al_rd h2.1 (by omega)]
  unfold relax
  by_cases c : upd v x
  · rw [if_pos c, if_pos (decide_eq_true c.1), al, List.map_set]
    have : decide (0 ≤ rd v x.f2 + 1) = true := decide_eq_true (by have := c.1; omega)
    rw [this]
    rfl
  · rw [if_neg c]
    by_cases z : 0 ≤ rd v x.f2
    · rw [if_pos (decide_eq_true z)]
      refine ob_ext (by simp) (fun q q0 q1 => ?_)
      rw [List.length_set, al_len] at q1
      rw [ob_set (by rw [al_len]; omega) (by rw [al_len]; omega)]
      by_cases e : q = x.f0
      · rw [if_pos e, e, al_rd h0.1 (by omega)]
        unfold upd at c
        exact decide_eq_true (by omega)
      · rw [if_neg e]
    · rw [if_neg (by rw [decide_eq_true_iff]; exact z)]
theorem specA_l2 (h : okG s t f l = true) (j : Int) (d : Nat) : ∀ (k i : Nat) (v : List Int), i + d = l.length → (v.length : Int) = s → spec_l07Alive.l2 (k + d + 1) (al v) j (i : Int) s t f l = spec_l07Alive.l1 k (al (passV (l.drop i) v)) (wrap64 (j + 1)) s t f l := by
  have hs := okG_st h
  have hll := okG_len h
  induction d with
  | zero =>
    intro k i v hi hv
    rw [Nat.add_zero, spec_l07Alive.l2, if_neg (by omega), List.drop_eq_nil_of_le (by omega), passV]
  | succ d ih =>
    intro k i v hi hv
    have hlt : i < l.length := by omega
    have hx := okG_arcs h l[i] (List.getElem_mem hlt)
    have hal := al_len v
    have i1 := ih k (i + 1) (relax v l[i]) (by omega) (by rw [relax_len]; exact hv)
    rw [al_relax hv hx.1 hx.2] at i1
    rw [show k + (d + 1) + 1 = (k + d + 1) + 1 by omega, spec_l07Alive.l2, if_pos (by omega), if_pos (by omega), rdA_at hlt, if_pos hx.2.1, if_pos (by omega), w64 (n := (i : Int) + 1) (by omega) (by omega), show ((i : Int) + 1) = ((i + 1 : Nat) : Int) by omega, List.drop_eq_getElem_cons hlt, passV]
    by_cases c : rdOf false (al v) l[i].f2 = true
    · rw [if_pos c] at i1
      rw [if_pos c, if_pos hx.1.1, if_pos (by omega), i1]
    · rw [if_neg c] at i1
      rw [if_neg c, i1]
theorem specA_l1 (h : okG s t f l = true) (d : Nat) : ∀ (k j : Nat) (v : List Int), (j : Int) + d = s → (v.length : Int) = s → spec_l07Alive.l1 (k + (l.length + 2) * d + 1) (al v) (j : Int) s t f l = some (al (itP l d v)) := by
  have hs := okG_st h
  induction d with
  | zero =>
    intro k j v hi hv
    rw [Nat.mul_zero, Nat.add_zero, spec_l07Alive.l1, if_neg (by omega), itP]
  | succ d ih =>
    intro k j v hi hv
    rw [Nat.mul_succ, show k + ((l.length + 2) * d + (l.length + 2)) + 1 = (k + (l.length + 2) * d + 1 + l.length + 1) + 1 by omega, spec_l07Alive.l1, if_pos (by omega)]
    have e := specA_l2 h (j : Int) l.length (k + (l.length + 2) * d + 1) 0 v (by omega) hv
    rw [List.drop_zero] at e
    rw [show spec_l07Alive.l2 (k + (l.length + 2) * d + 1 + l.length + 1) (al v) (j : Int) 0 s t f l = _ from e, w64 (by omega) (by omega), show ((j : Int) + 1) = ((j + 1 : Nat) : Int) by omega]
    exact ih k (j + 1) _ (by omega) (by rw [passV_len]; exact hv)
theorem specAlive (h : okG s t f l = true) (hf : f.length ≤ 1048576) (k : Nat) (hk : 2000000 ≤ k) : spec_l07Alive.f k s t f l = some (al (distG s f l)) := by
  have hs := okG_st h
  have hl := okG_len h
  have hb : (l.length + 2) * s.toNat ≤ 258 * 32 := Nat.mul_le_mul (by omega) (by omega)
  obtain ⟨k', rfl⟩ : ∃ k', k = (k' + (l.length + 2) * s.toNat + 1) + f.length + 1 := ⟨k - ((l.length + 2) * s.toNat + 1 + f.length + 1), by omega⟩
  have e1 := specA_l0 h hf f.length (k' + (l.length + 2) * s.toNat + 1) 0 (List.replicate s.toNat false) (by omega) (by simp) (fun q q0 q1 => by
    obtain ⟨i, rfl⟩ := Int.eq_ofNat_of_zero_le q0
    simp [rdOf, hasL, List.getD_eq_getElem?_getD, List.getElem?_replicate]
    split <;> rfl)
  rw [spec_l07Alive.f, if_pos (by omega), if_pos (by omega)]
  rw [show spec_l07Alive.l0 (k' + (l.length + 2) * s.toNat + 1 + f.length + 1) (List.replicate s.toNat false) 0 s t f l = _ from e1]
  exact specA_l1 h s.toNat k' 0 (ini s f) (by omega) (by rw [ini_len]; omega)
end
def deadL (v : List Int) : Nat → Nat → List Int
  | 0, _ => []
  | d + 1, i => (if 0 ≤ rd v (i : Int) then [] else [(i : Int)]) ++ deadL v d (i + 1)
theorem deadL_len (v : List Int) (d : Nat) : ∀ i, (deadL v d i).length ≤ d := by
  induction d with
  | zero => intro i; simp [deadL]
  | succ d ih => intro i; have := ih (i + 1); rw [deadL]; split <;> simp <;> omega
theorem dead_l0 (v : List Int) (hn : v.length ≤ 1048576) (d : Nat) : ∀ (k i : Nat) (acc : List Int), i + d = v.length → acc.length ≤ i → d < k → spec_DeadStates.l0 k (al v) acc (i : Int) = some (acc ++ deadL v d i, 0) ∧ impl_DeadStates.l0 k acc v (v.length : Int) (i : Int) = some (acc ++ deadL v d i, 0) := by
  have ha := al_len v
  induction d with
  | zero =>
    intro k i acc hi hc hk
    obtain ⟨k, rfl⟩ := succ_of hk
    rw [spec_DeadStates.l0, impl_DeadStates.l0, if_neg (by omega), if_neg (by omega), deadL, List.append_nil]
    exact ⟨rfl, rfl⟩
  | succ d ih =>
    intro k i acc hi hc hk
    obtain ⟨k, rfl⟩ := succ_of hk
    rw [spec_DeadStates.l0, impl_DeadStates.l0]
    simp only [if_pos (show (i : Int) < ((al v).length : Int) by omega), if_pos (show (i : Int) < (v.length : Int) by omega), if_pos (show (0 : Int) ≤ (i : Int) by omega)]
    rw [al_rd (by omega) (by omega), w64 (n := (i : Int) + 1) (by omega) (by omega), show ((i : Int) + 1) = ((i + 1 : Nat) : Int) by omega, deadL]
    by_cases z : 0 ≤ rd v (i : Int)
    · have e := ih k (i + 1) acc (by omega) (by omega) (by omega)
      rw [if_pos (decide_eq_true z), if_neg (show ¬ rd v (i : Int) < 0 by omega), if_pos z, List.nil_append]
      exact e
    · have e := ih k (i + 1) (acc ++ [(i : Int)]) (by omega) (by simp; omega) (by omega)
      rw [if_neg (by rw [decide_eq_true_iff]; exact z), if_pos (show rd v (i : Int) < 0 by omega), if_pos (show acc.length < 17592186044416 by omega), if_pos (show acc.length < 17592186044416 by omega), if_neg z, ← List.append_assoc]
      exact e
def dsN (s t : Int) (f : List Int) (l : List S67) : List Int × Int := if okG s t f l = true then (deadL (distG s f l) (distG s f l).length 0, 0) else ([], 1)
theorem ds_both (s t : Int) (f : List Int) (l : List S67) (hn : l.length ≤ 1048576) (hf : f.length ≤ 1048576) (k : Nat) (hk : 2200000 ≤ k) : spec_DeadStates.f k s t f l = some (dsN s t f l) ∧ impl_DeadStates.f k s t f l = some (dsN s t f l) := by
  rw [spec_DeadStates.f, impl_DeadStates.f, specOkG s t f l hf hn k hk, implOkG s t f l hf hn k hk, Option.bind_some, Option.bind_some]
  unfold dsN
  by_cases h : okG s t f l = true
  · have hs := okG_st h
    have hl := (distG_good h).len
    have e := dead_l0 (distG s f l) (by omega) (distG s f l).length k 0 [] (by omega) (by simp) (by omega)
    rw [List.nil_append] at e
    rw [if_pos h, if_pos h, if_pos h, specAlive h hf k (by omega), (implDist h hf).2 k (by omega), Option.bind_some, Option.bind_some]
    exact e
  · rw [if_neg h, if_neg h, if_neg h]
    exact ⟨rfl, rfl⟩
theorem ds_len (s t : Int) (f : List Int) (l : List S67) : (dsN s t f l).1.length ≤ 1048576 := by
  unfold dsN
  by_cases h : okG s t f l = true
  · have hs := okG_st h
    have hl := (distG_good h).len
    have := deadL_len (distG s f l) (distG s f l).length 0
    rw [if_pos h]
    simp only
    omega
  · rw [if_neg h]
    simp
theorem FnExactDeadStates : laws_FnExactDeadStates.Pure := by
  intro s t f l h0 h1 hf hl
  obtain ⟨k, hk⟩ : ∃ k, 2300000 ≤ k := ⟨_, Nat.le_refl _⟩
  refine ⟨k + 5, ?_⟩
  rw [laws_FnExactDeadStates.f, szG s t f l _ hf.1 hl.1 (by omega) (by omega), Option.bind_some]
  by_cases c : (1048576 : Int) - f.length - l.length < 0
  · simp [c]
  · have hn : l.length ≤ 1048576 := by omega
    have hm : f.length ≤ 1048576 := by omega
    have hn' : (l.map cvA).length ≤ 1048576 := by simpa using hn
    have T := toG s t f l hm hn
    have S := fun j hj => (ds_both s t f (l.map cvA) hn' hm j hj).1
    have I := fun j hj => (ds_both s t f (l.map cvA) hn' hm j hj).2
    have EG := eqG s t f (l.map cvA) hm hn'
    obtain ⟨mm, my, MG⟩ := markG s t f (l.map cvA) hm hn'
    have wl := ds_len s t f (l.map cvA)
    rw [if_neg c, if_neg c]
    generalize dsN s t f (l.map cvA) = W at *
    obtain ⟨w, w2⟩ := W
    simp only at wl
    generalize l.map cvA = m at *
    have E := eqI w (by omega)
    have M := markI w (by omega)
    have H := heldI w.length (by omega)
    have c1 : ¬ ((1 + (f.length : Int) + 3 * (m.length : Int)) < 0) := by omega
    have c2 : ¬ ((1 + (w.length : Int)) < 0) := by omega
    rw [T _ (by omega), Option.bind_some]
    dsimp only
    rw [S _ (by omega), Option.bind_some, Option.bind_some]
    dsimp only
    rw [I _ (by omega), Option.bind_some]
    dsimp only
    rw [E _ (by omega), Option.bind_some, if_pos rfl, bne_self_eq_false, laws_FnExactDeadStates.j0, if_neg (by decide), T _ (by omega), Option.bind_some]
    dsimp only
    rw [EG _ (by omega), Option.bind_some, if_pos rfl, MG _ (by omega), Option.bind_some]
    dsimp only
    rw [if_neg c1, E _ (by omega), Option.bind_some, if_pos rfl, bne_self_eq_false, laws_FnExactDeadStates.j1, if_neg (by decide), M _ (by omega), Option.bind_some]
    dsimp only
    rw [H _ (by omega), Option.bind_some, if_neg c2, if_pos rfl, T _ (by omega), Option.bind_some]
    dsimp only
    rw [I _ (by omega), Option.bind_some]
    dsimp only
    rw [E _ (by omega), Option.bind_some, if_pos rfl, bne_self_eq_false, laws_FnExactDeadStates.j2, if_neg (by decide), H _ (by omega), Option.bind_some, if_neg c2, if_pos rfl]


end Go.Proofs.Ytijbhcalknfijaa.Pure
