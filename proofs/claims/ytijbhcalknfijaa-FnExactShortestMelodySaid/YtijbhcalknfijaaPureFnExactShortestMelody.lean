/- The law FnExactShortestMelody over lists alone. No condition. -/
import Derived.Test.YtijbhcalknfijaaM3x0
import Derived.Test.YtijbhcalknfijaaM3x9
import Derived.Test.YtijbhcalknfijaaM3x10
import Derived.Test.YtijbhcalknfijaaM3x18
import Derived.Test.YtijbhcalknfijaaM3x19
import Derived.Test.YtijbhcalknfijaaDistRun3
import Derived.Test.YtijbhcalknfijaaGMarks3
namespace Go.Proofs.Ytijbhcalknfijaa.Pure
open Go.RowKit Go.Proofs.Ytijbhcalknfijaa.M3 Go.Proofs.YtijbhcalknfijaaW.PrintWords Go.Proofs.YtijbhcalknfijaaW.PrintLast
section
variable {s t : Int} {f : List Int} {l : List S67}
theorem specF_l0 (hs : 1 ≤ s ∧ s ≤ 32) (d : Nat) : ∀ (k i : Nat), i + d = s.toNat → spec_l07Far.l0 (k + d + 1) (List.replicate i (-1)) (i : Int) s t f l = spec_l07Far.l1 k (List.replicate s.toNat (-1)) 0 s t f l := by
  induction d with
  | zero =>
    intro k i hi
    obtain rfl : i = s.toNat := by omega
    rw [Nat.add_zero, spec_l07Far.l0, if_neg (by omega)]
  | succ d ih =>
    intro k i hi
    rw [show k + (d + 1) + 1 = (k + d + 1) + 1 by omega, spec_l07Far.l0, if_pos (by omega), List.length_replicate, if_pos (by omega), w64 (by omega) (by omega), show ((i : Int) + 1) = ((i + 1 : Nat) : Int) by omega, ← List.replicate_succ']
    exact ih k (i + 1) (by omega)
theorem specF_l1 (h : okG s t f l = true) (hf : f.length ≤ 1048576) (d : Nat) : ∀ (k i : Nat) (v : List Int), i + d = f.length → v.length = s.toNat → (∀ q : Int, 0 ≤ q → q < s → rd v q = if hasL (f.take i) q = true then 0 else -1) → spec_l07Far.l1 (k + d + 1) v (i : Int) s t f l = spec_l07Far.l2 k (ini s f) 0 s t f l := by
  have hs := okG_st h
  induction d with
  | zero =>
    intro k i v hi hv hq
    have e : v = ini s f := rd_ext (by rw [hv, ini_len]) (fun q q0 q1 => by
      rw [ini_len] at q1
      rw [hq q q0 (by omega), ini_rd s f q0 (by omega), List.take_of_length_le (by omega)])
    rw [Nat.add_zero, spec_l07Far.l1, if_neg (by omega), e]
  | succ d ih =>
    intro k i v hi hv hq
    have hlt : i < f.length := by omega
    have hx := okG_fin h (List.getElem_mem hlt)
    rw [show k + (d + 1) + 1 = (k + d + 1) + 1 by omega, spec_l07Far.l1, if_pos (by omega), if_pos (by omega), rd_at hlt, if_pos (by omega), if_pos (by omega), w64 (by omega) (by omega), show ((i : Int) + 1) = ((i + 1 : Nat) : Int) by omega]
    refine ih k (i + 1) _ (by omega) (by simpa using hv) (fun q q0 q1 => ?_)
    rw [rd_set (by omega) (by omega), hq q q0 q1, List.take_succ_eq_append_getElem hlt]
    unfold hasL
    rw [List.any_append]
    by_cases z : q = f[i]
    · rw [if_pos z]; simp [z]
    · rw [if_neg z]
      have : (f[i] == q) = false := beq_eq_false_iff_ne.2 (fun e => z e.symm)
      simp [this]
theorem specF_l3 (h : okG s t f l = true) (j : Int) (d : Nat) : ∀ (k i : Nat) (v : List Int), i + d = l.length → Good s f l v → spec_l07Far.l3 (k + d + 1) v j (i : Int) s t f l = spec_l07Far.l2 k (passV (l.drop i) v) (wrap64 (j + 1)) s t f l := by
  have hs := okG_st h
  have hll := okG_len h
  induction d with
  | zero =>
    intro k i v hi hv
    rw [Nat.add_zero, spec_l07Far.l3, if_neg (by omega), List.drop_eq_nil_of_le (by omega), passV]
  | succ d ih =>
    intro k i v hi hv
    have hlt : i < l.length := by omega
    have hx := okG_arcs h l[i] (List.getElem_mem hlt)
    have hl := hv.len
    have g2 := good_lt hv (by omega) hx.2.1 hx.2.2
    rw [show k + (d + 1) + 1 = (k + d + 1) + 1 by omega, spec_l07Far.l3, if_pos (by omega), if_pos (by omega), rdA_at hlt, if_pos hx.2.1, if_pos (by omega), w64 (n := rd v l[i].f2 + 1) (by omega) (by omega), w64 (n := (i : Int) + 1) (by omega) (by omega), show ((i : Int) + 1) = ((i + 1 : Nat) : Int) by omega, List.drop_eq_getElem_cons hlt, passV]
    have gr := relax_good hv (List.getElem_mem hlt) hx.1 hx.2
    have i1 := ih k (i + 1) _ (by omega) gr
    by_cases y : rd v l[i].f2 ≥ 0
    · rw [if_pos y, if_pos hx.1.1, if_pos (by omega)]
      by_cases c : upd v l[i]
      · have e : relax v l[i] = v.set l[i].f0.toNat (rd v l[i].f2 + 1) := by unfold relax; rw [if_pos c]
        rw [e] at i1 ⊢
        obtain ⟨c1, c2⟩ := c
        by_cases z : rd v l[i].f0 < 0
        · rw [if_pos z, i1]
        · rw [if_neg z, if_pos (by omega), i1]
      · have e : relax v l[i] = v := by unfold relax; rw [if_neg c]
        rw [e] at i1 ⊢
        unfold upd at c
        rw [if_neg (by omega), if_neg (by omega), i1]
    · have e : relax v l[i] = v := by unfold relax; rw [if_neg (fun c => y c.1)]
      rw [e] at i1 ⊢
      rw [if_neg y, i1]
theorem specF_l2 (h : okG s t f l = true) (d : Nat) : ∀ (k j : Nat) (v : List Int), (j : Int) + d = s → Good s f l v → spec_l07Far.l2 (k + (l.length + 2) * d + 1) v (j : Int) s t f l = some (itP l d v) := by
  have hs := okG_st h
  induction d with
  | zero =>
    intro k j v hi hv
    rw [Nat.mul_zero, Nat.add_zero, spec_l07Far.l2, if_neg (by omega), itP]
  | succ d ih =>
    intro k j v hi hv
    rw [Nat.mul_succ, show k + ((l.length + 2) * d + (l.length + 2)) + 1 = (k + (l.length + 2) * d + 1 + l.length + 1) + 1 by omega, spec_l07Far.l2, if_pos (by omega)]
    have e := specF_l3 h (j : Int) l.length (k + (l.length + 2) * d + 1) 0 v (by omega) hv
    rw [List.drop_zero] at e
    rw [show spec_l07Far.l3 (k + (l.length + 2) * d + 1 + l.length + 1) v (j : Int) 0 s t f l = _ from e, w64 (by omega) (by omega), show ((j : Int) + 1) = ((j + 1 : Nat) : Int) by omega]
    exact ih k (j + 1) _ (by omega) (passV_good (okG_arcs h) l v (fun _ hx => hx) hv)
theorem specFar (h : okG s t f l = true) (hf : f.length ≤ 1048576) (k : Nat) (hk : 2000000 ≤ k) : spec_l07Far.f k s t f l = some (distG s f l) := by
  have hs := okG_st h
  have hl := okG_len h
  have hb : (l.length + 2) * s.toNat ≤ 258 * 32 := Nat.mul_le_mul (by omega) (by omega)
  obtain ⟨k', rfl⟩ : ∃ k', k = ((k' + (l.length + 2) * s.toNat + 1) + f.length + 1) + s.toNat + 1 := ⟨k - ((l.length + 2) * s.toNat + 1 + f.length + 1 + s.toNat + 1), by omega⟩
  have e0 := specF_l0 (t := t) (f := f) (l := l) ⟨hs.1, hs.2.1⟩ s.toNat ((k' + (l.length + 2) * s.toNat + 1) + f.length + 1) 0 (by omega)
  have e1 := specF_l1 h hf f.length (k' + (l.length + 2) * s.toNat + 1) 0 (List.replicate s.toNat (-1)) (by omega) (by simp) (fun q q0 q1 => by
    obtain ⟨i, rfl⟩ := Int.eq_ofNat_of_zero_le q0
    rw [rd_at (by rw [List.length_replicate]; omega)]
    simp [hasL])
  rw [spec_l07Far.f]
  rw [show spec_l07Far.l0 (k' + (l.length + 2) * s.toNat + 1 + f.length + 1 + s.toNat + 1) [] 0 s t f l = _ from e0]
  rw [show spec_l07Far.l1 (k' + (l.length + 2) * s.toNat + 1 + f.length + 1) (List.replicate s.toNat (-1)) 0 s t f l = _ from e1]
  exact specF_l2 h s.toNat k' 0 (ini s f) (by omega) (ini_good s f l (by omega))
def pk (d : List Int) (x : Int) (n : Nat) (a : S67) : Bool := a.f0 == x && decide (rd d a.f2 = (n : Int))
def wlk (d : List Int) (l : List S67) : Nat → Int → List Int
  | 0, _ => []
  | n + 1, x => match l.find? (pk d x n) with
    | some a => a.f1 :: wlk d l n a.f2
    | none => []
theorem wlk_some {d : List Int} {l : List S67} {n : Nat} {x : Int} {a : S67} (h : l.find? (pk d x n) = some a) : wlk d l (n + 1) x = a.f1 :: wlk d l n a.f2 := by rw [wlk, h]
theorem wlk_len (d : List Int) (l : List S67) : ∀ (n : Nat) (x : Int), (wlk d l n x).length ≤ n
  | 0, _ => by simp [wlk]
  | n + 1, x => by
    rw [wlk]
    cases l.find? (pk d x n) with
    | none => simp
    | some a => have := wlk_len d l n a.f2; simp only [List.length_cons]; omega
theorem specW_l1 (h : okG s t f l = true) {d : List Int} (hd : (d.length : Int) = s) {n : Nat} {x : Int} (hx : 0 ≤ x ∧ x < s) (hn : rd d x = (n : Int) + 1) (hn2 : n ≤ 1048576) {acc : List Int} (hc : acc.length ≤ 1048576) {a : S67} {R : List Int × Int} {N : Nat} (g : ∀ k, N ≤ k → spec_ShortestMelody.l0 k d (acc ++ [a.f1]) a.f2 s t f l = some R) (e : Nat) : ∀ (k i : Nat), i + e = l.length → N + e + 1 ≤ k → (l.drop i).find? (pk d x n) = some a → spec_ShortestMelody.l1 k d acc x (i : Int) s t f l = some R := by
  have hll := okG_len h
  induction e with
  | zero =>
    intro k i hi hk hf
    rw [List.drop_eq_nil_of_le (by omega)] at hf
    simp at hf
  | succ e ih =>
    intro k i hi hk hf
    have hlt : i < l.length := by omega
    have hy := okG_arcs h l[i] (List.getElem_mem hlt)
    obtain ⟨k, rfl⟩ : ∃ k', k = k' + 1 := ⟨k - 1, by omega⟩
    rw [List.drop_eq_getElem_cons hlt] at hf
    rw [spec_ShortestMelody.l1, if_pos (by omega), if_pos (by omega), rdA_at hlt, w64 (n := (i : Int) + 1) (by omega) (by omega), show ((i : Int) + 1) = ((i + 1 : Nat) : Int) by omega]
    by_cases c : l[i].f0 = x
    · rw [if_pos c, if_pos hy.2.1, if_pos (by omega), if_pos hx.1, if_pos (by omega), hn, w64 (by omega) (by omega), show (n : Int) + 1 - 1 = n by omega]
      by_cases z : rd d l[i].f2 = (n : Int)
      · rw [List.find?_cons_of_pos (by simp [pk, c, z])] at hf
        obtain rfl := Option.some.inj hf
        rw [if_pos z, if_pos (by omega)]
        exact g k (by omega)
      · rw [List.find?_cons_of_neg (by simp [pk, z])] at hf
        rw [if_neg z]
        exact ih k (i + 1) (by omega) (by omega) hf
    · rw [List.find?_cons_of_neg (by simp [pk, c])] at hf
      rw [if_neg c]
      exact ih k (i + 1) (by omega) (by omega) hf
theorem implW_l1 {m : List S67} (hm : ∀ y ∈ m, 0 ≤ y.f2 ∧ y.f2 < s) (hml : m.length ≤ 1048576) {d : List Int} (hd : (d.length : Int) = s) {n : Nat} {x : Int} (hx : 0 ≤ x ∧ x < s) (hn : rd d x = (n : Int) + 1) (hn2 : n ≤ 1048576) {acc : List Int} (hc : acc.length ≤ 1048576) {a : S67} {R : List Int × Int} {N : Nat} (g : ∀ k, N ≤ k → impl_ShortestMelody.l0 k d (acc ++ [a.f1]) a.f2 s t f l = some R) (e : Nat) : ∀ (k i : Nat), i + e = m.length → N + e + 1 ≤ k → (m.drop i).find? (fun y => decide (rd d y.f2 = (n : Int))) = some a → impl_ShortestMelody.l1 k d acc x m (m.length : Int) (i : Int) s t f l = some R := by
  induction e with
  | zero =>
    intro k i hi hk hf
    rw [List.drop_eq_nil_of_le (by omega)] at hf
    simp at hf
  | succ e ih =>
    intro k i hi hk hf
    have hlt : i < m.length := by omega
    have hy := hm m[i] (List.getElem_mem hlt)
    obtain ⟨k, rfl⟩ : ∃ k', k = k' + 1 := ⟨k - 1, by omega⟩
    rw [List.drop_eq_getElem_cons hlt] at hf
    rw [impl_ShortestMelody.l1]
    simp only [if_pos (show (i : Int) < (m.length : Int) by omega), if_pos (show (0 : Int) ≤ (i : Int) by omega)]
    rw [rdA_at hlt, w64 (n := (i : Int) + 1) (by omega) (by omega), show ((i : Int) + 1) = ((i + 1 : Nat) : Int) by omega, if_pos hy.1, if_pos (by omega), if_pos hx.1, if_pos (by omega), hn, w64 (by omega) (by omega), show (n : Int) + 1 - 1 = n by omega]
    by_cases z : rd d m[i].f2 = (n : Int)
    · rw [List.find?_cons_of_pos (by simp [z])] at hf
      obtain rfl := Option.some.inj hf
      rw [if_pos z, if_pos (by omega)]
      exact g k (by omega)
    · rw [List.find?_cons_of_neg (by simp [z])] at hf
      rw [if_neg z]
      exact ih k (i + 1) (by omega) (by omega) hf
theorem find_from (d : List Int) (l : List S67) (x : Int) (n : Nat) : (from_ l x).find? (fun y => decide (rd d y.f2 = (n : Int))) = l.find? (pk d x n) := by
  unfold from_
  induction l with
  | nil => rfl
  | cons b l ih =>
    by_cases c : b.f0 = x
    · rw [List.filter_cons_of_pos (by simp [c])]
      by_cases z : rd d b.f2 = (n : Int)
      · rw [List.find?_cons_of_pos (by simp [z]), List.find?_cons_of_pos (by simp [pk, c, z])]
      · rw [List.find?_cons_of_neg (by simp [z]), List.find?_cons_of_neg (by simp [pk, z]), ih]
    · rw [List.filter_cons_of_neg (by simp [c]), List.find?_cons_of_neg (by simp [pk, c]), ih]
def Has (s : Int) (l : List S67) (d : List Int) : Prop := ∀ (n : Nat) (x : Int), 0 ≤ x → x < s → rd d x = (n : Int) + 1 → ∃ a, l.find? (pk d x n) = some a
theorem pk_of {d : List Int} {x : Int} {n : Nat} {a : S67} (h : l.find? (pk d x n) = some a) : a ∈ l ∧ rd d a.f2 = (n : Int) := by
  refine ⟨List.mem_of_find?_eq_some h, ?_⟩
  have := List.find?_some h
  simp [pk] at this
  exact this.2
theorem specW (h : okG s t f l = true) {d : List Int} (hd : (d.length : Int) = s) (hh : Has s l d) : ∀ (n : Nat) (x : Int) (acc : List Int) (k : Nat), 0 ≤ x → x < s → rd d x = (n : Int) → acc.length + n ≤ 1048576 → (l.length + 3) * n + 1 ≤ k → spec_ShortestMelody.l0 k d acc x s t f l = some (acc ++ wlk d l n x, 0) := by
  intro n
  induction n with
  | zero =>
    intro x acc k h0 h1 hn hc hk
    obtain ⟨k, rfl⟩ : ∃ k', k = k' + 1 := ⟨k - 1, by omega⟩
    rw [spec_ShortestMelody.l0, if_pos h0, if_pos (by omega), if_neg (by omega), wlk, List.append_nil]
  | succ n ih =>
    intro x acc k h0 h1 hn hc hk
    rw [Nat.mul_succ] at hk
    obtain ⟨a, ha⟩ := hh n x h0 h1 (by omega)
    have hp := pk_of ha
    have hy := okG_arcs h a hp.1
    obtain ⟨k, rfl⟩ : ∃ k', k = k' + 1 := ⟨k - 1, by omega⟩
    rw [spec_ShortestMelody.l0, if_pos h0, if_pos (by omega), if_pos (by omega), wlk_some ha]
    refine specW_l1 h hd ⟨h0, h1⟩ (n := n) (by omega) (by omega) (by omega) (N := (l.length + 3) * n + 1) (a := a) (fun k' hk' => ?_) l.length k 0 (by omega) (by omega) (by rw [List.drop_zero]; exact ha)
    have := ih a.f2 (acc ++ [a.f1]) k' hy.2.1 hy.2.2 hp.2 (by simp; omega) hk'
    rw [this, List.append_assoc]
    rfl
theorem implW (h : okG s t f l = true) {d : List Int} (hd : (d.length : Int) = s) (hh : Has s l d) : ∀ (n : Nat) (x : Int) (acc : List Int) (k : Nat), 0 ≤ x → x < s → rd d x = (n : Int) → acc.length + n ≤ 1048576 → (l.length + 3) * n + 1048579 ≤ k → impl_ShortestMelody.l0 k d acc x s t f l = some (acc ++ wlk d l n x, 0) := by
  have hll := okG_len h
  intro n
  induction n with
  | zero =>
    intro x acc k h0 h1 hn hc hk
    obtain ⟨k, rfl⟩ : ∃ k', k = k' + 1 := ⟨k - 1, by omega⟩
    rw [impl_ShortestMelody.l0, if_pos h0, if_pos (by omega), if_neg (by omega), wlk, List.append_nil]
  | succ n ih =>
    intro x acc k h0 h1 hn hc hk
    rw [Nat.mul_succ] at hk
    obtain ⟨a, ha⟩ := hh n x h0 h1 (by omega)
    have hp := pk_of ha
    have hy := okG_arcs h a hp.1
    have hfl := from_len l x
    obtain ⟨k, rfl⟩ : ∃ k', k = k' + 1 := ⟨k - 1, by omega⟩
    rw [impl_ShortestMelody.l0, if_pos h0, if_pos (by omega), if_pos (by omega), wlk_some ha, arcsOf s t f l x (by omega) k (by omega), Option.bind_some]
    refine implW_l1 (m := from_ l x) (fun y hy => (okG_arcs h y (List.mem_filter.1 hy).1).2) (by omega) hd ⟨h0, h1⟩ (n := n) (by omega) (by omega) (by omega) (N := (l.length + 3) * n + 1048579) (a := a) (fun k' hk' => ?_) (from_ l x).length k 0 (by omega) (by omega) (by rw [List.drop_zero, find_from]; exact ha)
    have := ih a.f2 (acc ++ [a.f1]) k' hy.2.1 hy.2.2 hp.2 (by simp; omega) hk'
    rw [this, List.append_assoc]
    rfl
theorem distG_has (h : okG s t f l = true) (hf : f.length ≤ 1048576) : Has s l (distG s f l) := by
  intro n x x0 x1 hx
  have hs := okG_st h
  have hg := distG_good h
  have hp := (implDist h hf).1
  have ha := okG_arcs h
  have h0 : ∀ y ∈ f, 0 ≤ rd (distG s f l) y ∧ rd (distG s f l) y ≤ 0 := fun y hy => by
    have hb := okG_fin h hy
    have := distG_HH h 0 (by omega) y hb.1 (by omega) hy
    simpa using this
  have hw := hg.sound x x0 x1 (by omega)
  rw [hx, show ((n : Int) + 1).toNat = n + 1 by omega] at hw
  obtain ⟨a, ha1, rfl, hw'⟩ := hw
  have aa := ha a ha1
  have b := fix_low ha hg h0 hp n a.f2 aa.2.1 aa.2.2 hw'
  have c := passV_arc l _ ha hg.len a ha1 b.1
  rw [hp] at c
  cases e : l.find? (pk (distG s f l) a.f0 n) with
  | some b => exact ⟨b, rfl⟩
  | none =>
    have := List.find?_eq_none.1 e a ha1
    simp [pk] at this
    omega
end
def smN (s t : Int) (f : List Int) (l : List S67) : List Int × Int := if okG s t f l = true then (if rd (distG s f l) t < 0 then ([], 3) else (wlk (distG s f l) l (rd (distG s f l) t).toNat t, 0)) else ([], 1)
theorem sm_both (s t : Int) (f : List Int) (l : List S67) (hn : l.length ≤ 1048576) (hf : f.length ≤ 1048576) (k : Nat) (hk : 2200000 ≤ k) : spec_ShortestMelody.f k s t f l = some (smN s t f l) ∧ impl_ShortestMelody.f k s t f l = some (smN s t f l) := by
  rw [spec_ShortestMelody.f, impl_ShortestMelody.f, specOkG s t f l hf hn k hk, implOkG s t f l hf hn k hk, Option.bind_some, Option.bind_some]
  unfold smN
  by_cases h : okG s t f l = true
  · have hs := okG_st h
    have hll := okG_len h
    have hg := distG_good h
    have hl := hg.len
    have hb := good_lt hg (by omega) hs.2.2.1 (show t < s by omega)
    rw [if_pos h, if_pos h, if_pos h, specFar h hf k (by omega), (implDist h hf).2 k (by omega), Option.bind_some, Option.bind_some]
    simp only [if_pos hs.2.2.1, if_pos (show t < ((distG s f l).length : Int) by omega)]
    by_cases c : rd (distG s f l) t < 0
    · rw [if_pos c, if_pos c, if_pos c]
      exact ⟨rfl, rfl⟩
    · have hm : (l.length + 3) * (rd (distG s f l) t).toNat ≤ 259 * 32 := Nat.mul_le_mul (by omega) (by omega)
      rw [if_neg c, if_neg c, if_neg c]
      have hd := distG_has h hf
      refine ⟨specW h hl hd (rd (distG s f l) t).toNat t [] k hs.2.2.1 (by omega) (by omega) (by simp; omega) (by omega), implW h hl hd (rd (distG s f l) t).toNat t [] k hs.2.2.1 (by omega) (by omega) (by simp; omega) (by omega)⟩
  · rw [if_neg h, if_neg h, if_neg h]
    exact ⟨rfl, rfl⟩
theorem sm_len (s t : Int) (f : List Int) (l : List S67) : (smN s t f l).1.length ≤ 1048576 := by
  unfold smN
  by_cases h : okG s t f l = true
  · have hs := okG_st h
    have hb := good_lt (distG_good h) (by omega) hs.2.2.1 (show t < s by omega)
    have := wlk_len (distG s f l) l (rd (distG s f l) t).toNat t
    rw [if_pos h]
    split
    · simp
    · simp only
      omega
  · rw [if_neg h]
    simp
theorem FnExactShortestMelody : laws_FnExactShortestMelody.Pure := by
  intro s t f l h0 h1 hf hl
  obtain ⟨k, hk⟩ : ∃ k, 2300000 ≤ k := ⟨_, Nat.le_refl _⟩
  refine ⟨k + 5, ?_⟩
  rw [laws_FnExactShortestMelody.f, szG s t f l _ hf.1 hl.1 (by omega) (by omega), Option.bind_some]
  by_cases c : (1048576 : Int) - f.length - l.length < 0
  · simp [c]
  · have hn : l.length ≤ 1048576 := by omega
    have hm : f.length ≤ 1048576 := by omega
    have hn' : (l.map cvA).length ≤ 1048576 := by simpa using hn
    have T := toG s t f l hm hn
    have S := fun j hj => (sm_both s t f (l.map cvA) hn' hm j hj).1
    have I := fun j hj => (sm_both s t f (l.map cvA) hn' hm j hj).2
    have EG := eqG s t f (l.map cvA) hm hn'
    obtain ⟨mm, my, MG⟩ := markG s t f (l.map cvA) hm hn'
    have wl := sm_len s t f (l.map cvA)
    rw [if_neg c, if_neg c]
    generalize smN s t f (l.map cvA) = W at *
    obtain ⟨w, w2⟩ := W
    simp only at wl
    generalize l.map cvA = m at *
    have E := eqI w (by omega)
    have M := markI w (by omega)
    have H := heldI w.length (by omega)
    have c1 : ¬ ((1 + (f.length : Int) + 3 * (m.length : Int)) < 0) := by omega
    have c2 : ¬ ((1 + (w.length : Int)) < 0) := by omega
    rw [T _ (by omega), Option.bind_some]
    dsimp only
    rw [S _ (by omega), Option.bind_some, Option.bind_some]
    dsimp only
    rw [I _ (by omega), Option.bind_some]
    dsimp only
    rw [E _ (by omega), Option.bind_some, if_pos rfl, bne_self_eq_false, laws_FnExactShortestMelody.j0, if_neg (by decide), T _ (by omega), Option.bind_some]
    dsimp only
    rw [EG _ (by omega), Option.bind_some, if_pos rfl, MG _ (by omega), Option.bind_some]
    dsimp only
    rw [if_neg c1, E _ (by omega), Option.bind_some, if_pos rfl, bne_self_eq_false, laws_FnExactShortestMelody.j1, if_neg (by decide), M _ (by omega), Option.bind_some]
    dsimp only
    rw [H _ (by omega), Option.bind_some, if_neg c2, if_pos rfl, T _ (by omega), Option.bind_some]
    dsimp only
    rw [I _ (by omega), Option.bind_some]
    dsimp only
    rw [E _ (by omega), Option.bind_some, if_pos rfl, bne_self_eq_false, laws_FnExactShortestMelody.j2, if_neg (by decide), H _ (by omega), Option.bind_some, if_neg c2, if_pos rfl]


end Go.Proofs.Ytijbhcalknfijaa.Pure
