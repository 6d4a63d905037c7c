/- Distances to a final state: the reference relaxes as often as there are states, the program until nothing changes; both end at one row. No condition. -/
import Derived.Test.YtijbhcalknfijaaM3x0
import Derived.Test.YtijbhcalknfijaaHas3
namespace Go.Proofs.Ytijbhcalknfijaa.Pure
open Go.RowKit Go.Proofs.Ytijbhcalknfijaa.M3 Go.Proofs.YtijbhcalknfijaaW.PrintWords Go.Proofs.YtijbhcalknfijaaW.PrintLast
theorem rd_set {v : List Int} {p q y : Int} (hp : 0 ≤ p ∧ p < v.length) (hq : 0 ≤ q ∧ q < v.length) : rd (v.set p.toNat y) q = if q = p then y else rd v q := by
  obtain ⟨i, rfl⟩ := Int.eq_ofNat_of_zero_le hp.1
  obtain ⟨j, rfl⟩ := Int.eq_ofNat_of_zero_le hq.1
  have hj : j < v.length := by omega
  rw [Int.toNat_natCast, rd_at (show j < (v.set i y).length by simpa using hj), rd_at hj, List.getElem_set]
  by_cases c : i = j
  · rw [if_pos c, if_pos (by omega)]
  · rw [if_neg c, if_neg (by omega)]
theorem rd_ext {u v : List Int} (hl : u.length = v.length) (h : ∀ q : Int, 0 ≤ q → q < v.length → rd u q = rd v q) : u = v := by
  apply List.ext_getElem hl
  intro i h1 h2
  have := h (i : Int) (by omega) (by omega)
  rwa [rd_at h1, rd_at h2] at this
def Wk (f : List Int) (l : List S67) : Nat → Int → Prop
  | 0, x => x ∈ f
  | j + 1, x => ∃ a ∈ l, a.f0 = x ∧ Wk f l j a.f2
def cnt (v : List Int) : Nat := v.countP (fun y => decide (0 ≤ y))
structure Good (s : Int) (f : List Int) (l : List S67) (v : List Int) : Prop where
  len : (v.length : Int) = s
  low : ∀ q : Int, 0 ≤ q → q < s → -1 ≤ rd v q
  sound : ∀ q : Int, 0 ≤ q → q < s → 0 ≤ rd v q → Wk f l (rd v q).toNat q
  bound : ∀ q : Int, 0 ≤ q → q < s → rd v q < cnt v
def Le (s : Int) (u v : List Int) : Prop := ∀ q : Int, 0 ≤ q → q < s → 0 ≤ rd v q → 0 ≤ rd u q ∧ rd u q ≤ rd v q
theorem Le.refl (s : Int) (v : List Int) : Le s v v := fun _ _ _ h => ⟨h, Int.le_refl _⟩
theorem Le.trans {s : Int} {u v w : List Int} (h : Le s u v) (g : Le s v w) : Le s u w := fun q h0 h1 h2 => by
  have a := g q h0 h1 h2
  have b := h q h0 h1 a.1
  omega
def upd (v : List Int) (x : S67) : Prop := 0 ≤ rd v x.f2 ∧ (rd v x.f0 < 0 ∨ rd v x.f2 + 1 < rd v x.f0)
instance (v : List Int) (x : S67) : Decidable (upd v x) := by unfold upd; exact inferInstance
def relax (v : List Int) (x : S67) : List Int := if upd v x then v.set x.f0.toNat (rd v x.f2 + 1) else v
def passV : List S67 → List Int → List Int
  | [], v => v
  | x :: l, v => passV l (relax v x)
def passB : List S67 → List Int → Bool → Bool
  | [], _, b => b
  | x :: l, v, b => passB l (relax v x) (if upd v x then true else b)
def gm (s : Int) (y : Int) : Nat := if y < 0 then s.toNat else y.toNat
def mea (s : Int) (v : List Int) : Nat := (v.map (gm s)).sum
theorem sum_set_lt (g : Int → Nat) : ∀ (v : List Int) (i : Nat) (h : i < v.length) (a : Int), g a < g v[i] → ((v.set i a).map g).sum < (v.map g).sum
  | [], i, h, a, _ => by simp at h
  | x :: v, 0, h, a, h1 => by
    simp only [List.set_cons_zero, List.map_cons, List.sum_cons]
    simp only [List.getElem_cons_zero] at h1
    omega
  | x :: v, i + 1, h, a, h1 => by
    simp only [List.set_cons_succ, List.map_cons, List.sum_cons]
    have := sum_set_lt g v i (by simpa using h) a (by simpa using h1)
    omega
theorem sum_le (g : Int → Nat) (B : Nat) (h : ∀ y, g y ≤ B) : ∀ v : List Int, (∀ y ∈ v, g y ≤ B) → (v.map g).sum ≤ v.length * B
  | [], _ => by simp
  | x :: v, hv => by
    simp only [List.map_cons, List.sum_cons, List.length_cons, Nat.succ_mul]
    have := sum_le g B h v (fun y hy => hv y (List.mem_cons_of_mem _ hy))
    have := hv x (List.mem_cons_self ..)
    omega
section
variable {s : Int} {f : List Int} {l : List S67} {v : List Int}
theorem cnt_le (v : List Int) : cnt v ≤ v.length := List.countP_le_length
theorem relax_good (h : Good s f l v) {x : S67} (hx : x ∈ l) (h0 : 0 ≤ x.f0 ∧ x.f0 < s) (h2 : 0 ≤ x.f2 ∧ x.f2 < s) : Good s f l (relax v x) := by
  unfold relax
  by_cases c : upd v x
  · rw [if_pos c]
    obtain ⟨c1, c2⟩ := c
    have hl := h.len
    have hb := h.bound x.f2 h2.1 h2.2
    have hs := h.sound x.f2 h2.1 h2.2 c1
    have hi : x.f0.toNat < v.length := by omega
    have hv : v[x.f0.toNat] = rd v x.f0 := by
      have := rd_at hi
      rw [show ((x.f0.toNat : Nat) : Int) = x.f0 by omega] at this
      exact this.symm
    have hc : cnt (v.set x.f0.toNat (rd v x.f2 + 1)) = if rd v x.f0 < 0 then cnt v + 1 else cnt v := by
      unfold cnt
      rw [List.countP_set hi, hv]
      have e1 : decide (0 ≤ rd v x.f2 + 1) = true := decide_eq_true (by omega)
      rw [e1, if_pos rfl]
      by_cases z : rd v x.f0 < 0
      · rw [if_pos z, if_neg (by rw [decide_eq_true_iff]; omega)]
        rfl
      · rw [if_neg z, if_pos (by rw [decide_eq_true_iff]; omega)]
        have : 0 < List.countP (fun y => decide (0 ≤ y)) v := by unfold cnt at hb; omega
        omega
    refine ⟨by simpa using hl, fun q q0 q1 => ?_, fun q q0 q1 q2 => ?_, fun q q0 q1 => ?_⟩
    · rw [rd_set (by omega) (by omega)]
      have := h.low q q0 q1
      split <;> omega
    · rw [rd_set (by omega) (by omega)] at q2 ⊢
      by_cases e : q = x.f0
      · rw [if_pos e]
        rw [show (rd v x.f2 + 1).toNat = (rd v x.f2).toNat + 1 by omega]
        exact ⟨x, hx, e.symm, hs⟩
      · rw [if_neg e] at q2 ⊢
        exact h.sound q q0 q1 q2
    · rw [rd_set (by omega) (by omega), hc]
      have hq := h.bound q q0 q1
      have hp := h.bound x.f0 h0.1 h0.2
      by_cases z : rd v x.f0 < 0
      · rw [if_pos z]
        split <;> omega
      · rw [if_neg z]
        split
        · omega
        · omega
  · rw [if_neg c]
    exact h
theorem relax_le (hl : (v.length : Int) = s) {x : S67} (h0 : 0 ≤ x.f0 ∧ x.f0 < s) : Le s (relax v x) v := by
  intro q q0 q1 q2
  unfold relax
  by_cases c : upd v x
  · rw [if_pos c, rd_set (by omega) (by omega)]
    obtain ⟨c1, c2⟩ := c
    by_cases e : q = x.f0
    · rw [if_pos e]
      rw [e] at q2 ⊢
      omega
    · rw [if_neg e]
      omega
  · rw [if_neg c]
    omega
theorem relax_arc (hl : (v.length : Int) = s) {x : S67} (h0 : 0 ≤ x.f0 ∧ x.f0 < s) (h : 0 ≤ rd v x.f2) : 0 ≤ rd (relax v x) x.f0 ∧ rd (relax v x) x.f0 ≤ rd v x.f2 + 1 := by
  unfold relax
  by_cases c : upd v x
  · rw [if_pos c, rd_set (by omega) (by omega), if_pos rfl]
    omega
  · rw [if_neg c]
    unfold upd at c
    omega
theorem relax_len (v : List Int) (x : S67) : (relax v x).length = v.length := by
  unfold relax
  split
  · simp
  · rfl
theorem passV_len : ∀ (m : List S67) (v : List Int), (passV m v).length = v.length
  | [], _ => rfl
  | x :: m, v => by rw [passV, passV_len m, relax_len]
def Arcs (s : Int) (l : List S67) : Prop := ∀ x ∈ l, (0 ≤ x.f0 ∧ x.f0 < s) ∧ (0 ≤ x.f2 ∧ x.f2 < s)
theorem passV_good (ha : Arcs s l) : ∀ (m : List S67) (v : List Int), (∀ x ∈ m, x ∈ l) → Good s f l v → Good s f l (passV m v)
  | [], _, _, h => h
  | x :: m, v, hm, h => by
    have hx := hm x (List.mem_cons_self ..)
    exact passV_good ha m _ (fun y hy => hm y (List.mem_cons_of_mem _ hy)) (relax_good h hx (ha x hx).1 (ha x hx).2)
theorem passV_le : ∀ (m : List S67) (v : List Int), Arcs s m → (v.length : Int) = s → Le s (passV m v) v
  | [], v, _, _ => Le.refl s v
  | x :: m, v, hm, hl => by
    have := passV_le m (relax v x) (fun y hy => hm y (List.mem_cons_of_mem _ hy)) (by rw [relax_len]; exact hl)
    exact Le.trans this (relax_le hl (hm x (List.mem_cons_self ..)).1)
theorem passV_arc : ∀ (m : List S67) (v : List Int), Arcs s m → (v.length : Int) = s → ∀ x ∈ m, 0 ≤ rd v x.f2 → 0 ≤ rd (passV m v) x.f0 ∧ rd (passV m v) x.f0 ≤ rd v x.f2 + 1
  | [], _, _, _, x, hx, _ => by simp at hx
  | y :: m, v, hm, hl, x, hx, h => by
    have hl' : ((relax v y).length : Int) = s := by rw [relax_len]; exact hl
    have hm' : Arcs s m := fun z hz => hm z (List.mem_cons_of_mem _ hz)
    have hxx := hm x hx
    rw [passV]
    rcases List.mem_cons.1 hx with e | e
    · subst e
      have a := relax_arc hl hxx.1 h
      have b := passV_le m (relax v x) hm' hl' x.f0 hxx.1.1 hxx.1.2 a.1
      omega
    · have a := relax_le hl (hm y (List.mem_cons_self ..)).1 x.f2 hxx.2.1 hxx.2.2 h
      have b := passV_arc m (relax v y) hm' hl' x e a.1
      omega
theorem passB_false : ∀ (m : List S67) (v : List Int) (b : Bool), passB m v b = false → b = false ∧ passV m v = v
  | [], _, _, h => ⟨h, rfl⟩
  | x :: m, v, b, h => by
    rw [passB] at h
    obtain ⟨h1, h2⟩ := passB_false m _ _ h
    by_cases c : upd v x
    · rw [if_pos c] at h1; cases h1
    · rw [if_neg c] at h1
      have e : relax v x = v := by unfold relax; rw [if_neg c]
      rw [e] at h2
      exact ⟨h1, by rw [passV, e, h2]⟩
theorem relax_mea (h : Good s f l v) {x : S67} (h0 : 0 ≤ x.f0 ∧ x.f0 < s) (h2 : 0 ≤ x.f2 ∧ x.f2 < s) (c : upd v x) : mea s (relax v x) < mea s v := by
  unfold relax
  rw [if_pos c]
  obtain ⟨c1, c2⟩ := c
  have hl := h.len
  have hi : x.f0.toNat < v.length := by omega
  have hv : v[x.f0.toNat] = rd v x.f0 := by
    have := rd_at hi
    rw [show ((x.f0.toNat : Nat) : Int) = x.f0 by omega] at this
    exact this.symm
  have hb := h.bound x.f2 h2.1 h2.2
  refine sum_set_lt (gm s) v x.f0.toNat hi _ ?_
  rw [hv]
  unfold gm
  rw [if_neg (by omega)]
  by_cases z : rd v x.f0 < 0
  · rw [if_pos z]
    have : cnt v < v.length := by
      have hle := cnt_le (v.set x.f0.toNat 0)
      unfold cnt at hle ⊢
      rw [List.countP_set hi, hv, List.length_set] at hle
      rw [if_neg (by rw [decide_eq_true_iff]; omega), if_pos (by decide)] at hle
      omega
    omega
  · rw [if_neg z]
    omega
theorem passV_mea (ha : Arcs s l) : ∀ (m : List S67) (v : List Int) (b : Bool), (∀ x ∈ m, x ∈ l) → Good s f l v → mea s (passV m v) ≤ mea s v ∧ (b = false → passB m v b = true → mea s (passV m v) < mea s v)
  | [], v, b, _, _ => ⟨Nat.le_refl _, fun h1 h2 => by rw [passB, h1] at h2; cases h2⟩
  | x :: m, v, b, hm, h => by
    have hx := hm x (List.mem_cons_self ..)
    have hm' : ∀ y ∈ m, y ∈ l := fun y hy => hm y (List.mem_cons_of_mem _ hy)
    have ih := passV_mea ha m (relax v x) (if upd v x then true else b) hm' (relax_good h hx (ha x hx).1 (ha x hx).2)
    rw [passV, passB]
    by_cases c : upd v x
    · have := relax_mea h (ha x hx).1 (ha x hx).2 c
      exact ⟨by omega, fun _ _ => by omega⟩
    · have e : relax v x = v := by unfold relax; rw [if_neg c]
      rw [if_neg c, e] at ih ⊢
      exact ih
/-- The program's row, where nothing changes any more. -/
theorem fix_low (ha : Arcs s l) (h : Good s f l v) (h0 : ∀ x ∈ f, 0 ≤ rd v x ∧ rd v x ≤ 0) (hp : passV l v = v) : ∀ (j : Nat) (x : Int), 0 ≤ x → x < s → Wk f l j x → 0 ≤ rd v x ∧ rd v x ≤ j
  | 0, x, _, _, hw => by have := h0 x hw; omega
  | j + 1, x, _, _, hw => by
    obtain ⟨a, ha1, rfl, hw'⟩ := hw
    have aa := ha a ha1
    have ih := fix_low ha h h0 hp j a.f2 aa.2.1 aa.2.2 hw'
    have := passV_arc l v ha h.len a ha1 ih.1
    rw [hp] at this
    omega
def HH (s : Int) (f : List Int) (l : List S67) (m : Nat) (v : List Int) : Prop := ∀ j, j ≤ m → ∀ x : Int, 0 ≤ x → x < s → Wk f l j x → 0 ≤ rd v x ∧ rd v x ≤ j
theorem HH_pass (ha : Arcs s l) (hl : (v.length : Int) = s) {m : Nat} (h : HH s f l m v) : HH s f l (m + 1) (passV l v) := by
  intro j hj x x0 x1 hw
  by_cases c : j ≤ m
  · have a := h j c x x0 x1 hw
    have b := passV_le l v ha hl x x0 x1 a.1
    omega
  · obtain rfl : j = m + 1 := by omega
    obtain ⟨a, ha1, rfl, hw'⟩ := hw
    have aa := ha a ha1
    have b := h m (Nat.le_refl _) a.f2 aa.2.1 aa.2.2 hw'
    have := passV_arc l v ha hl a ha1 b.1
    omega
def itP (l : List S67) : Nat → List Int → List Int
  | 0, v => v
  | n + 1, v => itP l n (passV l v)
theorem itP_len (l : List S67) : ∀ (n : Nat) (v : List Int), (itP l n v).length = v.length
  | 0, _ => rfl
  | n + 1, v => by rw [itP, itP_len l n, passV_len]
theorem itP_good (ha : Arcs s l) : ∀ (n : Nat) (v : List Int), Good s f l v → Good s f l (itP l n v)
  | 0, _, h => h
  | n + 1, v, h => itP_good ha n _ (passV_good ha l v (fun _ hx => hx) h)
theorem itP_HH (ha : Arcs s l) : ∀ (n m : Nat) (v : List Int), (v.length : Int) = s → HH s f l m v → HH s f l (m + n) (itP l n v)
  | 0, _, _, _, h => h
  | n + 1, m, v, hl, h => by
    rw [itP, show m + (n + 1) = (m + 1) + n by omega]
    exact itP_HH ha n (m + 1) _ (by rw [passV_len]; exact hl) (HH_pass ha hl h)
theorem same_row {u : List Int} (hu : Good s f l u) (hv : Good s f l v) (hs : 0 ≤ s) (h1 : HH s f l s.toNat u) (h2 : ∀ (j : Nat) (x : Int), 0 ≤ x → x < s → Wk f l j x → 0 ≤ rd v x ∧ rd v x ≤ j) : u = v := by
  have lu := hu.len
  have lv := hv.len
  refine rd_ext (by omega) fun q q0 q1 => ?_
  have q1' : q < s := by omega
  by_cases c : 0 ≤ rd u q
  · have a := h2 _ q q0 q1' (hu.sound q q0 q1' c)
    have b := hv.bound q q0 q1'
    have d := cnt_le v
    have e := h1 (rd v q).toNat (by omega) q q0 q1' (hv.sound q q0 q1' a.1)
    omega
  · have a := hu.low q q0 q1'
    have b := hv.low q q0 q1'
    by_cases d : 0 ≤ rd v q
    · have e := hv.bound q q0 q1'
      have g := cnt_le v
      have := h1 (rd v q).toNat (by omega) q q0 q1' (hv.sound q q0 q1' d)
      omega
    · omega
end
/-- The first row. -/
def ini (s : Int) (f : List Int) : List Int := (List.range s.toNat).map (fun i : Nat => if hasL f (i : Int) = true then (0 : Int) else -1)
theorem ini_len (s : Int) (f : List Int) : (ini s f).length = s.toNat := by simp [ini]
theorem ini_rd (s : Int) (f : List Int) {q : Int} (q0 : 0 ≤ q) (q1 : q < s) : rd (ini s f) q = if hasL f q = true then 0 else -1 := by
  obtain ⟨i, rfl⟩ := Int.eq_ofNat_of_zero_le q0
  have hi : i < (ini s f).length := by rw [ini_len]; omega
  rw [rd_at hi]
  simp [ini]
theorem hasL_mem {f : List Int} {q : Int} : hasL f q = true ↔ q ∈ f := by
  simp [hasL]
theorem ini_good (s : Int) (f : List Int) (l : List S67) (hs : 0 ≤ s) : Good s f l (ini s f) := by
  refine ⟨by rw [ini_len]; omega, fun q q0 q1 => ?_, fun q q0 q1 q2 => ?_, fun q q0 q1 => ?_⟩
  · rw [ini_rd s f q0 q1]; split <;> omega
  · rw [ini_rd s f q0 q1] at q2 ⊢
    by_cases c : hasL f q = true
    · rw [if_pos c]
      exact hasL_mem.1 c
    · rw [if_neg c] at q2; omega
  · have e := ini_rd s f q0 q1
    by_cases c : hasL f q = true
    · rw [if_pos c] at e
      have hi : q.toNat < (ini s f).length := by rw [ini_len]; omega
      have hv : (ini s f)[q.toNat] = 0 := by
        have := rd_at hi
        rw [show ((q.toNat : Nat) : Int) = q by omega, e] at this
        exact this.symm
      have : 0 < cnt (ini s f) := List.countP_pos_iff.2 ⟨_, List.getElem_mem hi, by rw [hv]; decide⟩
      omega
    · rw [if_neg c] at e
      omega
theorem ini_mea (s : Int) (f : List Int) (hs : 0 ≤ s ∧ s ≤ 32) : mea s (ini s f) ≤ 1024 := by
  have h : ∀ y ∈ ini s f, gm s y ≤ 32 := by
    intro y hy
    simp only [ini, List.mem_map] at hy
    obtain ⟨i, _, rfl⟩ := hy
    unfold gm
    split <;> split <;> omega
  have e : ∀ v : List Int, (∀ y ∈ v, gm s y ≤ 32) → (v.map (gm s)).sum ≤ v.length * 32 := by
    intro v
    induction v with
    | nil => intro _; simp
    | cons x v ih =>
      intro hv
      have a := ih (fun y hy => hv y (List.mem_cons_of_mem _ hy))
      have b := hv x (List.mem_cons_self ..)
      simp only [List.map_cons, List.sum_cons, List.length_cons]
      omega
  have := e (ini s f) h
  rw [ini_len] at this
  unfold mea
  omega
def distG (s : Int) (f : List Int) (l : List S67) : List Int := itP l s.toNat (ini s f)

end Go.Proofs.Ytijbhcalknfijaa.Pure
