/- MeetGrammars: both sides make the same search. No condition. -/
import Derived.Test.YteljnbhbpidjpaaGx0
import Derived.Test.YteljnbhbpidjpaaGx5
import Derived.Test.YteljnbhbpidjpaaGx15
import Derived.Test.YteljnbhbpidjpaaHasG
namespace Go.Proofs.Yteljnbhbpidjpaa.Pure
open Go.RowKit Go.Proofs.Yteljnbhbpidjpaa.G Go.Proofs.YteljnbhbpidjpaaW.PrintWords Go.Proofs.YteljnbhbpidjpaaW.PrintLast
def toP (x : S73) : List Int := [x.f0, x.f1]
theorem rdP_at {x : List S73} {j : Nat} (h : j < x.length) : rd_T73 x (j : Int) = x[j] := by
  rw [rd_T73, Int.toNat_natCast, List.getD_eq_getElem?_getD, List.getElem?_eq_getElem h]; rfl
theorem rdPL_at {x : List S73} {j : Nat} (h : j < x.length) : rd_L3 (x.map toP) (j : Int) = toP x[j] := by
  rw [rd_L3, Int.toNat_natCast, List.getD_eq_getElem?_getD, List.getElem?_eq_getElem (by rw [List.length_map]; exact h), List.getElem_map]; rfl
/-- The place of a pair. -/
def ixP (u v : Int) : List S73 → Nat → Int
  | [], _ => -1
  | a :: l, i => if u = a.f0 ∧ v = a.f1 then (i : Int) else ixP u v l (i + 1)
theorem ixI_l0 (u v : Int) (p : List S73) (hn : p.length ≤ 1048576) (d : Nat) : ∀ (k i : Nat), i + d = p.length → d < k → slices_Index_2_int64_2_int64.l0 k p (p.length : Int) (i : Int) u v = some (ixP u v (p.drop i) i) := by
  induction d with
  | zero =>
    intro k i hi hk
    obtain ⟨k, rfl⟩ := succ_of hk
    rw [slices_Index_2_int64_2_int64.l0, if_neg (by omega), List.drop_eq_nil_of_le (by omega), ixP]
  | succ d ih =>
    intro k i hi hk
    obtain ⟨k, rfl⟩ := succ_of hk
    have hlt : i < p.length := by omega
    rw [slices_Index_2_int64_2_int64.l0, if_pos (by omega), if_pos (by omega), if_pos (by omega), rdP_at hlt, w64 (by omega) (by omega), show ((i : Int) + 1) = ((i + 1 : Nat) : Int) by omega, List.drop_eq_getElem_cons hlt, ixP, ih k (i + 1) (by omega) (by omega)]
    by_cases c : u = p[i].f0 ∧ v = p[i].f1
    · rw [if_pos c, if_pos (by simpa using c)]
    · rw [if_neg c, if_neg (by simpa using c)]
theorem ixI (u v : Int) (p : List S73) (hn : p.length ≤ 1048576) (k : Nat) (hk : 1048577 ≤ k) : slices_Index_2_int64_2_int64.f k p u v = some (ixP u v p 0) := by
  rw [slices_Index_2_int64_2_int64.f]
  exact ixI_l0 u v p hn p.length k 0 (by omega) (by omega)
theorem ixS_l0 (u v : Int) (p : List S73) (hn : p.length ≤ 1048576) (d : Nat) : ∀ (k i : Nat), i + d = p.length → d < k → spec_l07Pair.l0 k (p.map toP) u v (i : Int) = some (ixP u v (p.drop i) i) := by
  induction d with
  | zero =>
    intro k i hi hk
    obtain ⟨k, rfl⟩ := succ_of hk
    rw [spec_l07Pair.l0, List.length_map, if_neg (by omega), List.drop_eq_nil_of_le (by omega), ixP]
  | succ d ih =>
    intro k i hi hk
    obtain ⟨k, rfl⟩ := succ_of hk
    have hlt : i < p.length := by omega
    rw [spec_l07Pair.l0, List.length_map, if_pos (by omega), if_pos (by omega), rdPL_at hlt, if_pos (show (0 : Int) < ((toP p[i]).length : Int) by simp [toP]), if_pos (show (1 : Int) < ((toP p[i]).length : Int) by simp [toP]), show rd (toP p[i]) 0 = p[i].f0 from rfl, show rd (toP p[i]) 1 = p[i].f1 from rfl, w64 (by omega) (by omega), show ((i : Int) + 1) = ((i + 1 : Nat) : Int) by omega, List.drop_eq_getElem_cons hlt, ixP, ih k (i + 1) (by omega) (by omega)]
    by_cases c : p[i].f0 = u
    · rw [if_pos c]
      by_cases c2 : p[i].f1 = v
      · rw [if_pos c2, if_pos ⟨c.symm, c2.symm⟩]
      · rw [if_neg c2, if_neg (fun h => c2 h.2.symm)]
    · rw [if_neg c, if_neg (fun h => c h.1.symm)]
theorem ixS (u v : Int) (p : List S73) (hn : p.length ≤ 1048576) (k : Nat) (hk : 1048577 ≤ k) : spec_l07Pair.f k (p.map toP) u v = some (ixP u v p 0) := by
  rw [spec_l07Pair.f]
  exact ixS_l0 u v p hn p.length k 0 (by omega) (by omega)
/-- Where an arc leads. -/
def nxA (y q : Int) : List S68 → Int
  | [] => -1
  | a :: l => if a.f0 = y ∧ a.f1 = q then a.f2 else nxA y q l
theorem nx_l0 (y q s t : Int) (f : List Int) (l : List S68) (hn : l.length ≤ 1048576) (d : Nat) : ∀ (k i : Nat), i + d = l.length → d < k → spec_l07Step.l0 k y q (i : Int) s t f l = some (nxA y q (l.drop i)) := by
  induction d with
  | zero =>
    intro k i hi hk
    obtain ⟨k, rfl⟩ := succ_of hk
    rw [spec_l07Step.l0, if_neg (by omega), List.drop_eq_nil_of_le (by omega), nxA]
  | succ d ih =>
    intro k i hi hk
    obtain ⟨k, rfl⟩ := succ_of hk
    have hlt : i < l.length := by omega
    rw [spec_l07Step.l0, if_pos (by omega), if_pos (by omega), rdA_at hlt, w64 (by omega) (by omega), show ((i : Int) + 1) = ((i + 1 : Nat) : Int) by omega, List.drop_eq_getElem_cons hlt, nxA, ih k (i + 1) (by omega) (by omega)]
    by_cases c : l[i].f0 = y
    · rw [if_pos c]
      by_cases c2 : l[i].f1 = q
      · rw [if_pos c2, if_pos ⟨c, c2⟩]
      · rw [if_neg c2, if_neg (fun h => c2 h.2)]
    · rw [if_neg c, if_neg (fun h => c h.1)]
theorem nxStep (y q s t : Int) (f : List Int) (l : List S68) (hn : l.length ≤ 1048576) (k : Nat) (hk : 1048577 ≤ k) : spec_l07Step.f k s t f l y q = some (nxA y q l) := by
  rw [spec_l07Step.f]
  exact nx_l0 y q s t f l hn l.length k 0 (by omega) (by omega)
abbrev StP := List S73 × List S68
def addP (n q u v : Int) (st : StP) : StP :=
  if ixP u v st.1 0 < 0 then (st.1 ++ [⟨u, v⟩], st.2 ++ [⟨n, q, (st.1.length : Int)⟩]) else (st.1, st.2 ++ [⟨n, q, ixP u v st.1 0⟩])
/-- What a step leaves as it was. -/
def Ext (st st' : StP) (d : Nat) : Prop := (∃ z, st'.1 = st.1 ++ z) ∧ st'.1.length ≤ st.1.length + d ∧ st'.2.length ≤ st.2.length + d
theorem Ext.refl (st : StP) : Ext st st 0 := ⟨⟨[], by simp⟩, by omega, by omega⟩
theorem Ext.trans {a b c : StP} {d e f : Nat} (h : Ext a b d) (h' : Ext b c e) (hf : d + e ≤ f) : Ext a c f := by
  obtain ⟨⟨z, hz⟩, h1, h2⟩ := h
  obtain ⟨⟨y, hy⟩, h3, h4⟩ := h'
  exact ⟨⟨z ++ y, by rw [hy, hz, List.append_assoc]⟩, by omega, by omega⟩
theorem ext_add (n q u v : Int) (st : StP) : Ext st (addP n q u v st) 1 := by
  unfold addP
  by_cases c : ixP u v st.1 0 < 0
  · rw [if_pos c]; exact ⟨⟨_, rfl⟩, by simp, by simp⟩
  · rw [if_neg c]; exact ⟨⟨[], by simp⟩, by simp, by simp⟩
theorem Ext.rd {st st' : StP} {d : Nat} (h : Ext st st' d) (n : Nat) (hn : n < st.1.length) : n < st'.1.length ∧ rd_T73 st'.1 (n : Int) = rd_T73 st.1 (n : Int) := by
  obtain ⟨⟨z, hz⟩, _, _⟩ := h
  have h1 : n < st'.1.length := by rw [hz, List.length_append]; omega
  refine ⟨h1, ?_⟩
  rw [rdP_at h1, rdP_at hn]
  simp only [hz]
  exact List.getElem_append_left hn
def foldS (n x y : Int) (lb : List S68) : List S68 → StP → StP
  | [], st => st
  | e :: l, st => foldS n x y lb l (if e.f0 = x then (if nxA y e.f1 lb < 0 then st else addP n e.f1 e.f2 (nxA y e.f1 lb) st) else st)
def foldI (n q u : Int) : List S68 → StP → StP
  | [], st => st
  | e :: l, st => foldI n q u l (if q = e.f1 then addP n q u e.f2 st else st)
def foldO (n : Int) (fb : List S68) : List S68 → StP → StP
  | [], st => st
  | e :: l, st => foldO n fb l (foldI n e.f1 e.f2 fb st)
theorem ext_I (n q u : Int) : ∀ (l : List S68) (st : StP), Ext st (foldI n q u l st) l.length
  | [], st => Ext.refl st
  | e :: l, st => by
    rw [foldI]
    by_cases c : q = e.f1
    · rw [if_pos c]; exact (ext_add n q u e.f2 st).trans (ext_I n q u l _) (by simp; omega)
    · rw [if_neg c]; exact (Ext.refl st).trans (ext_I n q u l _) (by simp)
theorem ext_S (n x y : Int) (lb : List S68) : ∀ (l : List S68) (st : StP), Ext st (foldS n x y lb l st) l.length
  | [], st => Ext.refl st
  | e :: l, st => by
    rw [foldS]
    have h : Ext st (if e.f0 = x then (if nxA y e.f1 lb < 0 then st else addP n e.f1 e.f2 (nxA y e.f1 lb) st) else st) 1 := by
      split
      · split
        · exact (Ext.refl st).trans (Ext.refl st) (by omega)
        · exact ext_add _ _ _ _ st
      · exact (Ext.refl st).trans (Ext.refl st) (by omega)
    exact h.trans (ext_S n x y lb l _) (by simp; omega)
theorem from_pos {a : S68} {l : List S68} {y : Int} (c : a.f0 = y) : from_ (a :: l) y = a :: from_ l y := List.filter_cons_of_pos (by simpa using c)
theorem from_neg {a : S68} {l : List S68} {y : Int} (c : ¬ a.f0 = y) : from_ (a :: l) y = from_ l y := List.filter_cons_of_neg (by simpa using c)
theorem foldI_none (n q u : Int) : ∀ (l : List S68) (st : StP), (∀ e ∈ l, q ≠ e.f1) → foldI n q u l st = st
  | [], _, _ => rfl
  | e :: l, st, h => by rw [foldI, if_neg (h e (by simp)), foldI_none n q u l st (fun e he => h e (by simp [he]))]
theorem foldI_one (n q u y : Int) : ∀ (l : List S68) (st : StP), l.Pairwise (fun a b => ¬ (a.f0 = b.f0 ∧ a.f1 = b.f1)) → (∀ e ∈ l, 0 ≤ e.f2) → foldI n q u (from_ l y) st = if nxA y q l < 0 then st else addP n q u (nxA y q l) st
  | [], st, _, _ => by simp [from_, foldI, nxA]
  | a :: l, st, hp, h0 => by
    obtain ⟨p1, p2⟩ := List.pairwise_cons.1 hp
    have ih := foldI_one n q u y l st p2 (fun e he => h0 e (by simp [he]))
    have ha := h0 a (by simp)
    rw [nxA]
    by_cases c : a.f0 = y
    · rw [from_pos c, foldI]
      by_cases c2 : q = a.f1
      · have e1 : (if a.f0 = y ∧ a.f1 = q then a.f2 else nxA y q l) = a.f2 := if_pos ⟨c, c2.symm⟩
        rw [if_pos c2, e1, if_neg (by omega), foldI_none]
        intro e he hq
        obtain ⟨h1, h2⟩ := List.mem_filter.1 he
        exact p1 e h1 ⟨by rw [c]; exact (by simpa using h2 : e.f0 = y).symm, by rw [← c2]; exact hq⟩
      · have e1 : (if a.f0 = y ∧ a.f1 = q then a.f2 else nxA y q l) = nxA y q l := if_neg (fun h => c2 h.2.symm)
        rw [if_neg c2, e1, ih]
    · have e1 : (if a.f0 = y ∧ a.f1 = q then a.f2 else nxA y q l) = nxA y q l := if_neg (fun h => c h.1)
      rw [from_neg c, e1, ih]
theorem foldO_S (n x y : Int) (lb : List S68) (hp : lb.Pairwise (fun a b => ¬ (a.f0 = b.f0 ∧ a.f1 = b.f1))) (h0 : ∀ e ∈ lb, 0 ≤ e.f2) : ∀ (l : List S68) (st : StP), foldO n (from_ lb y) (from_ l x) st = foldS n x y lb l st
  | [], _ => rfl
  | e :: l, st => by
    rw [foldS]
    by_cases c : e.f0 = x
    · rw [from_pos c, foldO, if_pos c, foldI_one n e.f1 e.f2 y lb st hp h0]
      exact foldO_S n x y lb hp h0 l _
    · rw [from_neg c, if_neg c]
      exact foldO_S n x y lb hp h0 l _
/-- Arcs of a grammar that holds: no two with one state and one pitch. -/
theorem okG_apart {s t : Int} {f : List Int} {l : List S68} (h : okG s t f l = true) : l.Pairwise (fun a b => ¬ (a.f0 = b.f0 ∧ a.f1 = b.f1)) := by
  have go : ∀ (d i : Nat), i + d = l.length → arcsB s l d i = true → ∀ j, i ≤ j → j < l.length → 0 < j → ordA (rd_T68 l ((j : Int) - 1)) (rd_T68 l (j : Int)) = true := by
    intro d
    induction d with
    | zero => intro i hi _ j h1 h2; omega
    | succ d ih =>
      intro i hi h2 j h3 h4 h5
      rw [arcsB, Bool.and_eq_true, Bool.and_eq_true] at h2
      by_cases c : i = j
      · subst c
        have := h2.1.2
        simpa [show i ≠ 0 by omega] using this
      · exact ih (i + 1) (by omega) h2.2 j (by omega) h4 h5
  unfold okG at h
  rw [Bool.and_eq_true] at h
  have ad := go l.length 0 (by omega) h.2
  have tr : ∀ (d i j : Nat) (hj : j < l.length) (hi : i < l.length), j = i + d + 1 → ordA l[i] l[j] = true := by
    intro d
    induction d with
    | zero =>
      intro i j hj hi e
      have := ad j (by omega) hj (by omega)
      rw [show ((j : Int) - 1) = (i : Int) by omega, rdA_at hi, rdA_at hj] at this
      exact this
    | succ d ih =>
      intro i j hj hi e
      have h1 := ih i (i + d + 1) (by omega) hi rfl
      have h2 := ad j (by omega) hj (by omega)
      rw [show ((j : Int) - 1) = ((i + d + 1 : Nat) : Int) by omega, rdA_at (by omega), rdA_at hj] at h2
      simp only [ordA, decide_eq_true_eq] at h1 h2 ⊢
      omega
  rw [List.pairwise_iff_getElem]
  intro i j hi hj hij
  have := tr (j - i - 1) i j hj hi (by omega)
  simp only [ordA, decide_eq_true_eq] at this
  omega
def fins (fa fb : List Int) : List S73 → Nat → List Int
  | [], _ => []
  | a :: l, i => if hasL fa a.f0 && hasL fb a.f1 then (i : Int) :: fins fa fb l (i + 1) else fins fa fb l (i + 1)
theorem fins_snoc (fa fb : List Int) (a : S73) : ∀ (l : List S73) (i : Nat), fins fa fb (l ++ [a]) i = if hasL fa a.f0 && hasL fb a.f1 then fins fa fb l i ++ [((i + l.length : Nat) : Int)] else fins fa fb l i
  | [], i => by simp [fins]
  | b :: l, i => by
    rw [List.cons_append, fins, fins, fins_snoc fa fb a l (i + 1), List.length_cons, show i + 1 + l.length = i + (l.length + 1) by omega]
    split <;> split <;> simp
theorem fins_len (fa fb : List Int) : ∀ (l : List S73) (i : Nat), (fins fa fb l i).length ≤ l.length
  | [], i => by simp [fins]
  | b :: l, i => by
    have := fins_len fa fb l (i + 1)
    rw [fins]
    split <;> simp <;> omega
def runP (la lb : List S68) : Nat → Nat → StP → Option StP
  | 0, _, st => some st
  | D + 1, n, st => if n < st.1.length then (if (((foldS n (rd_T73 st.1 n).f0 (rd_T73 st.1 n).f1 lb la st).1.length : Nat) : Int) > 32 then none else if (((foldS n (rd_T73 st.1 n).f0 (rd_T73 st.1 n).f1 lb la st).2.length : Nat) : Int) > 256 then none else runP la lb D (n + 1) (foldS n (rd_T73 st.1 n).f0 (rd_T73 st.1 n).f1 lb la st)) else some st
def valP (fa fb : List Int) : Option StP → Int × Int × List Int × List S68 × Int
  | none => (0, 0, [], [], 5)
  | some st => ((st.1.length : Int), 0, fins fa fb st.1 0, st.2, 0)

end Go.Proofs.Yteljnbhbpidjpaa.Pure
