/- Numerals, lists of numbers and texts divided: what is read is what is written. No condition. -/
import Derived.Test.YtbebcnnibjkclaaDoorRx0
import Derived.Test.YtbebcnnibjkclaaDoorRx1
import Derived.Test.YtbebcnnibjkclaaDoorRx2
import Derived.Test.YtbebcnnibjkclaaDoorRx3
import Derived.Test.YtbebcnnibjkclaaDoorRx4
import Derived.Test.YtbebcnnibjkclaaDoorRx5
import Derived.Test.YtbebcnnibjkclaaDoorRx7
import Derived.Test.YtbebcnnibjkclaaDoorRx8
import Derived.Test.YtbebcnnibjkclaaDoorRx9
import Derived.Test.YtbebcnnibjkclaaDoorRx10
import Derived.Test.YtbebcnnibjkclaaDoorRx11
import Derived.Test.YtbebcnnibjkclaaDoorRx12
import Derived.Test.YtbebcnnibjkclaaDoorRx13
import Derived.Test.YtbebcnnibjkclaaDoorRx15
import Derived.Test.YtbebcnnibjkclaaDoorRx17
import Derived.Test.YtbebcnnibjkclaaDoorRx18
import Derived.Test.YtbebcnnibjkclaaDoorRx19
import Derived.Test.YtbebcnnibjkclaaDoorRx20
import Derived.Test.YtbebcnnibjkclaaDoorRx21
import Derived.Test.YtbebcnnibjkclaaDoorRx23
import Derived.Test.YtbebcnnibjkclaaDoorRx24
import Derived.Test.YtbebcnnibjkclaaDoorRx26
import Derived.Lib.Join
import Derived.Lib.Split
import Derived.Lib.SplitLaws
import Derived.Lib.TrimByte
namespace Go.Proofs.YtbebcnnibjkclaaDoor.Pure
open Go Go.RowKit Go.Proofs.YtbebcnnibjkclaaDoor.R Go.Proofs.YtbebcnnibjkclaaDoorW.PrintWords Go.Proofs.YtbebcnnibjkclaaDoorW.PrintLast
theorem dw64 {n : Int} (h : -9223372036854775808 ≤ n) (h' : n ≤ 9223372036854775807) : wrap64 n = n := by unfold wrap64; omega
theorem dsucc {n k : Nat} (h : n < k) : ∃ m, k = m + 1 := ⟨k - 1, by omega⟩
def bA (l : List UInt8) : ByteArray := ⟨l.toArray⟩
theorem bA_size (l : List UInt8) : (bA l).size = l.length := by simp [bA, ByteArray.size]
theorem bA_app (a b : List UInt8) : bA a ++ bA b = bA (a ++ b) := by
  apply ByteArray.ext
  rw [ByteArray.data_append]
  simp [bA]
theorem bA_list (l : List UInt8) : (bA l).data.toList = l := rfl
/-- The pieces of a text between the bytes c. -/
def spL (c : UInt8) : List UInt8 → List (List UInt8)
  | [] => [[]]
  | b :: l => if b = c then [] :: spL c l else (match spL c l with
    | [] => [[b]]
    | p :: ps => (b :: p) :: ps)
theorem spL_ne (c : UInt8) : ∀ l, spL c l ≠ []
  | [] => by simp [spL]
  | b :: l => by
    rw [spL]
    split
    · simp
    · split <;> simp
theorem spL_hit (c : UInt8) (l : List UInt8) : spL c (c :: l) = [] :: spL c l := by rw [spL, if_pos rfl]
theorem spL_miss (c b : UInt8) (l : List UInt8) (h : b ≠ c) : ∃ p ps, spL c l = p :: ps ∧ spL c (b :: l) = (b :: p) :: ps := by
  cases e : spL c l with
  | nil => exact absurd e (spL_ne c l)
  | cons p ps => exact ⟨p, ps, rfl, by rw [spL, if_neg h, e]⟩
theorem spL_clean (c : UInt8) : ∀ l, ∀ p ∈ spL c l, c ∉ p
  | [], p, hp => by
    simp only [spL, List.mem_singleton] at hp
    subst hp
    simp
  | b :: l, p, hp => by
    by_cases h : b = c
    · subst h
      rw [spL_hit] at hp
      rcases List.mem_cons.1 hp with rfl | hp
      · simp
      · exact spL_clean b l p hp
    · obtain ⟨q, qs, e1, e2⟩ := spL_miss c b l h
      rw [e2] at hp
      have ih := spL_clean c l
      rw [e1] at ih
      rcases List.mem_cons.1 hp with rfl | hp
      · have := ih q (List.mem_cons_self ..)
        simp only [List.mem_cons, not_or]
        exact ⟨fun e => h e.symm, this⟩
      · exact ih p (List.mem_cons_of_mem _ hp)
theorem spL_none (c : UInt8) : ∀ l, c ∉ l → spL c l = [l]
  | [], _ => rfl
  | b :: l, h => by
    simp only [List.mem_cons, not_or] at h
    obtain ⟨q, qs, e1, e2⟩ := spL_miss c b l (fun e => h.1 e.symm)
    rw [spL_none c l h.2] at e1
    injection e1 with h1 h2
    rw [e2, ← h1, ← h2]
theorem spL_app (c : UInt8) : ∀ (p l : List UInt8), c ∉ p → spL c (p ++ c :: l) = p :: spL c l
  | [], l, _ => by rw [List.nil_append, spL_hit]
  | b :: p, l, h => by
    simp only [List.mem_cons, not_or] at h
    obtain ⟨q, qs, e1, e2⟩ := spL_miss c b (p ++ c :: l) (fun e => h.1 e.symm)
    rw [spL_app c p l h.2] at e1
    injection e1 with h1 h2
    rw [List.cons_append, e2, ← h1, ← h2]
/-- Pieces, joined. -/
theorem join_cons2 (p q : List UInt8) (ps : List (List UInt8)) (s : List UInt8) : Lib.join (p :: q :: ps) s = p ++ (s ++ Lib.join (q :: ps) s) := by
  rw [Lib.join_cons, Lib.join_cons]
  simp [Lib.joinTail]
theorem join_sp (c : UInt8) : ∀ l, Lib.join (spL c l) [c] = l
  | [] => by simp [spL, Lib.join_one]
  | b :: l => by
    have ih := join_sp c l
    by_cases h : b = c
    · subst h
      rw [spL_hit]
      cases e : spL b l with
      | nil => exact absurd e (spL_ne b l)
      | cons q qs =>
        rw [e] at ih
        rw [join_cons2, ih]
        rfl
    · obtain ⟨q, qs, e1, e2⟩ := spL_miss c b l h
      rw [e2]
      rw [e1] at ih
      rw [Lib.join_cons] at ih ⊢
      rw [List.cons_append, ih]
/-- What was joined is divided again. -/
theorem sp_join (c : UInt8) : ∀ ps : List (List UInt8), ps ≠ [] → (∀ p ∈ ps, c ∉ p) → spL c (Lib.join ps [c]) = ps
  | [], h, _ => absurd rfl h
  | [p], _, h => by rw [Lib.join_one, spL_none c p (h p (List.mem_cons_self ..))]
  | p :: q :: ps, _, h => by
    rw [join_cons2, List.singleton_append, spL_app c p _ (h p (List.mem_cons_self ..)), sp_join c (q :: ps) (by simp) (fun x hx => h x (List.mem_cons_of_mem _ hx))]
theorem index_byte (c : UInt8) (l : List UInt8) : (c ∉ l ∧ Lib.index l [c] = -1) ∨ ∃ p r, l = p ++ c :: r ∧ c ∉ p ∧ Lib.index l [c] = (p.length : Int) := by
  induction l with
  | nil => exact .inl ⟨by simp, by simp [Lib.index]⟩
  | cons b l ih =>
    by_cases h : b = c
    · subst h
      exact .inr ⟨[], l, rfl, by simp, by simp [Lib.index, List.isPrefixOf]⟩
    · have hp : ([c] : List UInt8).isPrefixOf (b :: l) = false := by simp [List.isPrefixOf, Ne.symm h]
      rcases ih with ⟨h1, h2⟩ | ⟨p, r, rfl, h1, h2⟩
      · left
        refine ⟨by simp only [List.mem_cons, not_or]; exact ⟨fun e => h e.symm, h1⟩, ?_⟩
        rw [Lib.index, hp, h2]
        rfl
      · right
        refine ⟨b :: p, r, rfl, by simp only [List.mem_cons, not_or]; exact ⟨fun e => h e.symm, h1⟩, ?_⟩
        rw [Lib.index, hp, h2]
        have : ((p.length : Int) == -1) = false := by rw [beq_eq_false_iff_ne]; omega
        rw [this, List.length_cons]
        simp
/-- The library's pieces: all, if there are at most k more than one, and else k + 1 that put together are the text. -/
theorem splitK_sp (c : UInt8) : ∀ (k : Nat) (l : List UInt8), ((spL c l).length ≤ k + 1 → Lib.splitK [c] 0 k l = spL c l) ∧ (k + 1 < (spL c l).length → (Lib.splitK [c] 0 k l).length = k + 1)
  | 0, l => by
    refine ⟨fun h => ?_, fun h => rfl⟩
    have hne := spL_ne c l
    have hj := join_sp c l
    cases e : spL c l with
    | nil => exact absurd e hne
    | cons p ps =>
      rw [e] at h hj
      have : ps = [] := List.eq_nil_of_length_eq_zero (by rw [List.length_cons] at h; omega)
      subst this
      rw [Lib.join_one] at hj
      rw [hj]
      rfl
  | k + 1, l => by
    rcases index_byte c l with ⟨h1, h2⟩ | ⟨p, r, rfl, h1, h2⟩
    · have e : Lib.splitK [c] 0 (k + 1) l = [l] := by rw [Lib.splitK, h2]; rfl
      rw [e, spL_none c l h1]
      exact ⟨fun _ => rfl, fun h => by simp at h⟩
    · have e : Lib.splitK [c] 0 (k + 1) (p ++ c :: r) = p :: Lib.splitK [c] 0 k r := by
        have hm : ((p.length : Int) == -1) = false := by rw [beq_eq_false_iff_ne]; omega
        rw [Lib.splitK, h2, hm]
        simp only [Bool.false_eq_true, if_false, Int.toNat_natCast, Nat.add_zero, List.length_singleton]
        rw [List.take_left, show (p ++ c :: r).drop (p.length + 1) = r by rw [← List.drop_drop, List.drop_left]; rfl]
      have ih := splitK_sp c k r
      rw [e, spL_app c p r h1, List.length_cons, List.length_cons]
      exact ⟨fun h => by rw [ih.1 (by omega)], fun h => by rw [ih.2 (by omega)]⟩
theorem splitK_mem (c : UInt8) (k : Nat) (l : List UInt8) : Lib.join (Lib.splitK [c] 0 k l) [c] = l ∧ Lib.splitK [c] 0 k l ≠ [] := by
  induction k generalizing l with
  | zero => exact ⟨Lib.join_one .., by simp [Lib.splitK]⟩
  | succ k ih =>
    rcases index_byte c l with ⟨h1, h2⟩ | ⟨p, r, rfl, h1, h2⟩
    · have e : Lib.splitK [c] 0 (k + 1) l = [l] := by rw [Lib.splitK, h2]; rfl
      rw [e]
      exact ⟨Lib.join_one .., by simp⟩
    · have e : Lib.splitK [c] 0 (k + 1) (p ++ c :: r) = p :: Lib.splitK [c] 0 k r := by
        have hm : ((p.length : Int) == -1) = false := by rw [beq_eq_false_iff_ne]; omega
        rw [Lib.splitK, h2, hm]
        simp only [Bool.false_eq_true, if_false, Int.toNat_natCast, Nat.add_zero, List.length_singleton]
        rw [List.take_left, show (p ++ c :: r).drop (p.length + 1) = r by rw [← List.drop_drop, List.drop_left]; rfl]
      obtain ⟨i1, i2⟩ := ih r
      rw [e]
      refine ⟨?_, by simp⟩
      cases e2 : Lib.splitK [c] 0 k r with
      | nil => exact absurd e2 i2
      | cons q qs => rw [e2] at i1; rw [join_cons2, i1]; rfl
theorem bA_data (s : ByteArray) : bA s.data.toList = s := by
  apply ByteArray.ext
  simp [bA]
theorem bA_inj {a b : List UInt8} (h : bA a = bA b) : a = b := by
  have := congrArg (fun s : ByteArray => s.data.toList) h
  simpa [bA] using this
theorem bA_tl (l : List UInt8) : (bA l).toList = l := by rw [ByteArray.toList_eq]; rfl
theorem map_back (xs : List ByteArray) : xs = (xs.map (·.data.toList)).map bA := by
  rw [List.map_map]
  conv => lhs; rw [← List.map_id xs]
  apply List.map_congr_left
  intro x _
  exact (bA_data x).symm
theorem splitB_sp (c : UInt8) (k : Nat) (l : List UInt8) : Lib.splitB (bA [c]) 0 k (bA l) = (Lib.splitK [c] 0 k l).map bA := by
  rw [map_back (Lib.splitB (bA [c]) 0 k (bA l)), Lib.splitB_data]
  rfl
theorem spL_len (c : UInt8) : ∀ l : List UInt8, (spL c l).length ≤ l.length + 1
  | [] => by simp [spL]
  | b :: l => by
    have ih := spL_len c l
    by_cases h : b = c
    · subst h
      rw [spL_hit, List.length_cons, List.length_cons]
      omega
    · obtain ⟨q, qs, e1, e2⟩ := spL_miss c b l h
      rw [e1] at ih
      rw [e2, List.length_cons, List.length_cons]
      rw [List.length_cons] at ih
      omega
theorem count_sp (c : UInt8) : ∀ l : List UInt8, (spL c l).length = l.count c + 1
  | [] => by simp [spL]
  | b :: l => by
    have ih := count_sp c l
    by_cases h : b = c
    · subst h
      rw [spL_hit, List.length_cons, ih, List.count_cons_self]
    · obtain ⟨q, qs, e1, e2⟩ := spL_miss c b l h
      rw [e1] at ih
      rw [e2, List.length_cons, List.count_cons_of_ne (by simpa using h)]
      rw [List.length_cons] at ih
      omega
theorem bt_bA {l : List UInt8} {i : Nat} (h : i < l.length) : bt (bA l) (i : Int) = (l[i].toNat : Int) := by
  have h2 : (i : Int).toNat < (bA l).size := by rw [bA_size]; omega
  rw [bt, dif_pos h2]
  congr 2
theorem ext_bA (l : List UInt8) (a b : Nat) : (bA l).extract a b = bA ((l.drop a).take (b - a)) := Lib.extract_mk l a b
theorem rdP_at {x : List (List UInt8)} {j : Nat} (h : j < x.length) : rdOf ByteArray.empty (x.map bA) (j : Int) = bA x[j] := by
  simp [rdOf, List.getD_eq_getElem?_getD, List.getElem?_eq_getElem h]
theorem byte_eq {a b : UInt8} : (a.toNat : Int) = (b.toNat : Int) ↔ a = b := by
  constructor
  · intro h
    exact UInt8.toNat_inj.1 (by omega)
  · rintro rfl
    rfl
theorem take_snoc {α : Type} (l : List α) (a n : Nat) (h : a + n < l.length) : (l.drop a).take (n + 1) = (l.drop a).take n ++ [l[a + n]] := by
  rw [List.take_succ_eq_append_getElem (by rw [List.length_drop]; omega), List.getElem_drop]
/-- The reference's division. -/
theorem split_l0 (t : List UInt8) (c : UInt8) (ht : t.length ≤ 1048576) : ∀ (d i fr k : Nat) (out : List ByteArray), i + d = t.length → fr ≤ i → c ∉ (t.drop fr).take (i - fr) → out.length ≤ i → d < k →
    spec_l01Split.l0 k (bA t) (c.toNat : Int) out (fr : Int) (i : Int) = some (out ++ (spL c (t.drop fr)).map bA)
  | 0, i, fr, k, out, hi, hf, hc, ho, hk => by
    obtain ⟨k, rfl⟩ := dsucc (n := 0) (k := k) (by omega)
    have e : (t.drop fr).take (i - fr) = t.drop fr := List.take_of_length_le (by rw [List.length_drop]; omega)
    rw [e] at hc
    rw [spec_l01Split.l0, bA_size, if_neg (by omega), if_pos (by omega), if_pos (by omega), if_pos (by omega), spL_none c _ hc, Int.toNat_natCast, ext_bA, List.take_of_length_le (by rw [List.length_drop]; omega)]
    rfl
  | d + 1, i, fr, k, out, hi, hf, hc, ho, hk => by
    obtain ⟨k, rfl⟩ := dsucc (n := 0) (k := k) (by omega)
    have hlt : i < t.length := by omega
    rw [spec_l01Split.l0, bA_size, if_pos (by omega), if_pos (by omega), bt_bA hlt, show wrap64 ((i : Int) + 1) = ((i + 1 : Nat) : Int) by rw [dw64 (by omega) (by omega)]; omega]
    by_cases e : t[i] = c
    · rw [if_pos (by rw [e]), if_pos (by omega), if_pos (by omega), if_pos (by omega), if_pos (by omega), Int.toNat_natCast, Int.toNat_natCast, ext_bA]
      have hd : t.drop fr = (t.drop fr).take (i - fr) ++ c :: t.drop (i + 1) := by
        conv => lhs; rw [← List.take_append_drop (i - fr) (t.drop fr), List.drop_drop, show fr + (i - fr) = i by omega, List.drop_eq_getElem_cons hlt, e]
      rw [split_l0 t c ht d (i + 1) (i + 1) k _ (by omega) (Nat.le_refl _) (by simp) (by rw [List.length_append, List.length_singleton]; omega) (by omega)]
      conv => rhs; rw [hd, spL_app c _ _ hc]
      rw [List.map_cons, List.append_assoc]
      rfl
    · rw [if_neg (fun h => e (byte_eq.1 h))]
      refine split_l0 t c ht d (i + 1) fr k out (by omega) (by omega) ?_ (by omega) (by omega)
      rw [show i + 1 - fr = (i - fr) + 1 by omega, take_snoc t fr (i - fr) (by omega)]
      simp only [List.mem_append, List.mem_singleton, not_or]
      refine ⟨hc, fun h => e ?_⟩
      rw [h]
      congr 1
      omega
theorem split_spec (t : List UInt8) (c : UInt8) (ht : t.length ≤ 1048576) (k : Nat) (hk : 1048577 ≤ k) : spec_l01Split.f k (bA t) (c.toNat : Int) = some ((spL c t).map bA) := by
  rw [spec_l01Split.f]
  exact split_l0 t c ht t.length 0 0 k [] (by omega) (Nat.le_refl _) (by simp) (Nat.le_refl _) (by omega)
theorem mem_join_len (s : List UInt8) : ∀ (ps : List (List UInt8)), ∀ p ∈ ps, p.length ≤ (Lib.join ps s).length
  | [], p, h => by cases h
  | [q], p, h => by
    rw [List.mem_singleton.1 h, Lib.join_one]
    exact Nat.le_refl _
  | q :: r :: ps, p, h => by
    rw [join_cons2, List.length_append, List.length_append]
    rcases List.mem_cons.1 h with rfl | h
    · omega
    · have := mem_join_len s (r :: ps) p h
      omega
theorem sp_piece {c : UInt8} {t p : List UInt8} (h : p ∈ spL c t) : p.length ≤ t.length := by
  have := mem_join_len [c] _ p h
  rwa [join_sp] at this
theorem w64 {n : Int} (h : -9223372036854775808 ≤ n) (h' : n ≤ 9223372036854775807) : wrap64 n = n := by unfold wrap64; omega
theorem wfi {n : Int} (h : (Lit.int .i64 n).wf = true) : -9223372036854775808 ≤ n ∧ n ≤ 9223372036854775807 := by
  have h2 : IntKind.i64.min ≤ n ∧ n ≤ IntKind.i64.max := by simpa [Lit.wf] using h
  have e1 : IntKind.i64.min = -9223372036854775808 := by decide
  have e2 : IntKind.i64.max = 9223372036854775807 := by decide
  omega
theorem succ_of {n k : Nat} (h : n < k) : ∃ m, k = m + 1 := ⟨k - 1, by omega⟩
theorem rd_at {x : List Int} {j : Nat} (h : j < x.length) : rd x (j : Int) = x[j] := by
  simp [rd, List.getD_eq_getElem?_getD, List.getElem?_eq_getElem h]
theorem take_set_snoc {α : Type} (x : List α) (i : Nat) (a : α) (h : i < x.length) : (x.set i a).take (i + 1) = x.take i ++ [a] := by
  rw [List.take_succ_eq_append_getElem (by simpa using h)]
  rw [List.take_set, List.set_eq_of_length_le (by rw [List.length_take]; omega)]
  simp
/-- The int helpers. -/
theorem eqI_l0 (d : Nat) : ∀ (x : List Int) (k i : Nat), x.length ≤ 4611686018427387904 → i + d = x.length → d < k → laws_eqInt64S.l0 k x x (i : Int) = some true := by
  induction d with
  | zero =>
    intro x k i hn hi hk
    obtain ⟨k, rfl⟩ := succ_of hk
    rw [laws_eqInt64S.l0, if_neg (by omega)]
  | succ d ih =>
    intro x k i hn hi hk
    obtain ⟨k, rfl⟩ := succ_of hk
    rw [laws_eqInt64S.l0, if_pos (by omega), if_pos (by omega), if_pos (by omega), if_pos rfl, w64 (by omega) (by omega)]
    exact ih x k (i + 1) hn (by omega) (by omega)
theorem eqI (x : List Int) (hn : x.length ≤ 4611686018427387904) (k : Nat) (hk : x.length < k) : laws_eqInt64S.f k x x = some true := by
  rw [laws_eqInt64S.f, if_pos rfl]
  exact eqI_l0 x.length x k 0 hn (by omega) hk
theorem loop_ne (s : ByteArray) (d : Nat) : ∀ (i : Nat) (r : List UInt8), r ≠ [] → s.size - i = d → ByteArray.toList.loop s i r ≠ [] := by
  induction d with
  | zero =>
    intro i r hr hi
    rw [ByteArray.toList.loop, if_neg (by omega)]
    simpa using hr
  | succ d ih =>
    intro i r hr hi
    rw [ByteArray.toList.loop, if_pos (by omega)]
    exact ih (i + 1) _ (by simp) (by omega)
theorem toList_nil (s : ByteArray) : s.toList = [] ↔ s.size = 0 := by
  rw [ByteArray.toList, ByteArray.toList.loop]
  by_cases h : 0 < s.size
  · rw [if_pos h]
    constructor
    · intro h2
      exact absurd h2 (loop_ne s (s.size - 1) 1 _ (by simp) rfl)
    · intro h2
      omega
  · rw [if_neg h]
    exact ⟨fun _ => by omega, fun _ => rfl⟩
def inB (a lo hi : Int) : Bool := decide (lo ≤ a ∧ a ≤ hi)
theorem specIn (a lo hi : Int) : spec_l00In.f a lo hi = some (inB a lo hi) := by
  unfold spec_l00In.f inB
  by_cases h : a ≥ lo
  · rw [if_pos h]; congr 1; rw [decide_eq_decide]; exact ⟨fun h2 => ⟨h, h2⟩, fun h2 => h2.2⟩
  · rw [if_neg h]; congr 1; symm; rw [decide_eq_false_iff_not]; exact fun h2 => h h2.1
theorem implIn (a lo hi : Int) : impl_within.f a lo hi = some (inB a lo hi) := specIn a lo hi
theorem inB_true {a lo hi : Int} : inB a lo hi = true ↔ lo ≤ a ∧ a ≤ hi := by simp [inB]
theorem inB_false {a lo hi : Int} : inB a lo hi = false ↔ ¬ (lo ≤ a ∧ a ≤ hi) := by simp [inB]
def chB (c : Int) : Bool := decide ((97 ≤ c ∧ c ≤ 122) ∨ (48 ≤ c ∧ c ≤ 57))
def chk (s : ByteArray) : Nat → Nat → Bool
  | 0, _ => true
  | d + 1, i => chB (bt s (i : Int)) && chk s d (i + 1)
theorem specName_l0 (s : ByteArray) (hn : s.size ≤ 10) (d : Nat) : ∀ (k i : Nat), i + d = s.size → d < k → spec_l01Name.l0 k s (i : Int) = some (chk s d i) := by
  induction d with
  | zero =>
    intro k i hi hk
    obtain ⟨k, rfl⟩ := succ_of hk
    rw [spec_l01Name.l0, if_neg (by omega)]
    rfl
  | succ d ih =>
    intro k i hi hk
    obtain ⟨k, rfl⟩ := succ_of hk
    rw [spec_l01Name.l0, if_pos (by omega), if_pos (by omega), w64 (by omega) (by omega)]
    have := ih k (i + 1) (by omega) (by omega)
    rw [show ((i : Int) + 1) = ((i + 1 : Nat) : Int) by omega, chk]
    simp only [spec_l01Small.f, spec_l01Digit.f, this]
    generalize bt s (i : Int) = c
    by_cases h1 : c ≥ 97 <;> by_cases h2 : c ≤ 122 <;> by_cases h3 : c ≥ 48 <;> by_cases h4 : c ≤ 57 <;> first | (exfalso; omega) | (simp [h1, h2, h3, h4, chB]; done) | (simp [h1, h2, h3, h4, chB]; omega)
theorem implName_l0 (s : ByteArray) (hn : s.size ≤ 10) (d : Nat) : ∀ (k i : Nat), i + d = s.size → d < k → impl_onlyNameBytes.l0 k s (s.size : Int) (i : Int) = some (chk s d i) := by
  induction d with
  | zero =>
    intro k i hi hk
    obtain ⟨k, rfl⟩ := succ_of hk
    rw [impl_onlyNameBytes.l0, if_neg (by omega)]
    rfl
  | succ d ih =>
    intro k i hi hk
    obtain ⟨k, rfl⟩ := succ_of hk
    rw [impl_onlyNameBytes.l0, if_pos (by omega), if_pos (by omega), if_pos (by omega), w64 (by omega) (by omega)]
    have := ih k (i + 1) (by omega) (by omega)
    rw [show ((i : Int) + 1) = ((i + 1 : Nat) : Int) by omega, chk]
    simp only [this]
    generalize bt s (i : Int) = c
    by_cases h1 : c < 97 <;> by_cases h2 : c > 122 <;> by_cases h3 : c < 48 <;> by_cases h4 : c > 57 <;> first | (exfalso; omega) | (rw [show chB c = true from by simp [chB]; omega]; simp [h1, h2, h3, h4]; done) | (rw [show chB c = false from by simp [chB]; omega]; simp [h1, h2, h3, h4]; done)
def nameB (s : ByteArray) : Bool := decide (1 ≤ s.size ∧ s.size ≤ 10) && decide (97 ≤ bt s 0 ∧ bt s 0 ≤ 122) && chk s s.size 0
theorem specName (s : ByteArray) (k : Nat) (hk : 12 ≤ k) : spec_l01Name.f k s = some (nameB s) := by
  obtain ⟨k, rfl⟩ := succ_of (show 0 < k by omega)
  have hj : ∀ b, spec_l01Name.j0 (k + 1) s b = if b = true then some false else spec_l01Name.l0 k s 0 := fun _ => rfl
  rw [spec_l01Name.f]
  simp only [toList_nil, hj]
  by_cases h0 : s.size = 0
  · rw [if_pos h0]
    simp [nameB, h0]
  · rw [if_neg h0]
    by_cases h1 : (s.size : Int) > 10
    · rw [if_pos h1]
      simp [nameB, show ¬ (s.size ≤ 10) by omega]
    · rw [if_neg h1, if_pos (by omega)]
      have h := specName_l0 s (by omega) s.size k 0 (by omega) (by omega)
      rw [show ((0 : Nat) : Int) = 0 from rfl] at h
      rw [nameB, decide_eq_true (p := 1 ≤ s.size ∧ s.size ≤ 10) (by omega)]
      simp only [spec_l01Small.f]
      generalize bt s 0 = c
      by_cases h2 : c ≥ 97 <;> by_cases h3 : c ≤ 122 <;> simp [h2, h3, h]
theorem implName (s : ByteArray) (k : Nat) (hk : 12 ≤ k) : impl_IsName.f k s = some (nameB s) := by
  rw [impl_IsName.f]
  by_cases h0 : s.size = 0
  · rw [if_pos (by omega)]
    simp [nameB, h0]
  · rw [if_neg (by omega)]
    by_cases h1 : (s.size : Int) > 10
    · rw [if_pos h1]
      simp [nameB, show ¬ (s.size ≤ 10) by omega]
    · rw [if_neg h1, if_pos (by omega), impl_onlyNameBytes.f]
      have h := implName_l0 s (by omega) s.size k 0 (by omega) (by omega)
      rw [show ((0 : Nat) : Int) = 0 from rfl] at h
      rw [nameB, decide_eq_true (p := 1 ≤ s.size ∧ s.size ≤ 10) (by omega), h]
      generalize bt s 0 = c
      by_cases h2 : c < 97 <;> by_cases h3 : c > 122 <;> first | (exfalso; omega) | (rw [show decide (97 ≤ c ∧ c ≤ 122) = true from by simp; omega]; simp [h2, h3]; done) | (rw [show decide (97 ≤ c ∧ c ≤ 122) = false from by simp; omega]; simp [h2, h3]; done)
/-- Members. -/
def hasL (f : List Int) (s : Int) : Bool := f.any (· == s)
theorem hasL_cons (a : Int) (l : List Int) (s : Int) : hasL (a :: l) s = (a == s || hasL l s) := rfl
theorem has_i0 (f : List Int) (s : Int) (hn : f.length ≤ 1048576) (d : Nat) : ∀ (k i : Nat), i + d = f.length → d < k → ∃ r : Int, slices_Index_int64_int64.l0 k f s (f.length : Int) (i : Int) = some r ∧ decide (r ≥ 0) = hasL (f.drop i) s := by
  induction d with
  | zero =>
    intro k i hi hk
    obtain ⟨k, rfl⟩ := succ_of hk
    rw [slices_Index_int64_int64.l0, if_neg (by omega), List.drop_eq_nil_of_le (by omega)]
    exact ⟨-1, rfl, rfl⟩
  | succ d ih =>
    intro k i hi hk
    obtain ⟨k, rfl⟩ := succ_of hk
    have hlt : i < f.length := by omega
    obtain ⟨r, e2, e3⟩ := ih k (i + 1) (by omega) (by omega)
    rw [slices_Index_int64_int64.l0]
    simp only [if_pos (show (i : Int) < (f.length : Int) by omega), if_pos (show (0 : Int) ≤ (i : Int) by omega)]
    rw [rd_at hlt, w64 (by omega) (by omega), show ((i : Int) + 1) = ((i + 1 : Nat) : Int) by omega, e2, List.drop_eq_getElem_cons hlt, hasL_cons]
    by_cases c : f[i] = s
    · rw [if_pos c.symm]
      refine ⟨(i : Int), rfl, ?_⟩
      simp [c]
    · rw [if_neg (fun e => c e.symm)]
      refine ⟨r, rfl, ?_⟩
      rw [e3]
      simp [c]
theorem implCont (f : List Int) (s : Int) (hn : f.length ≤ 1048576) (k : Nat) (hk : 1048577 ≤ k) : slices_Contains_int64_int64.f k f s = some (hasL f s) := by
  obtain ⟨r, e2, e3⟩ := has_i0 f s hn f.length k 0 (by omega) (by omega)
  rw [List.drop_zero] at e3
  rw [slices_Contains_int64_int64.f, slices_Index_int64_int64.f, show slices_Index_int64_int64.l0 k f s (f.length : Int) 0 = _ from e2, Option.bind_some, e3]
theorem specHas_l0 (f : List Int) (s : Int) (hn : f.length ≤ 1048576) (d : Nat) : ∀ (k i : Nat), i + d = f.length → d < k → spec_l00Has.l0 k f s (i : Int) = some (hasL (f.drop i) s) := by
  induction d with
  | zero =>
    intro k i hi hk
    obtain ⟨k, rfl⟩ := succ_of hk
    rw [spec_l00Has.l0, if_neg (by omega), List.drop_eq_nil_of_le (by omega)]
    rfl
  | succ d ih =>
    intro k i hi hk
    obtain ⟨k, rfl⟩ := succ_of hk
    have hlt : i < f.length := by omega
    rw [spec_l00Has.l0, if_pos (by omega), if_pos (by omega), rd_at hlt, w64 (by omega) (by omega), show ((i : Int) + 1) = ((i + 1 : Nat) : Int) by omega, ih k (i + 1) (by omega) (by omega), List.drop_eq_getElem_cons hlt, hasL_cons]
    by_cases c : f[i] = s
    · rw [if_pos c]
      simp [c]
    · rw [if_neg c]
      simp [c]
theorem specHas (f : List Int) (s : Int) (hn : f.length ≤ 1048576) (k : Nat) (hk : 1048577 ≤ k) : spec_l00Has.f k f s = some (hasL f s) := by
  have h := specHas_l0 f s hn f.length k 0 (by omega) (by omega)
  rw [List.drop_zero] at h
  exact h
def toneL (u d : List Int) (x : Int) : Bool := hasL u x || hasL d x
theorem specTone (nm : ByteArray) (u d : List Int) (st wk : Int) (fb : List (List Int)) (x : Int) (hu : u.length ≤ 1048576) (hd : d.length ≤ 1048576) (k : Nat) (hk : 1048577 ≤ k) : spec_l05Tone.f k nm u d st wk fb x = some (toneL u d x) := by
  rw [spec_l05Tone.f, specHas u x hu k hk, specHas d x hd k hk, toneL]
  cases hasL u x <;> simp
theorem implTone (nm : ByteArray) (u d : List Int) (st wk : Int) (fb : List (List Int)) (x : Int) (hu : u.length ≤ 1048576) (hd : d.length ≤ 1048576) (k : Nat) (hk : 1048577 ≤ k) : impl_Raga_hasTone.f k nm u d st wk fb x = some (toneL u d x) := by
  rw [impl_Raga_hasTone.f, implCont u x hu k hk, implCont d x hd k hk, toneL]
  cases hasL u x <;> simp
def riB (l : List Int) : Nat → Nat → Bool
  | 0, _ => true
  | d + 1, i => inB (rd l (i : Int)) 0 11 && (if i = 0 then true else decide (rd l ((i - 1 : Nat) : Int) < rd l (i : Int))) && riB l d (i + 1)
def icB (l : List Int) : Nat → Nat → Bool
  | 0, _ => true
  | d + 1, i => decide (rd l ((i - 1 : Nat) : Int) < rd l (i : Int)) && icB l d (i + 1)
theorem specRi_l0 (l : List Int) (hn : l.length ≤ 1048576) (d : Nat) : ∀ (k i : Nat), i + d = l.length → d < k → spec_l00Rises.l0 k l 0 11 (i : Int) = some (riB l d i) := by
  induction d with
  | zero =>
    intro k i hi hk
    obtain ⟨k, rfl⟩ := succ_of hk
    rw [spec_l00Rises.l0, if_neg (by omega)]
    rfl
  | succ d ih =>
    intro k i hi hk
    obtain ⟨k, rfl⟩ := succ_of hk
    have := ih k (i + 1) (by omega) (by omega)
    rw [spec_l00Rises.l0, if_pos (by omega), if_pos (by omega), w64 (show -9223372036854775808 ≤ (i : Int) + 1 by omega) (by omega), show ((i : Int) + 1) = ((i + 1 : Nat) : Int) by omega, this, specIn, Option.bind_some, riB]
    cases inB (rd l (i : Int)) 0 11
    · simp
    · by_cases h0 : i = 0
      · subst h0
        simp
      · rw [if_pos rfl, if_pos (show (i : Int) > 0 by omega), w64 (by omega) (by omega), if_pos (by omega), if_pos (by omega), show ((i : Int) - 1) = ((i - 1 : Nat) : Int) by omega]
        simp only [if_neg h0, Bool.true_and]
        by_cases c : rd l ((i - 1 : Nat) : Int) ≥ rd l (i : Int)
        · simp [c, show ¬ (rd l ((i - 1 : Nat) : Int) < rd l (i : Int)) by omega]
        · simp [c, show (rd l ((i - 1 : Nat) : Int) < rd l (i : Int)) by omega]
theorem implIc_l0 (l : List Int) (hn : l.length ≤ 1048576) (d : Nat) : ∀ (k i : Nat), 1 ≤ i → i + d = l.length → d < k → impl_increasing.l0 k l (i : Int) = some (icB l d i) := by
  induction d with
  | zero =>
    intro k i h1 hi hk
    obtain ⟨k, rfl⟩ := succ_of hk
    rw [impl_increasing.l0, if_neg (by omega)]
    rfl
  | succ d ih =>
    intro k i h1 hi hk
    obtain ⟨k, rfl⟩ := succ_of hk
    have := ih k (i + 1) (by omega) (by omega) (by omega)
    rw [impl_increasing.l0, if_pos (by omega), if_pos (by omega), w64 (show -9223372036854775808 ≤ (i : Int) - 1 by omega) (by omega), w64 (show -9223372036854775808 ≤ (i : Int) + 1 by omega) (by omega), if_pos (by omega), if_pos (by omega), show ((i : Int) + 1) = ((i + 1 : Nat) : Int) by omega, show ((i : Int) - 1) = ((i - 1 : Nat) : Int) by omega, this, icB]
    by_cases c : rd l (i : Int) ≤ rd l ((i - 1 : Nat) : Int)
    · simp [c, show ¬ (rd l ((i - 1 : Nat) : Int) < rd l (i : Int)) by omega]
    · simp [c, show (rd l ((i - 1 : Nat) : Int) < rd l (i : Int)) by omega]
theorem riB_true (l : List Int) (d : Nat) : ∀ i, riB l d i = true ↔ ∀ j, i ≤ j → j < i + d → (0 ≤ rd l (j : Int) ∧ rd l (j : Int) ≤ 11) ∧ (0 < j → rd l ((j - 1 : Nat) : Int) < rd l (j : Int)) := by
  induction d with
  | zero => intro i; simp only [riB, true_iff]; intro j h1 h2; omega
  | succ d ih =>
    intro i
    rw [riB, Bool.and_eq_true, Bool.and_eq_true, ih (i + 1), inB_true]
    constructor
    · rintro ⟨⟨h1, h2⟩, h3⟩ j hj hk
      by_cases e : j = i
      · subst e
        refine ⟨h1, fun h0 => ?_⟩
        rw [if_neg (by omega)] at h2
        exact of_decide_eq_true h2
      · exact h3 j (by omega) (by omega)
    · intro h
      have h0 := h i (Nat.le_refl _) (by omega)
      refine ⟨⟨h0.1, ?_⟩, fun j h1 h2 => h j (by omega) (by omega)⟩
      split
      · rfl
      · exact decide_eq_true (h0.2 (by omega))
theorem icB_true (l : List Int) (d : Nat) : ∀ i, icB l d i = true ↔ ∀ j, i ≤ j → j < i + d → rd l ((j - 1 : Nat) : Int) < rd l (j : Int) := by
  induction d with
  | zero => intro i; simp only [icB, true_iff]; intro j h1 h2; omega
  | succ d ih =>
    intro i
    rw [icB, Bool.and_eq_true, ih (i + 1), decide_eq_true_iff]
    constructor
    · rintro ⟨h1, h3⟩ j hj hk
      by_cases e : j = i
      · subst e
        exact h1
      · exact h3 j (by omega) (by omega)
    · intro h
      exact ⟨h i (Nat.le_refl _) (by omega), fun j h1 h2 => h j (by omega) (by omega)⟩
theorem up_of (f : Nat → Int) (n : Nat) (h : ∀ j, 1 ≤ j → j < n → f (j - 1) < f j) (d : Nat) : ∀ a, a + d < n → f a ≤ f (a + d) := by
  induction d with
  | zero => intro a _; simp
  | succ d ih =>
    intro a ha
    have h1 := ih a (by omega)
    have h2 := h (a + d + 1) (by omega) (by omega)
    rw [Nat.add_sub_cancel] at h2
    rw [show a + (d + 1) = a + d + 1 by omega]
    omega
def scB (l : List Int) : Bool := decide (5 ≤ l.length) && riB l l.length 0 && decide (rd l 0 = 0)
theorem specSc (l : List Int) (hn : l.length ≤ 1048576) (k : Nat) (hk : 1048577 ≤ k) : spec_l03Scale.f k l = some (scB l) := by
  rw [spec_l03Scale.f, scB]
  by_cases h : (l.length : Int) ≥ 5
  · have e := specRi_l0 l hn l.length k 0 (by omega) (by omega)
    rw [if_pos h, spec_l00Rises.f, show spec_l00Rises.l0 k l 0 11 0 = _ from e, Option.bind_some, decide_eq_true (show 5 ≤ l.length by omega)]
    cases riB l l.length 0
    · simp
    · rw [if_pos rfl, if_pos (by omega)]
      simp only [Bool.true_and]
      congr 1
  · rw [if_neg h, decide_eq_false (show ¬ 5 ≤ l.length by omega)]
    simp
theorem implSc (l : List Int) (hn : l.length ≤ 1048576) (k : Nat) (hk : 1048577 ≤ k) : impl_ValidScale.f k l = some (scB l) := by
  rw [impl_ValidScale.f, scB]
  by_cases h : (l.length : Int) ≥ 5
  · have e := implIc_l0 l hn (l.length - 1) k 1 (by omega) (by omega) (by omega)
    rw [if_pos h, if_pos (by omega), decide_eq_true (show 5 ≤ l.length by omega)]
    by_cases h0 : rd l 0 = 0
    · rw [if_pos h0, impl_increasing.f, show impl_increasing.l0 k l 1 = _ from e, Option.bind_some, decide_eq_true h0, Bool.true_and, Bool.and_true]
      by_cases hi : icB l (l.length - 1) 1 = true
      · rw [if_pos hi, w64 (by omega) (by omega), if_pos (by omega), if_pos (by omega)]
        congr 1
        rw [Bool.eq_iff_iff, decide_eq_true_iff, riB_true]
        have hi2 := (icB_true l _ 1).1 hi
        have hi3 : ∀ j, 1 ≤ j → j < l.length → rd l (((j - 1 : Nat) : Nat) : Int) < rd l ((j : Nat) : Int) := fun j h1 h2 => hi2 j h1 (by omega)
        have up := up_of (fun j => rd l (j : Int)) l.length hi3
        rw [show ((l.length : Int) - 1) = ((l.length - 1 : Nat) : Int) by omega]
        constructor
        · intro hl j _ hj
          have u1 := up j 0 (by omega)
          have u2 := up (l.length - 1 - j) j (by omega)
          rw [show j + (l.length - 1 - j) = l.length - 1 by omega] at u2
          rw [Nat.zero_add] at u1
          rw [show ((0 : Nat) : Int) = 0 from rfl] at u1
          exact ⟨⟨by omega, by omega⟩, fun hp => hi2 j hp (by omega)⟩
        · intro hh
          have := (hh (l.length - 1) (by omega) (by omega)).1.2
          omega
      · rw [if_neg hi]
        congr 1
        symm
        rw [← Bool.not_eq_true, riB_true]
        intro hh
        exact hi ((icB_true l _ 1).2 fun j h1 h2 => (hh j (by omega) (by omega)).2 (by omega))
    · rw [if_neg h0, decide_eq_false h0]
      simp
  · rw [if_neg h, decide_eq_false (show ¬ 5 ≤ l.length by omega)]
    simp
def prB (p : List Int) : Bool := decide (p.length = 2) && inB (rd p 0) 0 11 && inB (rd p 1) 0 11 && decide (rd p 0 ≠ rd p 1)
theorem specPair (p : List Int) : spec_l05Pair.f p = some (prB p) := by
  rw [spec_l05Pair.f, prB]
  by_cases h : (p.length : Int) = 2
  · rw [if_pos h, if_pos (by omega), specIn, specIn, if_pos (by omega), decide_eq_true (show p.length = 2 by omega)]
    simp only [Option.bind_some]
    cases inB (rd p 0) 0 11 <;> cases inB (rd p 1) 0 11 <;> simp
    by_cases e : rd p 0 = rd p 1 <;> simp [e]
  · rw [if_neg h, decide_eq_false (show ¬ p.length = 2 by omega)]
    simp
def ltB (p q : List Int) : Bool := decide (rd p 0 < rd q 0 ∨ (rd p 0 = rd q 0 ∧ rd p 1 < rd q 1))
theorem implCmp (a b : Int) : cmp_Compare_int64.f a b = some (if a < b then -1 else if a > b then 1 else 0) := by
  simp only [cmp_Compare_int64.f, cmp_isNaN_int64.f, Option.bind_some, bne_self_eq_false]
  by_cases h : a < b
  · simp [h]
  · by_cases h2 : a > b <;> simp [h, h2]
theorem implCompare (p q : List Int) (hp : p.length = 2) (hq : q.length = 2) (k : Nat) (hk : 5 ≤ k) : ∃ c, slices_Compare_int64_int64.f k p q = some c ∧ decide (c ≥ 0) = !ltB p q := by
  obtain ⟨k, rfl⟩ : ∃ m, k = m + 3 := ⟨k - 3, by omega⟩
  have w1 : wrap64 (0 + 1) = 1 := w64 (by omega) (by omega)
  have w2 : wrap64 (1 + 1) = 2 := w64 (by omega) (by omega)
  rw [slices_Compare_int64_int64.f, slices_Compare_int64_int64.l0, slices_Compare_int64_int64.l0, slices_Compare_int64_int64.l0]
  simp only [hp, hq, w1, w2, implCmp, Option.bind_some, ltB]
  by_cases h1 : rd p 0 < rd q 0
  · exact ⟨-1, by simp [h1], by simp [h1]⟩
  · by_cases h2 : rd p 0 > rd q 0
    · exact ⟨1, by simp [h1, h2], by simp [h1]; omega⟩
    · have h3 : rd p 0 = rd q 0 := by omega
      by_cases h4 : rd p 1 < rd q 1
      · exact ⟨-1, by simp [h3, h4], by simp [h3, h4]⟩
      · by_cases h5 : rd p 1 > rd q 1
        · exact ⟨1, by simp [h3, h4, h5], by simp [h3]; omega⟩
        · exact ⟨0, by simp [h3, h4, h5], by simp [h3]; omega⟩
def psB (l : List (List Int)) : Nat → Nat → Bool
  | 0, _ => true
  | d + 1, i => prB (rd_L2 l (i : Int)) && (if i = 0 then true else ltB (rd_L2 l ((i - 1 : Nat) : Int)) (rd_L2 l (i : Int))) && psB l d (i + 1)
theorem prB_len {p : List Int} (h : prB p = true) : p.length = 2 := by
  simp only [prB, Bool.and_eq_true, decide_eq_true_eq] at h
  exact h.1.1.1
theorem gt_lt (p q : List Int) : gtB p q = !ltB p q := by
  rw [Bool.eq_iff_iff]
  simp only [gtB, ltB, decide_eq_true_eq, Bool.not_eq_true', decide_eq_false_iff_not]
  omega
theorem specPs_l0 (l : List (List Int)) (hn : l.length ≤ 1048576) (d : Nat) : ∀ (k i : Nat), i + d = l.length → d < k → (0 < i → prB (rd_L2 l ((i - 1 : Nat) : Int)) = true) → spec_l05Pairs.l0 k l i = some (psB l d i && decide (l.length ≤ 8)) := by
  induction d with
  | zero =>
    intro k i hi hk hp
    obtain ⟨k, rfl⟩ := succ_of hk
    rw [spec_l05Pairs.l0, if_neg (by omega), psB, Bool.true_and]
    congr 1
    rw [decide_eq_decide]
    omega
  | succ d ih =>
    intro k i hi hk hp
    obtain ⟨k, rfl⟩ := succ_of hk
    rw [spec_l05Pairs.l0, if_pos (by omega), specPair, Option.bind_some, psB]
    cases hb : prB (rd_L2 l (i : Int))
    · simp
    · have e := ih k (i + 1) (by omega) (by omega) (fun _ => by rw [Nat.add_sub_cancel]; exact hb)
      rw [if_pos rfl, e]
      by_cases h0 : i = 0
      · rw [if_pos h0, if_pos h0, Bool.true_and, Bool.true_and]
      · rw [if_neg h0, if_neg h0, if_pos ⟨prB_len (hp (by omega)), prB_len hb⟩, gt_lt, Bool.true_and]
        cases ltB (rd_L2 l ((i - 1 : Nat) : Int)) (rd_L2 l (i : Int)) <;> simp
theorem toneIn (a : Int) : impl_toneOk.f a = some (inB a 0 11) := by
  rw [impl_toneOk.f, implIn]
  rfl
theorem implPs_l0 (nm : ByteArray) (u dn : List Int) (st wk : Int) (l : List (List Int)) (hn : l.length ≤ 1048576) (d : Nat) : ∀ (k i : Nat), i + d = l.length → d + 5 < k → (0 < i → prB (rd_L2 l ((i - 1 : Nat) : Int)) = true) → impl_ValidRaga.l0 k l (l.length : Int) (i : Int) nm u dn st wk l = some (psB l d i) := by
  induction d with
  | zero =>
    intro k i hi hk hp
    obtain ⟨k, rfl⟩ := succ_of (show 0 < k by omega)
    rw [impl_ValidRaga.l0, if_neg (by omega)]
    rfl
  | succ d ih =>
    intro k i hi hk hp
    obtain ⟨k, rfl⟩ := succ_of (show 0 < k by omega)
    rw [impl_ValidRaga.l0, if_pos (by omega), if_pos (by omega), if_pos (by omega), psB, w64 (show -9223372036854775808 ≤ (i : Int) + 1 by omega) (by omega), show ((i : Int) + 1) = ((i + 1 : Nat) : Int) by omega]
    cases hb : prB (rd_L2 l (i : Int))
    · rw [Bool.false_and, Bool.false_and]
      simp only [toneIn, Option.bind_some]
      unfold prB at hb
      by_cases h2 : ((rd_L2 l (i : Int)).length : Int) = 2
      · rw [if_pos h2, if_pos (by omega), if_pos (show (1 : Int) < _ by omega)]
        rw [decide_eq_true (show (rd_L2 l (i : Int)).length = 2 by omega)] at hb
        cases h3 : inB (rd (rd_L2 l (i : Int)) 0) 0 11
        · simp
        · cases h4 : inB (rd (rd_L2 l (i : Int)) 1) 0 11
          · simp
          · rw [h3, h4] at hb
            have h5 : rd (rd_L2 l (i : Int)) 0 = rd (rd_L2 l (i : Int)) 1 := by simpa using hb
            simp [h5]
      · rw [if_neg h2]
    · have e := ih k (i + 1) (by omega) (by omega) (fun _ => by rw [Nat.add_sub_cancel]; exact hb)
      have h2 := prB_len hb
      simp only [prB, Bool.and_eq_true, decide_eq_true_eq] at hb
      obtain ⟨⟨⟨_, h3⟩, h4⟩, h5⟩ := hb
      rw [if_pos (by omega), if_pos (by omega), toneIn, toneIn, h3, h4, Option.bind_some, if_pos rfl, if_pos (by omega), Option.bind_some, if_pos rfl, if_neg h5, e]
      by_cases h0 : i = 0
      · subst h0
        simp
      · have h6 := prB_len (hp (by omega))
        obtain ⟨c, ec, hc⟩ := implCompare (rd_L2 l ((i - 1 : Nat) : Int)) (rd_L2 l (i : Int)) h6 h2 k (by omega)
        rw [if_pos (by omega), w64 (by omega) (by omega), if_pos (by omega), if_pos (by omega), show ((i : Int) - 1) = ((i - 1 : Nat) : Int) by omega, ec, Option.bind_some, if_neg h0, Bool.true_and]
        by_cases h7 : c ≥ 0
        · rw [if_pos h7]
          rw [decide_eq_true h7] at hc
          rw [show ltB (rd_L2 l ((i - 1 : Nat) : Int)) (rd_L2 l (i : Int)) = false by simpa using hc.symm]
          rfl
        · rw [if_neg h7]
          rw [decide_eq_false h7] at hc
          rw [show ltB (rd_L2 l ((i - 1 : Nat) : Int)) (rd_L2 l (i : Int)) = true by simpa using hc.symm]
          rfl
def okR (nm : ByteArray) (u d : List Int) (st wk : Int) (fb : List (List Int)) : Bool := nameB nm && scB u && scB d && toneL u d st && toneL u d wk && decide (st ≠ wk) && (psB fb fb.length 0 && decide (fb.length ≤ 8))
theorem specOkR (nm : ByteArray) (u d : List Int) (st wk : Int) (fb : List (List Int)) (hu : u.length ≤ 1048576) (hd : d.length ≤ 1048576) (hf : fb.length ≤ 1048576) (k : Nat) (hk : 1048600 ≤ k) : spec_l05Ok.f k nm u d st wk fb = some (okR nm u d st wk fb) := by
  have e := specPs_l0 fb hf fb.length k 0 (by omega) (by omega) (by omega)
  rw [spec_l05Ok.f, specName nm k (by omega), specSc u hu k (by omega), specSc d hd k (by omega), specTone nm u d st wk fb st hu hd k (by omega), specTone nm u d st wk fb wk hu hd k (by omega), spec_l05Pairs.f, show spec_l05Pairs.l0 k fb 0 = _ from e, okR]
  simp only [Option.bind_some]
  cases nameB nm <;> cases scB u <;> cases scB d <;> cases toneL u d st <;> cases toneL u d wk <;> simp
  by_cases c : st = wk <;> simp [c]
theorem implOkR (nm : ByteArray) (u d : List Int) (st wk : Int) (fb : List (List Int)) (hu : u.length ≤ 1048576) (hd : d.length ≤ 1048576) (hf : fb.length ≤ 1048576) (k : Nat) (hk : 1048600 ≤ k) : impl_ValidRaga.f k nm u d st wk fb = some (okR nm u d st wk fb) := by
  obtain ⟨m, rfl⟩ := succ_of (show 0 < k by omega)
  have e := implPs_l0 nm u d st wk fb hf fb.length m 0 (by omega) (by omega) (by omega)
  have hj : ∀ b, impl_ValidRaga.j0 (m + 1) b nm u d st wk fb = if b = true then some false else impl_ValidRaga.l0 m fb (fb.length : Int) 0 nm u d st wk fb := fun _ => rfl
  rw [impl_ValidRaga.f, implName nm _ (by omega), implSc u hu _ (by omega), implSc d hd _ (by omega), implTone nm u d st wk fb st hu hd _ (by omega), implTone nm u d st wk fb wk hu hd _ (by omega), okR]
  simp only [hj, show impl_ValidRaga.l0 m fb (fb.length : Int) 0 nm u d st wk fb = _ from e, Option.bind_some]
  cases nameB nm <;> cases scB u <;> cases scB d <;> simp
  by_cases c : st = wk
  · simp [c]
  · simp only [c, if_false, decide_false, Bool.not_false, Bool.and_true]
    cases toneL u d st <;> cases toneL u d wk <;> simp
    by_cases c8 : fb.length ≤ 8
    · simp [c8, show ¬ (8 < (fb.length : Int)) by omega]
    · simp [c8, show (8 < (fb.length : Int)) by omega]
theorem psB_true (l : List (List Int)) (d : Nat) : ∀ i, psB l d i = true → ∀ j, i ≤ j → j < i + d → prB (rd_L2 l (j : Int)) = true := by
  induction d with
  | zero => intro i _ j h1 h2; omega
  | succ d ih =>
    intro i h j h1 h2
    rw [psB, Bool.and_eq_true, Bool.and_eq_true] at h
    by_cases e : j = i
    · subst e; exact h.1.1
    · exact ih (i + 1) h.2 j (by omega) (by omega)
theorem okR_pairs {nm : ByteArray} {u d : List Int} {st wk : Int} {fb : List (List Int)} (h : okR nm u d st wk fb = true) : fb.length ≤ 8 ∧ ∀ p ∈ fb, prB p = true := by
  simp only [okR, Bool.and_eq_true, decide_eq_true_eq] at h
  refine ⟨h.2.2, fun p hp => ?_⟩
  obtain ⟨j, hj, rfl⟩ := List.getElem_of_mem hp
  have := psB_true fb _ 0 h.2.1 j (by omega) (by omega)
  simpa only [rd_L2, Int.toNat_natCast, List.getD_eq_getElem?_getD, List.getElem?_eq_getElem hj, Option.getD_some] using this
def mks (a : Int) (d : Nat) : List Int := (List.range d).map fun j : Nat => a + j
theorem mks_succ (a : Int) (d : Nat) : mks a (d + 1) = a :: mks (a + 1) d := by
  simp only [mks, List.range_succ_eq_map, List.map_cons, List.map_map]
  congr 1
  · simp
  · apply List.map_congr_left
    intro j _
    simp only [Function.comp, Nat.succ_eq_add_one]
    omega
theorem markI_l0 (d : Nat) : ∀ (x : List Int) (a : Int) (k i : Nat), x.length ≤ 1152921504606846976 → 0 ≤ a → a + d ≤ 4611686018427387904 → i + d = x.length → d < k →
    laws_markInt64S.l0 k x a (i : Int) = some (a + d, x.take i ++ mks a d) := by
  induction d with
  | zero =>
    intro x a k i hn h0 ha hi hk
    obtain ⟨k, rfl⟩ := succ_of hk
    rw [laws_markInt64S.l0, if_neg (by omega)]
    rw [List.take_of_length_le (by omega)]
    simp [mks]
  | succ d ih =>
    intro x a k i hn h0 ha hi hk
    obtain ⟨k, rfl⟩ := succ_of hk
    rw [laws_markInt64S.l0, if_pos (by omega), if_pos (by omega), w64 (n := a + 1) (by omega) (by omega), w64 (by omega) (by omega)]
    have := ih (x.set (i : Int).toNat a) (a + 1) k (i + 1) (by simpa using hn) (by omega) (by omega) (by simp; omega) (by omega)
    rw [show ((i : Int) + 1) = ((i + 1 : Nat) : Int) by omega, this, Int.toNat_natCast, take_set_snoc _ _ _ (by omega), mks_succ, List.append_assoc]
    simp
    omega
theorem heldI_l0 (d : Nat) : ∀ (x y : List Int) (a : Int) (k i : Nat), x = y ++ mks a d → y.length = i → i + d ≤ 1152921504606846976 → 0 ≤ a → a + d ≤ 4611686018427387904 → d < k →
    laws_heldInt64S.l0 k x a (i : Int) = some (a + d) := by
  induction d with
  | zero =>
    intro x y a k i hx hy hn h0 ha hk
    obtain ⟨k, rfl⟩ := succ_of hk
    have : x.length = i := by rw [hx]; simp [mks, hy]
    rw [laws_heldInt64S.l0, if_neg (by omega)]
    simp
  | succ d ih =>
    intro x y a k i hx hy hn h0 ha hk
    obtain ⟨k, rfl⟩ := succ_of hk
    have hl : x.length = i + (d + 1) := by rw [hx]; simp [mks, hy]
    have hr : rd x (i : Int) = a := by
      rw [rd_at (by omega)]
      subst hx hy
      rw [List.getElem_append_right (Nat.le_refl _)]
      simp [mks_succ]
    rw [laws_heldInt64S.l0, if_pos (by omega), if_pos (by omega), if_pos hr, w64 (n := a + 1) (by omega) (by omega), w64 (by omega) (by omega)]
    have := ih x (y ++ [a]) (a + 1) k (i + 1) (by rw [hx, mks_succ]; simp) (by simp [hy]) (by omega) (by omega) (by omega) (by omega)
    rw [show ((i : Int) + 1) = ((i + 1 : Nat) : Int) by omega, this]
    congr 1
    omega
theorem markI (x : List Int) (hn : x.length ≤ 1152921504606846976) (k : Nat) (hk : x.length < k) : laws_markInt64S.f k x 1 = some (1 + (x.length : Int), mks 1 x.length) := by
  rw [laws_markInt64S.f]
  have := markI_l0 x.length x 1 k 0 hn (by omega) (by omega) (by omega) hk
  simpa using this
theorem heldI (n : Nat) (hn : n ≤ 1152921504606846976) (k : Nat) (hk : n < k) : laws_heldInt64S.f k (mks 1 n) 1 = some (1 + (n : Int)) := by
  rw [laws_heldInt64S.f]
  exact heldI_l0 n (mks 1 n) [] 1 k 0 rfl rfl (by omega) (by omega) (by omega) hk
theorem splitAll (t : List UInt8) (c : UInt8) (ht : t.length ≤ 1048576) : strings_Split.f (bA t) (bA [c]) = some ((spL c t).map bA) := by
  rw [strings_Split.f, bA_size, bA_size, if_pos ⟨ht, by simp⟩, splitB_sp]
  have hl := Lib.splitB_all (bA [c]) (by rw [bA_size]; simp) 0 _ (bA t) rfl
  rw [splitB_sp, List.length_map] at hl
  have hk := splitK_sp c (Lib.countB (bA t) (bA [c])) t
  have hj := splitK_mem c (Lib.countB (bA t) (bA [c])) t
  have hc : Lib.countB (bA t) (bA [c]) = t.count c := by
    show Lib.count t [c] = _
    exact Lib.count_one c t
  have hs := count_sp c t
  rw [hk.1 (by omega)]
def LL : List UInt8 := [83, 114, 82, 103, 71, 109, 77, 80, 100, 68, 110, 78]
/-- A letter's tone, or -1. -/
def nm (c : UInt8) : Int := Lib.index LL [c]
/-- A tone's letter. -/
def la (i : Int) : UInt8 := LL.getD i.toNat 0
theorem nm_fin : ∀ i : Fin 12, nm (la ((i.val : Nat) : Int)) = ((i.val : Nat) : Int) ∧ la ((i.val : Nat) : Int) ≠ 32 := by decide
theorem nm_la {i : Int} (h0 : 0 ≤ i) (h1 : i ≤ 11) : nm (la i) = i := by
  have := (nm_fin ⟨i.toNat, by omega⟩).1
  rwa [show ((i.toNat : Nat) : Int) = i by omega] at this
theorem la_32 {i : Int} (h0 : 0 ≤ i) (h1 : i ≤ 11) : la i ≠ 32 := by
  have := (nm_fin ⟨i.toNat, by omega⟩).2
  rwa [show ((i.toNat : Nat) : Int) = i by omega] at this
theorem la_nm (c : UInt8) : nm c = -1 ∨ (0 ≤ nm c ∧ nm c ≤ 11 ∧ la (nm c) = c) := by
  rcases index_byte c LL with ⟨_, h⟩ | ⟨p, r, e, _, h⟩
  · exact .inl h
  · right
    have hl := congrArg List.length e
    rw [show LL.length = 12 from rfl, List.length_append, List.length_cons] at hl
    have h' : nm c = (p.length : Int) := h
    refine ⟨by omega, by omega, ?_⟩
    rw [h', la, Int.toNat_natCast, e]
    simp
theorem specNamed_l0 (c : UInt8) : ∀ (d i k : Nat), i + d = LL.length → d < k → spec_l03Named.l0 k (c.toNat : Int) (bA LL) (i : Int) = some (if Lib.index (LL.drop i) [c] = -1 then -1 else (i : Int) + Lib.index (LL.drop i) [c])
  | 0, i, k, hi, hk => by
    obtain ⟨k, rfl⟩ := dsucc (n := 0) (k := k) (by omega)
    rw [spec_l03Named.l0, bA_size, if_neg (by omega), List.drop_eq_nil_of_le (by omega), if_pos (by simp [Lib.index])]
  | d + 1, i, k, hi, hk => by
    obtain ⟨k, rfl⟩ := dsucc (n := 0) (k := k) (by omega)
    have h12 : LL.length = 12 := rfl
    have hlt : i < LL.length := by omega
    rw [spec_l03Named.l0, bA_size, if_pos (by omega), if_pos (by omega), bt_bA hlt, List.drop_eq_getElem_cons hlt]
    by_cases e : LL[i] = c
    · have hp : Lib.index (LL[i] :: LL.drop (i + 1)) [c] = 0 := by simp [Lib.index, List.isPrefixOf, e]
      rw [if_pos (by rw [e]), hp, if_neg (by decide), Int.add_zero]
    · have hp : ([c] : List UInt8).isPrefixOf (LL[i] :: LL.drop (i + 1)) = false := by simp [List.isPrefixOf, Ne.symm e]
      rw [if_neg (fun h => e (byte_eq.1 h)), dw64 (by omega) (by omega), show ((i : Int) + 1) = ((i + 1 : Nat) : Int) by omega, specNamed_l0 c d (i + 1) k (by omega) (by omega), Lib.index, hp]
      rcases index_byte c (LL.drop (i + 1)) with ⟨_, h⟩ | ⟨p, r, _, _, h⟩
      · rw [h]
        rfl
      · have hm : ((p.length : Int) == -1) = false := by rw [beq_eq_false_iff_ne]; omega
        rw [h, hm, if_neg (by omega)]
        simp only [Bool.false_eq_true, if_false]
        rw [if_neg (by omega)]
        congr 1
        omega
theorem specNamed (c : UInt8) (k : Nat) (hk : 20 ≤ k) : spec_l03Named.f k (c.toNat : Int) = some (nm c) := by
  have h := specNamed_l0 c 12 0 k rfl (by omega)
  rw [spec_l03Named.f, spec_l03Names.f, Option.bind_some]
  refine Eq.trans h ?_
  rw [List.drop_zero]
  show some (if nm c = -1 then -1 else ((0 : Nat) : Int) + nm c) = some (nm c)
  by_cases e : nm c = -1
  · rw [if_pos e, e]
  · rw [if_neg e]
    congr 1
    omega
theorem implNamed (c : UInt8) : impl_ToneNamed.f (bA [c]) = some (if nm c < 0 then (0, false) else (nm c, true)) := by
  rw [impl_ToneNamed.f, strings_Index.f, if_pos (by decide), Option.bind_some, if_pos (by rw [bA_size]; rfl)]
  show (if nm c < 0 then some (0, false) else some (nm c, true)) = _
  split <;> rfl
/-- What is read as a scale. -/
def rdSc (w : List UInt8) : List Int × Bool := if scB (w.map nm) = true then (w.map nm, true) else ([], false)
theorem scB_all {l : List Int} (h : scB l = true) : ∀ x ∈ l, 0 ≤ x ∧ x ≤ 11 := by
  rw [scB, Bool.and_eq_true, Bool.and_eq_true] at h
  have hr := (riB_true l l.length 0).1 h.1.2
  intro x hx
  obtain ⟨j, hj, rfl⟩ := List.getElem_of_mem hx
  have := (hr j (by omega) (by omega)).1
  rwa [rd_at hj] at this
theorem scB_nil : scB [] = false := by simp [scB]
theorem rdSc_of (w : List UInt8) (h : scB (rdSc w).1 = true) : rdSc w = (w.map nm, true) := by
  unfold rdSc at h ⊢
  by_cases c : scB (w.map nm) = true
  · rw [if_pos c]
  · rw [if_neg c] at h
    rw [scB_nil] at h
    cases h
theorem specScale_l0 (w : List UInt8) (hw : w.length ≤ 1048576) : ∀ (d i k : Nat), i + d = w.length → 1048600 + d < k → spec_l03Read.l0 k (bA w) ((w.take i).map nm) (i : Int) = some (rdSc w)
  | 0, i, k, hi, hk => by
    obtain ⟨k, rfl⟩ := dsucc (n := 0) (k := k) (by omega)
    rw [spec_l03Read.l0, bA_size, if_neg (by omega), List.take_of_length_le (by omega), specSc _ (by rw [List.length_map]; exact hw) k (by omega), Option.bind_some, rdSc]
    cases scB (w.map nm) <;> rfl
  | d + 1, i, k, hi, hk => by
    obtain ⟨k, rfl⟩ := dsucc (n := 0) (k := k) (by omega)
    have hlt : i < w.length := by omega
    rw [spec_l03Read.l0, bA_size, if_pos (by omega), if_pos (by omega), bt_bA hlt, specNamed w[i] k (by omega), Option.bind_some, if_pos (by rw [List.length_map, List.length_take]; omega), dw64 (by omega) (by omega), show ((i : Int) + 1) = ((i + 1 : Nat) : Int) by omega]
    have ih := specScale_l0 w hw d (i + 1) k (by omega) (by omega)
    rw [List.take_succ_eq_append_getElem hlt, List.map_append] at ih
    exact ih
theorem specScale (w : List UInt8) (hw : w.length ≤ 1048576) (k : Nat) (hk : 2200000 ≤ k) : spec_l03Read.f k (bA w) = some (rdSc w) := by
  have h := specScale_l0 w hw w.length 0 k (by omega) (by omega)
  rw [spec_l03Read.f]
  exact h
theorem one_at {w : List UInt8} {i : Nat} (h : i < w.length) : (bA w).extract i (i + 1) = bA [w[i]] := by
  rw [ext_bA, List.drop_eq_getElem_cons h, show i + 1 - i = 1 by omega]
  rfl
theorem implScale_l0 (w : List UInt8) (hw : w.length ≤ 1048576) : ∀ (d i k : Nat), i + d = w.length → 1048600 + d < k → impl_ReadScale.l0 k (bA w) ((w.take i).map nm) (w.length : Int) (i : Int) = some (rdSc w)
  | 0, i, k, hi, hk => by
    obtain ⟨k, rfl⟩ := dsucc (n := 0) (k := k) (by omega)
    rw [impl_ReadScale.l0, if_neg (by omega), List.take_of_length_le (by omega), implSc _ (by rw [List.length_map]; exact hw) k (by omega), Option.bind_some, rdSc]
    cases scB (w.map nm) <;> rfl
  | d + 1, i, k, hi, hk => by
    obtain ⟨k, rfl⟩ := dsucc (n := 0) (k := k) (by omega)
    have hlt : i < w.length := by omega
    rw [impl_ReadScale.l0, if_pos (by omega), if_pos (by omega), dw64 (by omega) (by omega), show ((i : Int) + 1) = ((i + 1 : Nat) : Int) by omega, if_pos (by omega), bA_size, if_pos (by omega), Int.toNat_natCast, Int.toNat_natCast, one_at hlt, implNamed, Option.bind_some]
    by_cases c : nm w[i] < 0
    · rw [if_pos c]
      dsimp only
      rw [if_neg (by simp), rdSc, if_neg]
      intro h
      have := (scB_all h (nm w[i]) (List.mem_map_of_mem (List.getElem_mem hlt))).1
      omega
    · rw [if_neg c]
      dsimp only
      rw [if_pos rfl, if_pos (by rw [List.length_map, List.length_take]; omega)]
      have ih := implScale_l0 w hw d (i + 1) k (by omega) (by omega)
      rw [List.take_succ_eq_append_getElem hlt, List.map_append] at ih
      exact ih
theorem implScale (w : List UInt8) (hw : w.length ≤ 1048576) (k : Nat) (hk : 2200000 ≤ k) : impl_ReadScale.f k (bA w) = some (rdSc w) := by
  have h := implScale_l0 w hw w.length 0 k (by omega) (by omega)
  rw [impl_ReadScale.f, bA_size]
  exact h
/-- Two tones with their letters. -/
def two' : List UInt8 → Option (Int × Int)
  | [a, b] => if 0 ≤ nm a ∧ 0 ≤ nm b then some (nm a, nm b) else none
  | _ => none
theorem specTwo (w : List UInt8) (k : Nat) (hk : 30 ≤ k) : spec_l05Two.f k (bA w) = some (match two' w with | some p => ([p.1, p.2], true) | none => ([], false)) := by
  have hj : ∀ z : ByteArray, spec_l05Two.j0 k z true = some ([], false) := by
    obtain ⟨k, rfl⟩ := dsucc (n := 0) (k := k) (by omega)
    intro z
    rw [spec_l05Two.j0, if_pos rfl]
  have no : ∀ w : List UInt8, w.length ≠ 2 → spec_l05Two.f k (bA w) = some ([], false) := by
    intro w h
    rw [spec_l05Two.f, bA_size, if_neg (by omega), hj]
  match w with
  | [] => exact no _ (by decide)
  | [a] => exact no _ (by simp)
  | a :: b :: c :: w => exact no _ (by simp)
  | [a, b] =>
    have b0 : bt (bA [a, b]) 0 = (a.toNat : Int) := bt_bA (l := [a, b]) (i := 0) (by simp)
    have b1 : bt (bA [a, b]) 1 = (b.toNat : Int) := bt_bA (l := [a, b]) (i := 1) (by simp)
    have s2 : (((bA [a, b]).size : Nat) : Int) = 2 := by rw [bA_size]; rfl
    rw [spec_l05Two.f, s2, if_pos rfl, if_pos (by decide), b0, specNamed a k (by omega), Option.bind_some, two']
    by_cases ca : nm a < 0
    · rw [if_pos ca, hj, if_neg (by omega)]
    · rw [if_neg ca, if_pos (by decide), b1, specNamed b k (by omega), Option.bind_some]
      by_cases cb : nm b < 0
      · rw [decide_eq_true cb, hj, if_neg (by omega)]
      · obtain ⟨k, rfl⟩ := dsucc (n := 0) (k := k) (by omega)
        rw [decide_eq_false cb, spec_l05Two.j0, s2, if_neg (by simp), if_pos (by decide), b0, specNamed a k (by omega), Option.bind_some, if_pos (by decide), b1, specNamed b k (by omega), Option.bind_some, if_pos ⟨by omega, by omega⟩]
/-- The pairs with texts. -/
def rdTs : List (List UInt8) → Option (List (Int × Int))
  | [] => some []
  | w :: ws => match two' w with
    | some p => (match rdTs ws with | some r => some (p :: r) | none => none)
    | none => none
abbrev pl (ps : List (Int × Int)) : List (List Int) := ps.map fun q => [q.1, q.2]
theorem specLoop (n : ByteArray) (u dn : List Int) (st wk : Int) (hu : u.length ≤ 1048576) (hd : dn.length ≤ 1048576) (ws : List (List UInt8)) (hn : ws.length ≤ 1048577) : ∀ (d i k : Nat) (out : List (List Int)), i + d = ws.length → out.length + 4 ≤ i → 1048700 + d ≤ k →
    spec_l05Read.l0 k (ws.map bA) (i : Int) n u dn st wk out = some (match rdTs (ws.drop i) with | some r => (if okR n u dn st wk (out ++ pl r) = true then (n, u, dn, st, wk, out ++ pl r, true) else rg0) | none => rg0)
  | 0, i, k, out, hi, ho, hk => by
    obtain ⟨k, rfl⟩ := dsucc (n := 0) (k := k) (by omega)
    rw [spec_l05Read.l0, List.length_map, if_neg (by omega), specOkR n u dn st wk out hu hd (by omega) k (by omega), Option.bind_some, List.drop_eq_nil_of_le (by omega), rdTs]
    dsimp only
    rw [show pl [] = [] from rfl, List.append_nil]
    cases okR n u dn st wk out <;> rfl
  | d + 1, i, k, out, hi, ho, hk => by
    obtain ⟨k, rfl⟩ := dsucc (n := 0) (k := k) (by omega)
    have hlt : i < ws.length := by omega
    rw [spec_l05Read.l0, List.length_map, if_pos (by omega), if_pos (by omega), rdP_at hlt, specTwo ws[i] k (by omega), Option.bind_some, List.drop_eq_getElem_cons hlt, rdTs]
    cases e : two' ws[i] with
    | none => rfl
    | some p =>
      dsimp only
      rw [if_pos rfl, if_pos (by omega), dw64 (by omega) (by omega), show ((i : Int) + 1) = ((i + 1 : Nat) : Int) by omega, specLoop n u dn st wk hu hd ws hn d (i + 1) k (out ++ [[p.1, p.2]]) (by omega) (by rw [List.length_append, List.length_singleton]; omega) (by omega)]
      cases rdTs (ws.drop (i + 1)) with
      | none => rfl
      | some r =>
        dsimp only
        rw [List.append_assoc]
        rfl
/-- What is read as a raga. -/
def rdR (t : List UInt8) : RgR := match spL 32 t with
  | w0 :: w1 :: w2 :: ws => (if (rdSc w1).2 = true ∧ (rdSc w2).2 = true then (match rdTs ws with
    | some (p :: r) => if okR (bA w0) (rdSc w1).1 (rdSc w2).1 p.1 p.2 (pl r) = true then (bA w0, (rdSc w1).1, (rdSc w2).1, p.1, p.2, pl r, true) else rg0
    | _ => rg0) else rg0)
  | _ => rg0
theorem rdSc_len (w : List UInt8) (hw : w.length ≤ 1048576) : (rdSc w).1.length ≤ 1048576 := by
  unfold rdSc
  split
  · simpa using hw
  · simp
theorem r_spec (t : List UInt8) (ht : t.length ≤ 1048576) (k : Nat) (hk : 4000000 ≤ k) : spec_ReadRaga.f k (bA t) = some (rdR t) := by
  have key : spec_l05Read.f k (bA t) = some (rdR t) := by
    have hl := spL_len 32 t
    have hpc : ∀ p ∈ spL 32 t, p.length ≤ 1048576 := fun p hp => Nat.le_trans (sp_piece hp) ht
    rw [spec_l05Read.f, show (32 : Int) = ((32 : UInt8).toNat : Int) from rfl, split_spec t 32 ht k (by omega), Option.bind_some, rdR]
    revert hl hpc
    generalize spL 32 t = q
    intro hl hpc
    match q, hl, hpc with
    | [], _, _ => rfl
    | [_], _, _ => rfl
    | [_, _], _, _ => rfl
    | [w0, w1, w2], _, _ =>
      dsimp only
      rw [if_pos (by simp)]
      cases (rdSc w1).2 <;> cases (rdSc w2).2 <;> rfl
    | w0 :: w1 :: w2 :: w3 :: ws, hl, hpc =>
      have h1 := hpc w1 (by simp)
      have h2 := hpc w2 (by simp)
      have hlen : (((w0 :: w1 :: w2 :: w3 :: ws).map bA).length : Int) = (ws.length : Int) + 4 := by simp; omega
      have hws : ws.length + 4 ≤ 1048577 := by simp only [List.length_cons] at hl; omega
      rw [hlen, if_neg (by omega), if_pos (by omega), show rdOf ByteArray.empty ((w0 :: w1 :: w2 :: w3 :: ws).map bA) 1 = bA w1 from rfl, specScale w1 h1 k (by omega), Option.bind_some]
      rw [if_pos (by omega), show rdOf ByteArray.empty ((w0 :: w1 :: w2 :: w3 :: ws).map bA) 2 = bA w2 from rfl, specScale w2 h2 k (by omega), Option.bind_some]
      rw [if_pos (by omega), show rdOf ByteArray.empty ((w0 :: w1 :: w2 :: w3 :: ws).map bA) 3 = bA w3 from rfl, specTwo w3 k (by omega), Option.bind_some]
      obtain ⟨k, rfl⟩ := dsucc (n := 0) (k := k) (by omega)
      have hj : ∀ u dn x, spec_l05Read.j0 (k + 1) ((w0 :: w1 :: w2 :: w3 :: ws).map bA) u dn x true = some rg0 := by
        intro u dn x
        rw [spec_l05Read.j0, if_pos rfl]
        rfl
      have hu := rdSc_len w1 h1
      have hd := rdSc_len w2 h2
      dsimp only
      cases c1 : (rdSc w1).2
      · rw [if_neg (by simp), hj, if_neg (by simp)]
      · cases c2 : (rdSc w2).2
        · rw [if_pos rfl, if_neg (by simp), hj, if_neg (by simp)]
        · rw [if_pos rfl, if_pos rfl, if_pos ⟨rfl, rfl⟩, rdTs]
          cases e : two' w3 with
          | none =>
            dsimp only
            rw [Bool.not_false, hj]
          | some p =>
            dsimp only
            have go := specLoop (bA w0) (rdSc w1).1 (rdSc w2).1 p.1 p.2 hu hd (w0 :: w1 :: w2 :: w3 :: ws) (by simp; omega) ws.length 4 k [] (by simp; omega) (by simp) (by omega)
            rw [Bool.not_true, spec_l05Read.j0, if_neg (by simp), hlen, if_pos (by omega), if_pos (by simp), if_pos (by simp)]
            refine Eq.trans go ?_
            rw [show (w0 :: w1 :: w2 :: w3 :: ws).drop 4 = ws from rfl]
            cases rdTs ws with
            | none => rfl
            | some r => rfl
  rw [spec_ReadRaga.f, key, Option.bind_some]
/-! ### The program -/
def tz (c : UInt8) : Int := if nm c < 0 then 0 else nm c
def imp1 : List UInt8 → Option (Int × Int)
  | [a, b] => some (tz a, tz b)
  | _ => none
def impPs : List (List UInt8) → Option (List (Int × Int))
  | [] => some []
  | w :: ws => match imp1 w with
    | some p => (match impPs ws with | some r => some (p :: r) | none => none)
    | none => none
theorem tz_named (c : UInt8) : ∃ b, impl_ToneNamed.f (bA [c]) = some (tz c, b) := by
  rw [implNamed, tz]
  split
  · exact ⟨false, rfl⟩
  · exact ⟨true, rfl⟩
theorem imp1_no {w : List UInt8} (h : w.length ≠ 2) : imp1 w = none := by
  match w, h with
  | [], _ => rfl
  | [_], _ => rfl
  | [_, _], h => exact absurd rfl h
  | _ :: _ :: _ :: _, _ => rfl
theorem implLoop (s : ByteArray) (u dn : List Int) (ws : List (List UInt8)) (hn : ws.length ≤ 1048577) (EV : List (Int × Int) → Option RgR) (K : Nat) (hE : ∀ k, K ≤ k → ∀ ps, ps.length ≤ 1048577 → impl_ReadRaga.e k s (ws.map bA) u dn ps = EV ps) : ∀ (d j k : Nat) (ps : List (Int × Int)), 3 + j + d = ws.length → ps.length ≤ j → K + d < k →
    impl_ReadRaga.l k s (ws.map bA) u dn ps (j : Int) = (match impPs (ws.drop (3 + j)) with | some r => EV (ps ++ r) | none => some rg0)
  | 0, j, k, ps, hi, ho, hk => by
    obtain ⟨k, rfl⟩ := dsucc (n := 0) (k := k) (by omega)
    rw [impl_ReadRaga.l, List.length_map, if_neg (by omega), hE k (by omega) ps (by omega), List.drop_eq_nil_of_le (by omega), impPs]
    dsimp only
    rw [List.append_nil]
  | d + 1, j, k, ps, hi, ho, hk => by
    obtain ⟨k, rfl⟩ := dsucc (n := 0) (k := k) (by omega)
    have hlt : 3 + j < ws.length := by omega
    rw [impl_ReadRaga.l, List.length_map, if_pos (by omega), if_pos ⟨by omega, by omega⟩, show ((3 : Int) + (j : Int)) = ((3 + j : Nat) : Int) by omega, rdP_at hlt, bA_size, List.drop_eq_getElem_cons hlt, impPs]
    generalize ws[3 + j] = w
    by_cases c : w.length = 2
    · match w, c with
      | [a, b], _ =>
        obtain ⟨ba, ea⟩ := tz_named a
        obtain ⟨bb, eb⟩ := tz_named b
        rw [if_pos (show ((([a, b] : List UInt8).length : Nat) : Int) = 2 from rfl), show (bA [a, b]).extract 0 1 = bA [a] from rfl, show (bA [a, b]).extract 1 [a, b].length = bA [b] from rfl, ea, eb, Option.bind_some, Option.bind_some, dw64 (by omega) (by omega), show ((j : Int) + 1) = ((j + 1 : Nat) : Int) by omega, implLoop s u dn ws hn EV K hE d (j + 1) k (ps ++ [(tz a, tz b)]) (by omega) (by rw [List.length_append, List.length_singleton]; omega) (by omega), imp1]
        dsimp only
        rw [show 3 + (j + 1) = 3 + j + 1 by omega]
        cases impPs (ws.drop (3 + j + 1)) with
        | none => rfl
        | some r =>
          dsimp only
          rw [List.append_assoc]
          rfl
    · rw [if_neg (by omega), imp1_no c]
theorem implTN {i : Int} (h0 : 0 ≤ i) (h1 : i ≤ 11) : impl_ToneName.f i = some (bA [la i]) := by
  have h12 : LL.length = 12 := rfl
  have hlt : i.toNat < LL.length := by omega
  rw [impl_ToneName.f, toneIn, show inB i 0 11 = true from inB_true.2 ⟨h0, h1⟩, Option.bind_some, if_pos rfl, if_pos h0, dw64 (by omega) (by omega), if_pos (by omega), if_pos (by omega)]
  have e := one_at hlt
  rw [show (i + 1).toNat = i.toNat + 1 by omega]
  refine congrArg some (Eq.trans e ?_)
  rw [la, List.getD_eq_getElem?_getD, List.getElem?_eq_getElem hlt]
  rfl
theorem implSt_l0 (u : List Int) (hu : ∀ x ∈ u, 0 ≤ x ∧ x ≤ 11) (hn : u.length ≤ 1048576) : ∀ (d i k : Nat), i + d = u.length → d < k → impl_ScaleText.l0 k (bA ((u.take i).map la)) u (u.length : Int) (i : Int) = some (bA (u.map la))
  | 0, i, k, hi, hk => by
    obtain ⟨k, rfl⟩ := dsucc (n := 0) (k := k) (by omega)
    rw [impl_ScaleText.l0, if_neg (by omega), List.take_of_length_le (by omega)]
  | d + 1, i, k, hi, hk => by
    obtain ⟨k, rfl⟩ := dsucc (n := 0) (k := k) (by omega)
    have hlt : i < u.length := by omega
    have hx := hu _ (List.getElem_mem hlt)
    have ih := implSt_l0 u hu hn d (i + 1) k (by omega) (by omega)
    rw [List.take_succ_eq_append_getElem hlt, List.map_append] at ih
    rw [impl_ScaleText.l0, if_pos (by omega), if_pos (by omega), if_pos (by omega), rd_at hlt, implTN hx.1 hx.2, Option.bind_some, bA_size, bA_size, if_pos (by rw [List.length_map, List.length_take, List.length_singleton]; omega), bA_app, dw64 (by omega) (by omega), show ((i : Int) + 1) = ((i + 1 : Nat) : Int) by omega]
    exact ih
theorem implSt (u : List Int) (h : scB u = true) (hn : u.length ≤ 1048576) (k : Nat) (hk : 1048600 ≤ k) : impl_ScaleText.f k u = some (bA (u.map la)) := by
  have e := implSt_l0 u (scB_all h) hn u.length 0 k (by omega) (by omega)
  rw [impl_ScaleText.f, implSc u hn k (by omega), h, Option.bind_some, if_pos rfl]
  exact e
theorem rdR_at {x : List (List Int)} {j : Nat} (h : j < x.length) : rd_L2 x (j : Int) = x[j] := by
  simp [rd_L2, List.getD_eq_getElem?_getD, List.getElem?_eq_getElem h]
/-- The text of the pairs behind the first. -/
def tl2 : List (List Int) → List UInt8
  | [] => []
  | p :: l => 32 :: la (rd p 0) :: la (rd p 1) :: tl2 l
theorem implRt_l0 (fb : List (List Int)) (hf : ∀ p ∈ fb, prB p = true) (hn : fb.length ≤ 1048576) : ∀ (d i k : Nat) (acc : List UInt8), i + d = fb.length → acc.length + 3 * d ≤ 4611686018427387904 → d < k → impl_RagaText.l0 k (bA acc) fb (fb.length : Int) (i : Int) = some (bA (acc ++ tl2 (fb.drop i)))
  | 0, i, k, acc, hi, ha, hk => by
    obtain ⟨k, rfl⟩ := dsucc (n := 0) (k := k) (by omega)
    rw [impl_RagaText.l0, if_neg (by omega), List.drop_eq_nil_of_le (by omega), tl2, List.append_nil]
  | d + 1, i, k, acc, hi, ha, hk => by
    obtain ⟨k, rfl⟩ := dsucc (n := 0) (k := k) (by omega)
    have hlt : i < fb.length := by omega
    have hp := hf _ (List.getElem_mem hlt)
    rw [impl_RagaText.l0, if_pos (by omega), if_pos (by omega), if_pos (by omega), rdR_at hlt, List.drop_eq_getElem_cons hlt, tl2]
    have ih := fun acc => implRt_l0 fb hf hn d (i + 1) k acc (by omega)
    generalize fb[i] = p at hp ⊢
    have h2 := prB_len hp
    simp only [prB, Bool.and_eq_true, inB_true] at hp
    obtain ⟨⟨⟨_, h3⟩, h4⟩, _⟩ := hp
    rw [if_pos (by omega), implTN h3.1 h3.2, Option.bind_some, bA_size, if_pos (by simp), if_pos (by omega), implTN h4.1 h4.2, Option.bind_some, show (⟨#[32]⟩ : ByteArray) = bA [32] from rfl, bA_app, bA_size, bA_size, if_pos (by simp), bA_app, bA_size, bA_size, if_pos (by simp; omega), bA_app, dw64 (by omega) (by omega), show ((i : Int) + 1) = ((i + 1 : Nat) : Int) by omega, ih _ (by simp; omega) (by omega)]
    simp
def rtx (n : List UInt8) (u d : List Int) (st wk : Int) (fb : List (List Int)) : List UInt8 := n ++ 32 :: (u.map la ++ 32 :: (d.map la ++ 32 :: la st :: la wk :: tl2 fb))
theorem hasL_mem {f : List Int} {s : Int} (h : hasL f s = true) : s ∈ f := by
  rw [hasL, List.any_eq_true] at h
  obtain ⟨x, hx, e⟩ := h
  rwa [← beq_iff_eq.1 e]
/-- What a valid raga is. -/
structure RgOk (n : List UInt8) (u d : List Int) (st wk : Int) (fb : List (List Int)) : Prop where
  nm : nameB (bA n) = true
  up : scB u = true
  dn : scB d = true
  s1 : 0 ≤ st ∧ st ≤ 11
  w1 : 0 ≤ wk ∧ wk ≤ 11
  pr : ∀ p ∈ fb, prB p = true
  len : fb.length ≤ 8
theorem okR_ok {n : List UInt8} {u d : List Int} {st wk : Int} {fb : List (List Int)} (h : okR (bA n) u d st wk fb = true) : RgOk n u d st wk fb := by
  have h2 := okR_pairs h
  simp only [okR, Bool.and_eq_true] at h
  obtain ⟨⟨⟨⟨⟨⟨a1, a2⟩, a3⟩, a4⟩, a5⟩, _⟩, _⟩ := h
  have tn : ∀ x, toneL u d x = true → 0 ≤ x ∧ x ≤ 11 := by
    intro x hx
    rw [toneL, Bool.or_eq_true] at hx
    rcases hx with hx | hx
    · exact scB_all a2 x (hasL_mem hx)
    · exact scB_all a3 x (hasL_mem hx)
  exact ⟨a1, a2, a3, tn _ a4, tn _ a5, h2.2, h2.1⟩
theorem r_text (n : List UInt8) (u d : List Int) (st wk : Int) (fb : List (List Int)) (hn : n.length ≤ 1048576) (hu : u.length ≤ 1048576) (hd : d.length ≤ 1048576) (hf : fb.length ≤ 1048576) (k : Nat) (hk : 2200000 ≤ k) : impl_RagaText.f k (bA n) u d st wk fb = some (bA (if okR (bA n) u d st wk fb = true then rtx n u d st wk fb else [])) := by
  rw [impl_RagaText.f, implOkR (bA n) u d st wk fb hu hd hf k (by omega), Option.bind_some]
  cases ho : okR (bA n) u d st wk fb
  · rfl
  · have hm := okR_ok ho
    rw [if_pos rfl, if_pos rfl, bA_size, if_pos (by omega), implSt u hm.up hu k (by omega), Option.bind_some, show (⟨#[32]⟩ : ByteArray) = bA [32] from rfl, bA_app, bA_size, bA_size, if_pos (by simp; omega), bA_app, bA_size, if_pos (by simp; omega), implSt d hm.dn hd k (by omega), Option.bind_some, bA_app, bA_size, bA_size, if_pos (by simp; omega), bA_app, bA_size, if_pos (by simp; omega), implTN hm.s1.1 hm.s1.2, Option.bind_some, bA_app, bA_size, bA_size, if_pos (by simp; omega), bA_app, implTN hm.w1.1 hm.w1.2, Option.bind_some, bA_size, bA_size, if_pos (by simp; omega), bA_app]
    refine Eq.trans (implRt_l0 fb hm.pr hf fb.length 0 k _ (by omega) (by simp; omega) (by omega)) ?_
    rw [List.drop_zero, rtx]
    congr 2
    simp
def pt (q : Int × Int) : List UInt8 := [la q.1, la q.2]
theorem join_pt (st wk : Int) : ∀ qs : List (Int × Int), Lib.join ([la st, la wk] :: qs.map pt) [32] = la st :: la wk :: tl2 (pl qs)
  | [] => by rw [List.map_nil, Lib.join_one]; rfl
  | q :: qs => by
    rw [List.map_cons, join_cons2, pt, join_pt q.1 q.2 qs]
    rfl
theorem rtx_join (n : List UInt8) (u d : List Int) (p : Int × Int) (qs : List (Int × Int)) : rtx n u d p.1 p.2 (pl qs) = Lib.join (n :: u.map la :: d.map la :: (p :: qs).map pt) [32] := by
  rw [join_cons2, join_cons2, List.map_cons, join_cons2, pt, join_pt, rtx]
  rfl
theorem chk_all (s : ByteArray) (d : Nat) : ∀ i, chk s d i = true → ∀ j, i ≤ j → j < i + d → chB (bt s (j : Int)) = true := by
  induction d with
  | zero => intro i _ j h1 h2; omega
  | succ d ih =>
    intro i h j h1 h2
    rw [chk, Bool.and_eq_true] at h
    by_cases e : j = i
    · subst e; exact h.1
    · exact ih (i + 1) h.2 j (by omega) (by omega)
theorem name_32 {n : List UInt8} (h : nameB (bA n) = true) : (32 : UInt8) ∉ n := by
  intro hm
  obtain ⟨j, hj, e⟩ := List.getElem_of_mem hm
  rw [nameB, Bool.and_eq_true] at h
  have := chk_all (bA n) _ 0 h.2 j (by omega) (by rw [bA_size]; omega)
  rw [bt_bA hj, e] at this
  revert this
  decide
theorem map_32 {u : List Int} (h : ∀ x ∈ u, 0 ≤ x ∧ x ≤ 11) : (32 : UInt8) ∉ u.map la := by
  intro hm
  obtain ⟨x, hx, e⟩ := List.mem_map.1 hm
  exact la_32 (h x hx).1 (h x hx).2 e
theorem map_la {w : List UInt8} (h : ∀ x ∈ w.map nm, 0 ≤ x ∧ x ≤ 11) : (w.map nm).map la = w := by
  rw [List.map_map]
  conv => rhs; rw [← List.map_id w]
  apply List.map_congr_left
  intro c hc
  have hr := h (nm c) (List.mem_map_of_mem hc)
  rcases la_nm c with e | ⟨_, _, e⟩
  · omega
  · exact e
/-- Pairs of tones. -/
def inP (q : Int × Int) : Prop := (0 ≤ q.1 ∧ q.1 ≤ 11) ∧ 0 ≤ q.2 ∧ q.2 ≤ 11
theorem two_pt {q : Int × Int} (h : inP q) : two' (pt q) = some q := by
  rw [pt, two', nm_la h.1.1 h.1.2, nm_la h.2.1 h.2.2, if_pos ⟨h.1.1, h.2.1⟩]
theorem rdTs_pt : ∀ qs : List (Int × Int), (∀ q ∈ qs, inP q) → rdTs (qs.map pt) = some qs
  | [], _ => rfl
  | q :: qs, h => by rw [List.map_cons, rdTs, two_pt (h q (List.mem_cons_self ..)), rdTs_pt qs (fun x hx => h x (List.mem_cons_of_mem _ hx))]
theorem two_some {w : List UInt8} {q : Int × Int} (h : two' w = some q) : w = pt q ∧ imp1 w = some q := by
  match w, h with
  | [a, b], h =>
    rw [two'] at h
    by_cases c : 0 ≤ nm a ∧ 0 ≤ nm b
    · rw [if_pos c] at h
      obtain rfl := Option.some.inj h
      rcases la_nm a with e | ⟨_, _, ea⟩
      · omega
      rcases la_nm b with e | ⟨_, _, eb⟩
      · omega
      refine ⟨by rw [pt, ea, eb], ?_⟩
      rw [imp1, tz, tz, if_neg (by omega), if_neg (by omega)]
    · rw [if_neg c] at h
      cases h
theorem rdTs_some : ∀ {ws : List (List UInt8)} {qs : List (Int × Int)}, rdTs ws = some qs → ws = qs.map pt ∧ impPs ws = some qs
  | [], qs, h => by
    obtain rfl := Option.some.inj h
    exact ⟨rfl, rfl⟩
  | w :: ws, qs, h => by
    rw [rdTs] at h
    cases e : two' w with
    | none => rw [e] at h; cases h
    | some q =>
      cases e2 : rdTs ws with
      | none => rw [e, e2] at h; cases h
      | some r =>
        rw [e, e2] at h
        obtain rfl := Option.some.inj h
        obtain ⟨i1, i2⟩ := rdTs_some e2
        obtain ⟨j1, j2⟩ := two_some e
        exact ⟨by rw [List.map_cons, ← i1, ← j1], by rw [impPs, j2, i2]⟩
theorem r_impl (t : List UInt8) (ht : t.length ≤ 1048576) (k : Nat) (hk : 6000000 ≤ k) : impl_ReadRaga.f k (bA t) = some (rdR t) := by
  have hl := spL_len 32 t
  have hpc : ∀ p ∈ spL 32 t, p.length ≤ 1048576 := fun p hp => Nat.le_trans (sp_piece hp) ht
  have hjo := join_sp 32 t
  have hsp : ∀ ps : List (List UInt8), ps ≠ [] → (∀ p ∈ ps, (32 : UInt8) ∉ p) → Lib.join ps [32] = t → ps = spL 32 t := fun ps h1 h2 h3 => by rw [← h3, sp_join 32 ps h1 h2]
  rw [impl_ReadRaga.f, show (⟨#[32]⟩ : ByteArray) = bA [32] from rfl, splitAll t 32 ht, Option.bind_some, rdR]
  revert hl hpc hjo hsp
  generalize spL 32 t = q
  intro hl hpc hjo hsp
  match q, hl, hpc, hjo, hsp with
  | [], _, _, _, _ => rfl
  | [_], _, _, _, _ => rfl
  | [_, _], _, _, _, _ => rfl
  | [w0, w1, w2], _, _, _, _ =>
    rw [if_pos (by simp)]
    dsimp only
    cases (rdSc w1).2 <;> cases (rdSc w2).2 <;> rfl
  | w0 :: w1 :: w2 :: w3 :: ws, hl, hpc, hjo, hsp =>
    have h0 := hpc w0 (by simp)
    have h1 := hpc w1 (by simp)
    have h2 := hpc w2 (by simp)
    have hlen : (((w0 :: w1 :: w2 :: w3 :: ws).map bA).length : Int) = (ws.length : Int) + 4 := by simp; omega
    have hws : ws.length + 4 ≤ 1048577 := by simp only [List.length_cons] at hl; omega
    have hu := rdSc_len w1 h1
    have hd := rdSc_len w2 h2
    have hne : t ≠ [] := by
      intro e
      rw [join_cons2, e] at hjo
      simp at hjo
    rw [hlen, if_neg (by omega), show rdOf ByteArray.empty ((w0 :: w1 :: w2 :: w3 :: ws).map bA) 1 = bA w1 from rfl, show rdOf ByteArray.empty ((w0 :: w1 :: w2 :: w3 :: ws).map bA) 2 = bA w2 from rfl, implScale w1 h1 k (by omega), Option.bind_some, implScale w2 h2 k (by omega), Option.bind_some]
    have hrd := rdSc_of w1
    have hrd2 := rdSc_of w2
    generalize hgu : (rdSc w1).1 = u at hu hrd
    generalize hgd : (rdSc w2).1 = dn at hd hrd2
    have hE : ∀ k, 2200000 ≤ k → ∀ ps : List (Int × Int), ps.length ≤ 1048577 → impl_ReadRaga.e k (bA t) ((w0 :: w1 :: w2 :: w3 :: ws).map bA) u dn ps = (match ps with | [] => none | p :: qs => some (if (if okR (bA w0) u dn p.1 p.2 (pl qs) = true then rtx w0 u dn p.1 p.2 (pl qs) else []) = t then (bA w0, u, dn, p.1, p.2, pl qs, true) else rg0)) := by
      intro k hk ps hps
      cases ps with
      | nil => rfl
      | cons p qs =>
        have hq : qs.length ≤ 1048576 := by rw [List.length_cons] at hps; omega
        rw [impl_ReadRaga.e, if_pos (by omega), show rdOf ByteArray.empty ((w0 :: w1 :: w2 :: w3 :: ws).map bA) 0 = bA w0 from rfl, r_text w0 u dn p.1 p.2 (pl qs) h0 hu hd (by simpa using hq) k hk, Option.bind_some, bA_tl, bA_tl]
        dsimp only
        generalize (if okR (bA w0) u dn p.1 p.2 (pl qs) = true then rtx w0 u dn p.1 p.2 (pl qs) else []) = z
        by_cases hz : z = t
        · rw [if_pos hz, if_pos hz]
        · rw [if_neg hz, if_neg hz]
    have go := implLoop (bA t) u dn (w0 :: w1 :: w2 :: w3 :: ws) (by simp; omega) _ 2200000 hE (ws.length + 1) 0 k [] (by simp; omega) (by simp) (by omega)
    refine Eq.trans go ?_
    rw [show (w0 :: w1 :: w2 :: w3 :: ws).drop (3 + 0) = w3 :: ws from rfl]
    cases hI : impPs (w3 :: ws) with
    | none =>
      have hT : rdTs (w3 :: ws) = none := by
        cases e : rdTs (w3 :: ws) with
        | none => rfl
        | some r => rw [(rdTs_some e).2] at hI; cases hI
      dsimp only
      rw [hT]
      cases (rdSc w1).2 <;> cases (rdSc w2).2 <;> rfl
    | some r =>
      have hr : ∃ p qs, r = p :: qs := by
        cases r with
        | cons p qs => exact ⟨p, qs, rfl⟩
        | nil =>
          rw [impPs] at hI
          cases e : imp1 w3 with
          | none => rw [e] at hI; cases hI
          | some q =>
            cases e2 : impPs ws with
            | none => rw [e, e2] at hI; cases hI
            | some r => rw [e, e2] at hI; cases hI
      obtain ⟨p, qs, rfl⟩ := hr
      dsimp only
      rw [List.nil_append]
      dsimp only
      have hTs : ∀ r, rdTs (w3 :: ws) = some r → r = p :: qs := fun r e => by
        have := (rdTs_some e).2
        rw [hI] at this
        exact (Option.some.inj this).symm
      cases hok : okR (bA w0) u dn p.1 p.2 (pl qs)
      · rw [if_neg (show ¬ (false = true) by simp), if_neg (fun e => hne e.symm)]
        congr 1
        split
        · cases e : rdTs (w3 :: ws) with
          | none => rfl
          | some r =>
            rw [hTs r e]
            dsimp only
            rw [hgu, hgd, hok]
            rfl
        · rfl
      · have hm := okR_ok hok
        have f1 := hrd hm.up
        have f2 := hrd2 hm.dn
        have g1 : u = w1.map nm := by rw [← hgu, f1]
        have g2 : dn = w2.map nm := by rw [← hgd, f2]
        rw [if_pos rfl, f1, f2, if_pos (show ((w1.map nm, true) : List Int × Bool).2 = true ∧ ((w2.map nm, true) : List Int × Bool).2 = true from ⟨rfl, rfl⟩), rtx_join]
        by_cases hT : Lib.join (w0 :: u.map la :: dn.map la :: (p :: qs).map pt) [32] = t
        · rw [if_pos hT]
          have hw := hsp _ (by simp) (by
            intro x hx
            have hin : ∀ z ∈ (p :: qs).map pt, (32 : UInt8) ∉ z := by
              intro z hz
              obtain ⟨y, hy, rfl⟩ := List.mem_map.1 hz
              have hy2 : inP y := by
                rcases List.mem_cons.1 hy with rfl | hy
                · exact ⟨hm.s1, hm.w1⟩
                · have := hm.pr _ (List.mem_map_of_mem (f := fun q : Int × Int => [q.1, q.2]) hy)
                  simp only [prB, Bool.and_eq_true, inB_true] at this
                  exact ⟨this.1.1.2, this.1.2⟩
              intro h32
              simp only [pt, List.mem_cons, List.not_mem_nil, or_false] at h32
              rcases h32 with h32 | h32
              · exact la_32 hy2.1.1 hy2.1.2 h32.symm
              · exact la_32 hy2.2.1 hy2.2.2 h32.symm
            rcases List.mem_cons.1 hx with rfl | hx
            · exact name_32 hm.nm
            rcases List.mem_cons.1 hx with rfl | hx
            · exact map_32 (scB_all hm.up)
            rcases List.mem_cons.1 hx with rfl | hx
            · exact map_32 (scB_all hm.dn)
            exact hin x hx) hT
          injection hw with _ hw
          injection hw with _ hw
          injection hw with _ hw
          have hR : rdTs (w3 :: ws) = some (p :: qs) := by
            rw [← hw]
            apply rdTs_pt
            intro y hy
            rcases List.mem_cons.1 hy with rfl | hy
            · exact ⟨hm.s1, hm.w1⟩
            · have := hm.pr _ (List.mem_map_of_mem (f := fun q : Int × Int => [q.1, q.2]) hy)
              simp only [prB, Bool.and_eq_true, inB_true] at this
              exact ⟨this.1.1.2, this.1.2⟩
          rw [hR]
          dsimp only
          rw [← g1, ← g2, hok, if_pos rfl]
        · rw [if_neg hT]
          cases e : rdTs (w3 :: ws) with
          | none => rfl
          | some r =>
            exfalso
            obtain rfl := hTs r e
            have hwd := (rdTs_some e).1
            apply hT
            rw [← hwd, g1, g2, map_la (by rw [← g1]; exact scB_all hm.up), map_la (by rw [← g2]; exact scB_all hm.dn)]
            exact hjo
theorem eqR (l : List (List Int)) (hn : l.length ≤ 1048576) (hv : ∀ x ∈ l, x.length ≤ 1048576) (k : Nat) (hk : 2100000 ≤ k) : laws_eqInt64SS.f k l l = some true := by
  have h : ∀ (d k i : Nat), i + d = l.length → d + 1048578 ≤ k → laws_eqInt64SS.l0 k l l (i : Int) = some true := by
    intro d
    induction d with
    | zero =>
      intro k i hi hk
      obtain ⟨k, rfl⟩ := succ_of (show 0 < k by omega)
      rw [laws_eqInt64SS.l0, if_neg (by omega)]
    | succ d ih =>
      intro k i hi hk
      obtain ⟨k, rfl⟩ := succ_of (show 0 < k by omega)
      have hlt : i < l.length := by omega
      have hm := hv l[i] (List.getElem_mem hlt)
      rw [laws_eqInt64SS.l0, if_pos (by omega), if_pos (by omega), if_pos (by omega), rdR_at hlt, eqI l[i] (by omega) k (by omega), Option.bind_some, if_pos rfl, w64 (by omega) (by omega)]
      exact ih k (i + 1) (by omega) (by omega)
  rw [laws_eqInt64SS.f, if_pos rfl]
  exact h l.length k 0 (by omega) (by omega)
theorem eqRg (nm : ByteArray) (u d : List Int) (st wk : Int) (fb : List (List Int)) (h1 : u.length ≤ 1048576) (h2 : d.length ≤ 1048576) (h3 : fb.length ≤ 1048576) (hv : ∀ x ∈ fb, x.length ≤ 1048576) (k : Nat) (hk : 2100000 ≤ k) : laws_eqRaga.f k nm u d st wk fb nm u d st wk fb = some true := by
  rw [laws_eqRaga.f, if_pos rfl, eqI u (by omega) k (by omega), eqI d (by omega) k (by omega), eqR fb h3 hv k hk]
  simp
theorem markI3 (x : List Int) (a : Int) (hn : x.length ≤ 1048576) (h0 : 0 ≤ a) (h1 : a ≤ 100000000) (k : Nat) (hk : x.length < k) : laws_markInt64S.f k x a = some (a + (x.length : Int), mks a x.length) := by
  rw [laws_markInt64S.f]
  have := markI_l0 x.length x a k 0 (by omega) h0 (by omega) (by omega) hk
  simpa using this
theorem heldI3 (n : Nat) (a : Int) (hn : n ≤ 1048576) (h0 : 0 ≤ a) (h1 : a ≤ 100000000) (k : Nat) (hk : n < k) : laws_heldInt64S.f k (mks a n) a = some (a + (n : Int)) := by
  rw [laws_heldInt64S.f]
  exact heldI_l0 n (mks a n) [] a k 0 rfl rfl (by omega) h0 (by omega) hk
/-- The marks of rows of rows. -/
def mksL : Int → List (List Int) → List (List Int)
  | _, [] => []
  | a, x :: l => mks a x.length :: mksL (a + x.length) l
def tot : List (List Int) → Nat
  | [] => 0
  | x :: l => x.length + tot l
theorem mkL_eq (k : Nat) : ∀ (l : List (List Int)) (a : Int), (∀ x ∈ l, x.length ≤ 64) → 1 ≤ a → a + tot l ≤ 100000000 → 100 ≤ k → mkL k l a = some (a + tot l, mksL a l)
  | [], a, _, _, _, _ => by simp [mkL, mksL, tot]
  | x :: l, a, h, h1, h2, hk => by
    have hx := h x (List.mem_cons_self ..)
    rw [tot] at h2
    have e := markI_l0 x.length x a k 0 (by omega) (by omega) (by omega) (by omega) (by omega)
    rw [mkL, laws_markInt64S.f, show (0 : Int) = ((0 : Nat) : Int) from rfl, e, Option.bind_some]
    dsimp only
    rw [mkL_eq k l (a + x.length) (fun y hy => h y (List.mem_cons_of_mem _ hy)) (by omega) (by omega) hk, Option.bind_some, List.take_zero, List.nil_append, mksL, tot]
    dsimp only
    congr 2
    omega
theorem mksL_len : ∀ (a : Int) (l : List (List Int)), (mksL a l).length = l.length
  | _, [] => rfl
  | a, x :: l => by rw [mksL, List.length_cons, List.length_cons, mksL_len]
theorem held_l0 (l : List (List Int)) (hx : ∀ x ∈ l, x.length ≤ 64) (Y : List (List Int)) (hY : Y.length ≤ 1000) : ∀ (d i k : Nat) (a : Int) (r : List (List Int)), Y.drop i = mksL a r → r.length = d → i + d = Y.length → (∀ x ∈ r, x.length ≤ 64) → 1 ≤ a → a + tot r ≤ 100000000 → 100 + d ≤ k →
    laws_heldInt64SS.l0 k Y a (i : Int) = some (a + tot r)
  | 0, i, k, a, r, h1, h2, h3, h4, h5, h6, hk => by
    obtain ⟨k, rfl⟩ := dsucc (n := 0) (k := k) (by omega)
    rw [laws_heldInt64SS.l0, if_neg (by omega), List.eq_nil_of_length_eq_zero h2]
    simp [tot]
  | d + 1, i, k, a, r, h1, h2, h3, h4, h5, h6, hk => by
    obtain ⟨k, rfl⟩ := dsucc (n := 0) (k := k) (by omega)
    have hlt : i < Y.length := by omega
    cases r with
    | nil => simp at h2
    | cons x r =>
      have hxl := h4 x (List.mem_cons_self ..)
      rw [tot] at h6
      rw [mksL, List.drop_eq_getElem_cons hlt] at h1
      injection h1 with g1 g2
      have e := heldI_l0 x.length (mks a x.length) [] a k 0 rfl rfl (by omega) (by omega) (by omega) (by omega)
      rw [laws_heldInt64SS.l0, if_pos (by omega), if_pos (by omega), rdR_at hlt, g1, laws_heldInt64S.f, show (0 : Int) = ((0 : Nat) : Int) from rfl, e, Option.bind_some, if_neg (by omega), dw64 (by omega) (by omega), show ((i : Int) + 1) = ((i + 1 : Nat) : Int) by omega]
      have go := held_l0 l hx Y hY d (i + 1) k (a + x.length) r g2 (by simpa using h2) (by omega) (fun y hy => h4 y (List.mem_cons_of_mem _ hy)) (by omega) (by omega) (by omega)
      refine go.trans ?_
      rw [tot]
      congr 1
      omega
theorem tot_le : ∀ (l : List (List Int)), (∀ x ∈ l, x.length ≤ 64) → tot l ≤ 64 * l.length
  | [], _ => by simp [tot]
  | x :: l, h => by
    have := h x (List.mem_cons_self ..)
    have := tot_le l (fun y hy => h y (List.mem_cons_of_mem _ hy))
    rw [tot, List.length_cons]
    omega
theorem rdR_small (t : List UInt8) (ht : t.length ≤ 1048576) : (rdR t).2.1.length ≤ 1048576 ∧ (rdR t).2.2.1.length ≤ 1048576 ∧ (rdR t).2.2.2.2.2.1.length ≤ 12 ∧ ∀ x ∈ (rdR t).2.2.2.2.2.1, x.length ≤ 64 := by
  have hz : (rg0.2.1.length ≤ 1048576 ∧ rg0.2.2.1.length ≤ 1048576 ∧ rg0.2.2.2.2.2.1.length ≤ 12 ∧ ∀ x ∈ rg0.2.2.2.2.2.1, x.length ≤ 64) := by simp [rg0]
  have hpc : ∀ p ∈ spL 32 t, p.length ≤ 1048576 := fun p hp => Nat.le_trans (sp_piece hp) ht
  unfold rdR
  revert hpc
  generalize spL 32 t = q
  intro hpc
  match q, hpc with
  | [], _ => exact hz
  | [_], _ => exact hz
  | [_, _], _ => exact hz
  | w0 :: w1 :: w2 :: ws, hpc =>
    dsimp only
    split
    · split
      · split
        · rename_i hok
          have hm := okR_ok hok
          refine ⟨rdSc_len w1 (hpc w1 (by simp)), rdSc_len w2 (hpc w2 (by simp)), Nat.le_trans hm.len (by decide), fun x hx => ?_⟩
          have := prB_len (hm.pr x hx)
          omega
        · exact hz
      · exact hz
    · exact hz
theorem FnExactReadRaga : laws_FnExactReadRaga.Pure := by
  intro s _
  obtain ⟨k, hk⟩ : ∃ k, k = 6000000 := ⟨_, rfl⟩
  refine ⟨k, ?_⟩
  rw [laws_FnExactReadRaga.f]
  by_cases h : (s.size : Int) > 1048576
  · rw [if_pos h]
  · have hs : s = bA s.data.toList := (bA_data s).symm
    have hl : s.data.toList.length ≤ 1048576 := by
      have : s.size = s.data.toList.length := Lib.size_eq s
      omega
    have S := r_spec _ hl k (by omega)
    have I := r_impl _ hl k (by omega)
    have sm := rdR_small _ hl
    rw [if_neg h, hs]
    generalize s.data.toList = t at *
    revert S I sm
    generalize rdR t = x
    obtain ⟨n, u, d, st, wk, fb, q⟩ := x
    rintro S I ⟨h1, h2, h3, hx⟩
    dsimp only at h1 h2 h3 hx
    have ht := tot_le fb hx
    have E := eqRg n u d st wk fb h1 h2 (by omega) (fun x h => by have := hx x h; omega) k (by omega)
    have M1 := markI3 u 1 h1 (by omega) (by omega) k (by omega)
    have M2 := markI3 d (1 + (u.length : Int)) h2 (by omega) (by omega) k (by omega)
    have M5 := mkL_eq k fb (1 + (u.length : Int) + (d.length : Int)) hx (by omega) (by omega) (by omega)
    have H1 := heldI3 u.length 1 h1 (by omega) (by omega) k (by omega)
    have H2 := heldI3 d.length (1 + (u.length : Int)) h2 (by omega) (by omega) k (by omega)
    have H5 : laws_heldInt64SS.f k (mksL (1 + (u.length : Int) + (d.length : Int)) fb) (1 + (u.length : Int) + (d.length : Int)) = some (1 + (u.length : Int) + (d.length : Int) + (tot fb : Int)) :=
      held_l0 fb hx (mksL (1 + (u.length : Int) + (d.length : Int)) fb) (by rw [mksL_len]; omega) fb.length 0 k _ fb (by rw [List.drop_zero]) rfl (by rw [mksL_len]; omega) hx (by omega) (by omega) (by omega)
    rw [S, Option.bind_some, I, Option.bind_some]
    dsimp only
    rw [E, Option.bind_some, M1, Option.bind_some]
    dsimp only
    rw [M2, Option.bind_some]
    dsimp only
    rw [M5, Option.bind_some]
    dsimp only
    rw [laws_heldRaga.f, H1, Option.bind_some, if_neg (by omega), H2, Option.bind_some, if_neg (by omega), H5, Option.bind_some, if_neg (by omega), Option.bind_some, if_pos ⟨rfl, rfl, by omega, rfl, by omega⟩]
end Go.Proofs.YtbebcnnibjkclaaDoor.Pure
