/- A text divided at a byte: all its pieces, or the first ones and what is left. No condition. -/
import Derived.Test.YtlmeijlandogaaaDoorIx0
import Derived.Test.YtlmeijlandogaaaDoorTJoinI
import Derived.Lib.Split
namespace Go.Proofs.YtlmeijlandogaaaDoor.Pure
open Go Go.RowKit
/-- The pieces of a text between the bytes c. -/
def spL (c : UInt8) : List UInt8 → List (List UInt8)
  | [] => [[]]
  | b :: l => if b = c then [] :: spL c l else (match spL c l with
    | [] => [[b]]
    | p :: ps => (b :: p) :: ps)
theorem spL_ne (c : UInt8) : ∀ l, spL c l ≠ []
  | [] => by simp [spL]
  | b :: l => by
    rw [spL]
    split
    · simp
    · split <;> simp
theorem spL_hit (c : UInt8) (l : List UInt8) : spL c (c :: l) = [] :: spL c l := by rw [spL, if_pos rfl]
theorem spL_miss (c b : UInt8) (l : List UInt8) (h : b ≠ c) : ∃ p ps, spL c l = p :: ps ∧ spL c (b :: l) = (b :: p) :: ps := by
  cases e : spL c l with
  | nil => exact absurd e (spL_ne c l)
  | cons p ps => exact ⟨p, ps, rfl, by rw [spL, if_neg h, e]⟩
theorem spL_clean (c : UInt8) : ∀ l, ∀ p ∈ spL c l, c ∉ p
  | [], p, hp => by
    simp only [spL, List.mem_singleton] at hp
    subst hp
    simp
  | b :: l, p, hp => by
    by_cases h : b = c
    · subst h
      rw [spL_hit] at hp
      rcases List.mem_cons.1 hp with rfl | hp
      · simp
      · exact spL_clean b l p hp
    · obtain ⟨q, qs, e1, e2⟩ := spL_miss c b l h
      rw [e2] at hp
      have ih := spL_clean c l
      rw [e1] at ih
      rcases List.mem_cons.1 hp with rfl | hp
      · have := ih q (List.mem_cons_self ..)
        simp only [List.mem_cons, not_or]
        exact ⟨fun e => h e.symm, this⟩
      · exact ih p (List.mem_cons_of_mem _ hp)
theorem spL_none (c : UInt8) : ∀ l, c ∉ l → spL c l = [l]
  | [], _ => rfl
  | b :: l, h => by
    simp only [List.mem_cons, not_or] at h
    obtain ⟨q, qs, e1, e2⟩ := spL_miss c b l (fun e => h.1 e.symm)
    rw [spL_none c l h.2] at e1
    injection e1 with h1 h2
    rw [e2, ← h1, ← h2]
theorem spL_app (c : UInt8) : ∀ (p l : List UInt8), c ∉ p → spL c (p ++ c :: l) = p :: spL c l
  | [], l, _ => by rw [List.nil_append, spL_hit]
  | b :: p, l, h => by
    simp only [List.mem_cons, not_or] at h
    obtain ⟨q, qs, e1, e2⟩ := spL_miss c b (p ++ c :: l) (fun e => h.1 e.symm)
    rw [spL_app c p l h.2] at e1
    injection e1 with h1 h2
    rw [List.cons_append, e2, ← h1, ← h2]
/-- Pieces, joined. -/
theorem join_cons2 (p q : List UInt8) (ps : List (List UInt8)) (s : List UInt8) : Lib.join (p :: q :: ps) s = p ++ (s ++ Lib.join (q :: ps) s) := by
  rw [Lib.join_cons, Lib.join_cons]
  simp [Lib.joinTail]
theorem join_sp (c : UInt8) : ∀ l, Lib.join (spL c l) [c] = l
  | [] => by simp [spL, Lib.join_one]
  | b :: l => by
    have ih := join_sp c l
    by_cases h : b = c
    · subst h
      rw [spL_hit]
      cases e : spL b l with
      | nil => exact absurd e (spL_ne b l)
      | cons q qs =>
        rw [e] at ih
        rw [join_cons2, ih]
        rfl
    · obtain ⟨q, qs, e1, e2⟩ := spL_miss c b l h
      rw [e2]
      rw [e1] at ih
      rw [Lib.join_cons] at ih ⊢
      rw [List.cons_append, ih]
/-- What was joined is divided again. -/
theorem sp_join (c : UInt8) : ∀ ps : List (List UInt8), ps ≠ [] → (∀ p ∈ ps, c ∉ p) → spL c (Lib.join ps [c]) = ps
  | [], h, _ => absurd rfl h
  | [p], _, h => by rw [Lib.join_one, spL_none c p (h p (List.mem_cons_self ..))]
  | p :: q :: ps, _, h => by
    rw [join_cons2, List.singleton_append, spL_app c p _ (h p (List.mem_cons_self ..)), sp_join c (q :: ps) (by simp) (fun x hx => h x (List.mem_cons_of_mem _ hx))]
theorem index_byte (c : UInt8) (l : List UInt8) : (c ∉ l ∧ Lib.index l [c] = -1) ∨ ∃ p r, l = p ++ c :: r ∧ c ∉ p ∧ Lib.index l [c] = (p.length : Int) := by
  induction l with
  | nil => exact .inl ⟨by simp, by simp [Lib.index]⟩
  | cons b l ih =>
    by_cases h : b = c
    · subst h
      exact .inr ⟨[], l, rfl, by simp, by simp [Lib.index, List.isPrefixOf]⟩
    · have hp : ([c] : List UInt8).isPrefixOf (b :: l) = false := by simp [List.isPrefixOf, Ne.symm h]
      rcases ih with ⟨h1, h2⟩ | ⟨p, r, rfl, h1, h2⟩
      · left
        refine ⟨by simp only [List.mem_cons, not_or]; exact ⟨fun e => h e.symm, h1⟩, ?_⟩
        rw [Lib.index, hp, h2]
        rfl
      · right
        refine ⟨b :: p, r, rfl, by simp only [List.mem_cons, not_or]; exact ⟨fun e => h e.symm, h1⟩, ?_⟩
        rw [Lib.index, hp, h2]
        have : ((p.length : Int) == -1) = false := by rw [beq_eq_false_iff_ne]; omega
        rw [this, List.length_cons]
        simp
/-- The library's pieces: all, if there are at most k more than one, and else k + 1 that put together are the text. -/
theorem splitK_sp (c : UInt8) : ∀ (k : Nat) (l : List UInt8), ((spL c l).length ≤ k + 1 → Lib.splitK [c] 0 k l = spL c l) ∧ (k + 1 < (spL c l).length → (Lib.splitK [c] 0 k l).length = k + 1)
  | 0, l => by
    refine ⟨fun h => ?_, fun h => rfl⟩
    have hne := spL_ne c l
    have hj := join_sp c l
    cases e : spL c l with
    | nil => exact absurd e hne
    | cons p ps =>
      rw [e] at h hj
      have : ps = [] := List.eq_nil_of_length_eq_zero (by rw [List.length_cons] at h; omega)
      subst this
      rw [Lib.join_one] at hj
      rw [hj]
      rfl
  | k + 1, l => by
    rcases index_byte c l with ⟨h1, h2⟩ | ⟨p, r, rfl, h1, h2⟩
    · have e : Lib.splitK [c] 0 (k + 1) l = [l] := by rw [Lib.splitK, h2]; rfl
      rw [e, spL_none c l h1]
      exact ⟨fun _ => rfl, fun h => by simp at h⟩
    · have e : Lib.splitK [c] 0 (k + 1) (p ++ c :: r) = p :: Lib.splitK [c] 0 k r := by
        have hm : ((p.length : Int) == -1) = false := by rw [beq_eq_false_iff_ne]; omega
        rw [Lib.splitK, h2, hm]
        simp only [Bool.false_eq_true, if_false, Int.toNat_natCast, Nat.add_zero, List.length_singleton]
        rw [List.take_left, show (p ++ c :: r).drop (p.length + 1) = r by rw [← List.drop_drop, List.drop_left]; rfl]
      have ih := splitK_sp c k r
      rw [e, spL_app c p r h1, List.length_cons, List.length_cons]
      exact ⟨fun h => by rw [ih.1 (by omega)], fun h => by rw [ih.2 (by omega)]⟩
theorem splitK_mem (c : UInt8) (k : Nat) (l : List UInt8) : Lib.join (Lib.splitK [c] 0 k l) [c] = l ∧ Lib.splitK [c] 0 k l ≠ [] := by
  induction k generalizing l with
  | zero => exact ⟨Lib.join_one .., by simp [Lib.splitK]⟩
  | succ k ih =>
    rcases index_byte c l with ⟨h1, h2⟩ | ⟨p, r, rfl, h1, h2⟩
    · have e : Lib.splitK [c] 0 (k + 1) l = [l] := by rw [Lib.splitK, h2]; rfl
      rw [e]
      exact ⟨Lib.join_one .., by simp⟩
    · have e : Lib.splitK [c] 0 (k + 1) (p ++ c :: r) = p :: Lib.splitK [c] 0 k r := by
        have hm : ((p.length : Int) == -1) = false := by rw [beq_eq_false_iff_ne]; omega
        rw [Lib.splitK, h2, hm]
        simp only [Bool.false_eq_true, if_false, Int.toNat_natCast, Nat.add_zero, List.length_singleton]
        rw [List.take_left, show (p ++ c :: r).drop (p.length + 1) = r by rw [← List.drop_drop, List.drop_left]; rfl]
      obtain ⟨i1, i2⟩ := ih r
      rw [e]
      refine ⟨?_, by simp⟩
      cases e2 : Lib.splitK [c] 0 k r with
      | nil => exact absurd e2 i2
      | cons q qs => rw [e2] at i1; rw [join_cons2, i1]; rfl
theorem bA_data (s : ByteArray) : bA s.data.toList = s := by
  apply ByteArray.ext
  simp [bA]
theorem bA_inj {a b : List UInt8} (h : bA a = bA b) : a = b := by
  have := congrArg (fun s : ByteArray => s.data.toList) h
  simpa [bA] using this
theorem bA_tl (l : List UInt8) : (bA l).toList = l := by rw [ByteArray.toList_eq]; rfl
theorem map_back (xs : List ByteArray) : xs = (xs.map (·.data.toList)).map bA := by
  rw [List.map_map]
  conv => lhs; rw [← List.map_id xs]
  apply List.map_congr_left
  intro x _
  exact (bA_data x).symm
theorem splitB_sp (c : UInt8) (k : Nat) (l : List UInt8) : Lib.splitB (bA [c]) 0 k (bA l) = (Lib.splitK [c] 0 k l).map bA := by
  rw [map_back (Lib.splitB (bA [c]) 0 k (bA l)), Lib.splitB_data]
  rfl
theorem spL_len (c : UInt8) : ∀ l : List UInt8, (spL c l).length ≤ l.length + 1
  | [] => by simp [spL]
  | b :: l => by
    have ih := spL_len c l
    by_cases h : b = c
    · subst h
      rw [spL_hit, List.length_cons, List.length_cons]
      omega
    · obtain ⟨q, qs, e1, e2⟩ := spL_miss c b l h
      rw [e1] at ih
      rw [e2, List.length_cons, List.length_cons]
      rw [List.length_cons] at ih
      omega
theorem count_sp (c : UInt8) : ∀ l : List UInt8, (spL c l).length = l.count c + 1
  | [] => by simp [spL]
  | b :: l => by
    have ih := count_sp c l
    by_cases h : b = c
    · subst h
      rw [spL_hit, List.length_cons, ih, List.count_cons_self]
    · obtain ⟨q, qs, e1, e2⟩ := spL_miss c b l h
      rw [e1] at ih
      rw [e2, List.length_cons, List.count_cons_of_ne (by simpa using h)]
      rw [List.length_cons] at ih
      omega
end Go.Proofs.YtlmeijlandogaaaDoor.Pure
