/- The text of a list of numbers that may be empty, and what is read from a text. No condition. -/
import Derived.Test.YtlmeijlandogaaaDoorIx0
import Derived.Test.YtlmeijlandogaaaDoorTSplitI
import Derived.Test.YtlmeijlandogaaaDoorTNumI
namespace Go.Proofs.YtlmeijlandogaaaDoor.Pure
open Go Go.RowKit
/-- The text of a list that may be empty. -/
def ltB (l : List Int) : List UInt8 := if l.length = 0 then [45] else tx l l.length
theorem ltB_nil : ltB [] = [45] := rfl
theorem ltB_join {l : List Int} (h : l ≠ []) : ltB l = Lib.join (l.map Lib.itoa) [44] := by
  unfold ltB tx
  rw [if_neg (by have := List.length_pos_iff.2 h; omega), List.take_length]
/-- A list of numbers that has a text. -/
def fitsL (l : List Int) : Prop := l.length ≤ 64 ∧ ∀ x ∈ l, -1000000000000 ≤ x ∧ x ≤ 1000000000000
/-- Bytes of a numeral. -/
def nuB (c : UInt8) : Bool := dgB c || decide (c = 45)
theorem itoa_nu (v : Int) : ∀ c ∈ Lib.itoa v, nuB c = true := by
  intro c hc
  unfold Lib.itoa at hc
  split at hc
  · rcases List.mem_cons.1 hc with rfl | hc
    · decide
    · rw [nuB, dec_dg _ c hc]; rfl
  · rw [nuB, dec_dg _ c hc]; rfl
theorem nu_not {c d : UInt8} (h : nuB c = true) (hd : nuB d = false) : c ≠ d := by
  rintro rfl
  rw [h] at hd
  cases hd
theorem itoa_not (v : Int) (d : UInt8) (hd : nuB d = false) : d ∉ Lib.itoa v := fun h => nu_not (itoa_nu v d h) hd rfl
theorem itoa_ne (v : Int) : Lib.itoa v ≠ [] := by
  unfold Lib.itoa
  split
  · simp
  · exact dec_ne _
theorem join_mem (s : List UInt8) (c : UInt8) : ∀ ps : List (List UInt8), c ∈ Lib.join ps s → c ∈ s ∨ ∃ p ∈ ps, c ∈ p
  | [], h => by simp [Lib.join_nil] at h
  | [p], h => by rw [Lib.join_one] at h; exact .inr ⟨p, by simp, h⟩
  | p :: q :: ps, h => by
    rw [join_cons2] at h
    rcases List.mem_append.1 h with h | h
    · exact .inr ⟨p, by simp, h⟩
    · rcases List.mem_append.1 h with h | h
      · exact .inl h
      · rcases join_mem s c (q :: ps) h with h | ⟨p', h1, h2⟩
        · exact .inl h
        · exact .inr ⟨p', List.mem_cons_of_mem _ h1, h2⟩
theorem ltB_not (l : List Int) (d : UInt8) (hd : nuB d = false) (h44 : d ≠ 44) : d ∉ ltB l := by
  intro h
  by_cases e : l = []
  · subst e
    rw [ltB_nil, List.mem_singleton] at h
    subst h
    cases hd
  · rw [ltB_join e] at h
    rcases join_mem _ _ _ h with h | ⟨p, h1, h2⟩
    · exact h44 (List.mem_singleton.1 h)
    · obtain ⟨v, _, rfl⟩ := List.mem_map.1 h1
      exact itoa_not v d hd h2
/-- The numbers with numerals, all with a property. -/
def numsP (P : Int → Bool) : List (List UInt8) → Option (List Int)
  | [] => some []
  | p :: ps => match num p with
    | none => none
    | some v => if P v then (match numsP P ps with | none => none | some l => some (v :: l)) else none
theorem numsP_some {P : Int → Bool} : ∀ {ps : List (List UInt8)} {l : List Int}, numsP P ps = some l → ps = l.map Lib.itoa ∧ (∀ v ∈ l, P v = true) ∧ ∀ v ∈ l, -1000000000000000000 < v ∧ v < 1000000000000000000
  | [], l, h => by
    obtain rfl := Option.some.inj h
    simp
  | p :: ps, l, h => by
    rw [numsP] at h
    cases e : num p with
    | none => rw [e] at h; cases h
    | some v =>
      rw [e] at h
      dsimp only at h
      split at h
      · rename_i hv
        cases e2 : numsP P ps with
        | none => rw [e2] at h; cases h
        | some r =>
          rw [e2] at h
          obtain rfl := Option.some.inj h
          obtain ⟨i1, i2, i3⟩ := numsP_some e2
          refine ⟨by rw [List.map_cons, ← i1, num_itoa e], ?_, ?_⟩
          · intro x hx
            rcases List.mem_cons.1 hx with rfl | hx
            · exact hv
            · exact i2 x hx
          · intro x hx
            rcases List.mem_cons.1 hx with rfl | hx
            · exact num_lt e
            · exact i3 x hx
      · cases h
theorem numsP_itoa {P : Int → Bool} : ∀ (l : List Int), (∀ v ∈ l, P v = true) → (∀ v ∈ l, -1000000000000000000 < v ∧ v < 1000000000000000000) → numsP P (l.map Lib.itoa) = some l
  | [], _, _ => rfl
  | v :: l, h1, h2 => by
    have hv := h2 v (List.mem_cons_self ..)
    rw [List.map_cons, numsP, itoa_num v hv.1 hv.2]
    dsimp only
    rw [if_pos (h1 v (List.mem_cons_self ..)), numsP_itoa l (fun x hx => h1 x (List.mem_cons_of_mem _ hx)) (fun x hx => h2 x (List.mem_cons_of_mem _ hx))]
def inV (v : Int) : Bool := decide (-1000000000000 ≤ v ∧ v ≤ 1000000000000)
/-- The list with a text. -/
def readL (t : List UInt8) : Option (List Int) := if t = [45] then some [] else if (spL 44 t).length ≤ 64 then numsP inV (spL 44 t) else none
theorem sp_ltB {l : List Int} (h : l ≠ []) : spL 44 (ltB l) = l.map Lib.itoa := by
  rw [ltB_join h]
  refine sp_join 44 _ (by simpa using h) ?_
  intro p hp
  obtain ⟨v, _, rfl⟩ := List.mem_map.1 hp
  exact itoa_not v 44 (by decide)
theorem num45 : num [45] = none := by decide
theorem read_text {l : List Int} (h : fitsL l) : readL (ltB l) = some l := by
  obtain ⟨h1, h2⟩ := h
  unfold readL
  by_cases e : l = []
  · subst e; rfl
  · have hs := sp_ltB e
    by_cases c : ltB l = [45]
    · exfalso
      rw [c] at hs
      have e1 : spL 44 [45] = [[45]] := by decide
      rw [e1] at hs
      cases l with
      | nil => exact e rfl
      | cons v r =>
        rw [List.map_cons] at hs
        injection hs with h3 h4
        have hv := h2 v (List.mem_cons_self ..)
        have := itoa_num v (by omega) (by omega)
        rw [← h3, num45] at this
        cases this
    · rw [if_neg c, hs, List.length_map, if_pos h1]
      exact numsP_itoa l (fun v hv => by have := h2 v hv; exact decide_eq_true this) (fun v hv => by have := h2 v hv; omega)
theorem read_some {t : List UInt8} {l : List Int} (h : readL t = some l) : ltB l = t ∧ fitsL l := by
  unfold readL at h
  split at h
  · rename_i c
    obtain rfl := Option.some.inj h
    exact ⟨c.symm, by simp, by simp⟩
  · split at h
    · rename_i c hc
      obtain ⟨i1, i2, i3⟩ := numsP_some h
      have hl : l ≠ [] := by
        rintro rfl
        exact spL_ne 44 t i1
      refine ⟨?_, ?_, ?_⟩
      · rw [ltB_join hl, ← i1, join_sp]
      · rw [i1, List.length_map] at hc; exact hc
      · intro x hx
        have := i2 x hx
        simpa [inV] using this
    · cases h
theorem ltB_inj {l m : List Int} (hl : fitsL l) (hm : fitsL m) (h : ltB l = ltB m) : l = m := by
  have := read_text hl
  rw [h, read_text hm] at this
  exact (Option.some.inj this).symm
/-- What the library's pieces say of the list with a text. -/
theorem read_pieces (t : List UInt8) (h45 : t ≠ [45]) (q : List (List UInt8)) (hq : q = Lib.splitK [44] 0 (min 65 (t.length + 1) - 1) t) :
    q ≠ [] ∧ q.length ≤ 65 ∧ (numsP (fun _ => true) q = none → readL t = none) ∧ (∀ l, numsP (fun _ => true) q = some l → l.length = q.length ∧ (fitsL l → readL t = some l) ∧ (¬ fitsL l → readL t = none)) := by
  have hne := (splitK_mem 44 (min 65 (t.length + 1) - 1) t).2
  have hk := splitK_sp 44 (min 65 (t.length + 1) - 1) t
  have hlen := spL_len 44 t
  rw [← hq] at hne hk
  have hall : ∀ ps l, numsP inV ps = some l → numsP (fun _ => true) ps = some l := by
    intro ps l h
    obtain ⟨i1, i2, i3⟩ := numsP_some h
    rw [i1]
    exact numsP_itoa l (fun _ _ => rfl) i3
  have hlq : ∀ l, numsP (fun _ => true) q = some l → l.length = q.length := by
    intro l hl
    rw [(numsP_some hl).1, List.length_map]
  by_cases c : (spL 44 t).length ≤ (min 65 (t.length + 1) - 1) + 1
  · have e := hk.1 c
    refine ⟨hne, by rw [e]; omega, ?_, ?_⟩
    · intro h
      unfold readL
      rw [if_neg h45]
      split
      · cases e2 : numsP inV (spL 44 t) with
        | none => rfl
        | some l => rw [e, hall _ _ e2] at h; cases h
      · rfl
    · intro l hl
      have hlen2 := hlq l hl
      obtain ⟨i1, -, i3⟩ := numsP_some hl
      refine ⟨hlen2, ?_, ?_⟩
      · intro hf
        unfold readL
        rw [if_neg h45, ← e, if_pos (by have := hf.1; omega), i1]
        exact numsP_itoa l (fun v hv => decide_eq_true (hf.2 v hv)) i3
      · intro hf
        cases e2 : readL t with
        | none => rfl
        | some m =>
          exfalso
          have hm := read_some e2
          unfold readL at e2
          rw [if_neg h45] at e2
          split at e2
          · have := hall _ _ e2
            rw [← e, hl] at this
            obtain rfl := Option.some.inj this
            exact hf hm.2
          · cases e2
  · have e := hk.2 (by omega)
    have hn : readL t = none := by
      unfold readL
      rw [if_neg h45, if_neg (by omega)]
    refine ⟨hne, by omega, fun _ => hn, fun l hl => ⟨hlq l hl, ?_, fun _ => hn⟩⟩
    intro hf
    have := hlq l hl
    have := hf.1
    omega
end Go.Proofs.YtlmeijlandogaaaDoor.Pure
