/- A variable in memory, and an element of a row, told as a row of one element. No condition. -/
import Derived.Test.YtbebcnnibjkclaaDoorWWords
import Derived.Deep.Slices
namespace Go.Proofs.YtbebcnnibjkclaaDoorW.PrintWords
theorem C_box {α : Type} {d : Kd α} {w : World} {g : Nat} {t : TypeId} {cs : Array Value} {x : α} (hb : w.heap[g]? = some (.cells cs t (0, 0))) (hk : d.K w x cs.toList) : Kd.C d w (some ⟨g, 0, none⟩) 1 [x] := by
  refine ⟨rfl, by decide, fun _ => ⟨_, rfl, fun j p hj => ?_⟩⟩
  have hj0 : j = 0 := by
    have := (List.getElem?_eq_some_iff.1 hj).1
    simpa using this
  subst hj0
  obtain rfl : x = p := by simpa using hj
  refine ⟨cs.toList, d.K_len hk, hk, fun i u hu => ?_⟩
  have := blk_cell hb i
  rw [Nat.zero_mul, Nat.zero_add]
  show w.cell? (Addr.add ⟨g, 0, none⟩ i) = some u
  by_cases h0 : i = 0
  · subst h0
    rw [Addr.add_zero', this]
    simpa using hu
  · have e : Addr.add ⟨g, 0, none⟩ i = ⟨g, i, none⟩ := by
      have := add_field ⟨g, 0, none⟩ 0 i (by omega)
      simpa [Addr.add_zero'] using this
    rw [e, this]
    simpa using hu
theorem C_elem {α : Type} {d : Kd α} {w : World} {ad : Addr} {n : Nat} {xs : List α} (z : α) (i : Int) (h0 : 0 ≤ i) (h1 : i < (n : Int)) (h : Kd.C d w (some ad) n xs) : Kd.C d w (some (ad.add (i.toNat * d.sz))) 1 [xs.getD i.toNat z] := by
  obtain ⟨ad', c, e, hl, hk, hc⟩ := Kd.C_get h z i h0 h1
  obtain rfl : ad = ad' := by injection e
  refine ⟨rfl, by decide, fun _ => ⟨_, rfl, fun j p hj => ?_⟩⟩
  have hj0 : j = 0 := by
    have := (List.getElem?_eq_some_iff.1 hj).1
    simpa using this
  subst hj0
  obtain rfl : xs.getD i.toNat z = p := by simpa using hj
  refine ⟨c, hl, hk, fun k u hu => ?_⟩
  rw [Nat.zero_mul, Nat.zero_add, Go.Deep.add_add]
  exact hc k u hu
end Go.Proofs.YtbebcnnibjkclaaDoorW.PrintWords
/- One of two numbers. -/
namespace Go.Proofs.YtbebcnnibjkclaaDoorW.PrintWords
def pick2 (j a b : Int) : Int := if j = 0 then a else b
def pickS3 (j : Int) (a b c : ByteArray) : ByteArray := if j = 0 then a else if j = 1 then b else c
end Go.Proofs.YtbebcnnibjkclaaDoorW.PrintWords
/- Order of two strings: at most is not more. -/
namespace Go.Proofs.YtbebcnnibjkclaaDoorW.PrintWords
theorem bl_not : ∀ (x y : List UInt8), (Op.bytesLess x y || x == y) = !(Op.bytesLess y x)
  | [], [] => by simp [Op.bytesLess]
  | [], b :: y => by simp [Op.bytesLess]
  | a :: x, [] => by simp [Op.bytesLess]
  | a :: x, b :: y => by
    have ih := bl_not x y
    by_cases h : a = b
    · subst h
      simp only [Op.bytesLess, UInt8.lt_irrefl, decide_false, Bool.false_or, beq_self_eq_true, Bool.true_and, List.cons_beq_cons]
      exact ih
    · have h' : ¬ b = a := fun e => h e.symm
      by_cases l : a < b
      · have l' : ¬ b < a := UInt8.lt_asymm l
        simp [Op.bytesLess, h', l, l']
      · have l' : b < a := by
          rcases UInt8.lt_or_lt_of_ne h with e | e
          · exact absurd e l
          · exact e
        simp [Op.bytesLess, h, l, l']
@[go_sem] theorem leq_str (t : TypeId) (a b : ByteArray) : binOp .leq t (.string a) (.string b) = pure (.bool !(Op.bytesLess b.toList a.toList)) := by simp only [binOp, Op.stringOp, bl_not]
@[go_sem] theorem geq_str (t : TypeId) (a b : ByteArray) : binOp .geq t (.string a) (.string b) = pure (.bool !(Op.bytesLess a.toList b.toList)) := by simp [binOp, Op.stringOp]
/-- What a row of rows that is handed over says of a block (Kd.R_bound): it is of one of its types. -/
theorem ror_box {W : World} {A B : Prop} {k t : Nat} {E : List Nat} {cs : Array Value} (hb : W.heap[k]? = some (.cells cs t (0, 0))) (ht : ∀ q, q ∈ E → q ≠ t) (h : A ∧ B ∧ k < W.heap.size ∧ ∃ q, q ∈ E ∧ ∃ cells, W.heap[k]? = some (.cells cells q (0, 0))) : False := by
  obtain ⟨_, _, _, q, hq, cells, hc⟩ := h
  rw [hc] at hb
  injection hb with hb
  injection hb with _ hb
  exact ht q hq hb
theorem ror_ty {α : Type} {d : Kd α} {W : World} {A B : Prop} {ok' : Nat → Prop} {base' k e : Nat} {E : List Nat} {v : Value} {xs : List α} (hr : d.R e W base' ok' v xs) (hs : some k = v.ownBlock) (ht : ∀ q, q ∈ E → q ≠ e) (h : A ∧ B ∧ k < W.heap.size ∧ ∃ q, q ∈ E ∧ ∃ cells, W.heap[k]? = some (.cells cells q (0, 0))) : False := by
  obtain ⟨cells, hc⟩ := Kd.R_typed hr k hs.symm
  exact ror_box hc ht h
end Go.Proofs.YtbebcnnibjkclaaDoorW.PrintWords
