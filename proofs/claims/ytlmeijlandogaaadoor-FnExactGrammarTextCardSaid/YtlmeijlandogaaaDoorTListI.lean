/- A list of numbers as text: the reference's text, put together step by step, and the joined pieces are one. No condition. -/
import Derived.Test.YtlmeijlandogaaaDoorIx0
import Derived.Test.YtlmeijlandogaaaDoorIx6
import Derived.Test.YtlmeijlandogaaaDoorIx9
import Derived.Test.YtlmeijlandogaaaDoorIx15
import Derived.Test.YtlmeijlandogaaaDoorDecI
import Derived.Lib.Join
namespace Go.Proofs.YtlmeijlandogaaaDoor.Pure
open Go Go.RowKit Go.Proofs.YtlmeijlandogaaaDoor.I Go.Proofs.YtlmeijlandogaaaDoorW.PrintWords Go.Proofs.YtlmeijlandogaaaDoorW.PrintLast
def bA (l : List UInt8) : ByteArray := ⟨l.toArray⟩
theorem bA_size (l : List UInt8) : (bA l).size = l.length := by simp [bA, ByteArray.size]
theorem bA_app (a b : List UInt8) : bA a ++ bA b = bA (a ++ b) := by
  apply ByteArray.ext
  rw [ByteArray.data_append]
  simp [bA]
theorem bA_list (l : List UInt8) : (bA l).data.toList = l := rfl
theorem join_snoc (xs : List (List UInt8)) (y sep : List UInt8) (h : xs ≠ []) : Lib.join (xs ++ [y]) sep = Lib.join xs sep ++ (sep ++ y) := by
  cases xs with
  | nil => exact absurd rfl h
  | cons x r =>
    rw [List.cons_append, Lib.join_cons, Lib.join_cons]
    simp [Lib.joinTail]
theorem join_le (xs : List (List UInt8)) (sep : List UInt8) (B : Nat) (h : ∀ x ∈ xs, x.length ≤ B) : (Lib.join xs sep).length ≤ xs.length * (B + sep.length) := by
  cases xs with
  | nil => simp [Lib.join_nil]
  | cons x r =>
    rw [Lib.join_length]
    have h2 : ∀ ys : List (List UInt8), (∀ x ∈ ys, x.length ≤ B) → Lib.lens ys ≤ ys.length * B := by
      intro ys
      induction ys with
      | nil => intro _; simp [Lib.lens]
      | cons y ys ih =>
        intro hy
        have a := ih (fun x hx => hy x (List.mem_cons_of_mem _ hx))
        have b := hy y (List.mem_cons_self ..)
        simp only [Lib.lens, List.map_cons, List.sum_cons, List.length_cons, Nat.add_mul, Nat.one_mul] at a ⊢
        omega
    have := h2 (x :: r) h
    have e : sep.length * r.length ≤ (x :: r).length * sep.length := by
      rw [Nat.mul_comm]
      exact Nat.mul_le_mul_right _ (by simp)
    rw [Nat.mul_add]
    omega
/-- The text of the first i numbers. -/
def tx (l : List Int) (i : Nat) : List UInt8 := Lib.join ((l.take i).map Lib.itoa) [44]
theorem tx_succ (l : List Int) (i : Nat) (h : i < l.length) : tx l (i + 1) = if i = 0 then Lib.itoa l[i] else tx l i ++ ([44] ++ Lib.itoa l[i]) := by
  unfold tx
  rw [List.take_succ_eq_append_getElem h, List.map_append]
  by_cases c : i = 0
  · subst c
    simp [Lib.join_one]
  · rw [if_neg c, List.map_cons, List.map_nil, join_snoc]
    intro e
    have e2 : ((l.take i).map Lib.itoa).length = 0 := by rw [e]; rfl
    rw [List.length_map, List.length_take] at e2
    omega
def R64 (x : Int) : Prop := -9223372036854775808 ≤ x ∧ x ≤ 9223372036854775807
theorem tx_len (l : List Int) (i : Nat) (hl : l.length ≤ 64) (hr : ∀ x ∈ l, R64 x) : (tx l i).length ≤ 1408 := by
  unfold tx
  have := join_le ((l.take i).map Lib.itoa) [44] 21 (by
    intro x hx
    obtain ⟨y, hy, rfl⟩ := List.mem_map.1 hx
    have := hr y (List.mem_of_mem_take hy)
    exact itoa_len y this.1 this.2)
  have e : ((l.take i).map Lib.itoa).length ≤ 64 := by rw [List.length_map, List.length_take]; omega
  simp only [List.length_cons, List.length_nil] at this
  omega
theorem rd_list (l : List Int) (i : Nat) (h : i < l.length) : rd l (i : Int) = l[i] := by
  simp [rd, List.getD_eq_getElem?_getD, List.getElem?_eq_getElem h]
theorem list_l0 (l : List Int) (hl : l.length ≤ 64) (hr : ∀ x ∈ l, R64 x) : ∀ (d i k : Nat), i + d = l.length → 1100 + d < k →
    spec_l01List.l0 k l (bA (tx l i)) (i : Int) = some (bA (tx l l.length))
  | 0, i, k, hi, hk => by
    obtain ⟨k, rfl⟩ := dsucc (n := 0) (k := k) (by omega)
    rw [spec_l01List.l0, if_neg (by omega), show i = l.length by omega]
  | d + 1, i, k, hi, hk => by
    obtain ⟨k, rfl⟩ := dsucc (n := 0) (k := k) (by omega)
    have hm := hr l[i] (List.getElem_mem (by omega))
    have hs := tx_len l i hl hr
    have hd := dec l[i] hm.1 hm.2 k (by omega)
    have hz := itoa_len l[i] hm.1 hm.2
    have go := list_l0 l hl hr d (i + 1) k (by omega) (by omega)
    rw [spec_l01List.l0, if_pos (by omega)]
    by_cases c : i = 0
    · subst c
      rw [if_neg (by omega), if_pos (by omega), rd_list l 0 (by omega), hd, Option.bind_some]
      have hz' : (⟨(Lib.itoa l[0]).toArray⟩ : ByteArray).size ≤ 21 := by simpa [ByteArray.size] using hz
      rw [if_pos (by rw [bA_size]; omega), dw64 (by omega) (by omega)]
      have e : bA (tx l 0) ++ (⟨(Lib.itoa l[0]).toArray⟩ : ByteArray) = bA (tx l 1) := by
        rw [tx_succ l 0 (by omega), if_pos rfl]
        show bA (tx l 0) ++ bA _ = _
        rw [bA_app]
        rfl
      rw [e]
      exact go
    · rw [if_pos (by omega), if_pos (by rw [bA_size]; omega), if_pos (by omega), rd_list l i (by omega), hd, Option.bind_some]
      have hz' : (⟨(Lib.itoa l[i]).toArray⟩ : ByteArray).size ≤ 21 := by simpa [ByteArray.size] using hz
      have e1 : bA (tx l i) ++ (⟨#[44]⟩ : ByteArray) = bA (tx l i ++ [44]) := bA_app _ [44]
      rw [e1, if_pos (by rw [bA_size, List.length_append, List.length_singleton]; omega), dw64 (by omega) (by omega)]
      have e : bA (tx l i ++ [44]) ++ (⟨(Lib.itoa l[i]).toArray⟩ : ByteArray) = bA (tx l (i + 1)) := by
        rw [tx_succ l i (by omega), if_neg c]
        show bA _ ++ bA _ = _
        rw [bA_app, List.append_assoc]
      rw [e, show ((i : Int) + 1) = ((i + 1 : Nat) : Int) by omega]
      exact go
theorem list_spec (l : List Int) (hn : 0 < l.length) (hl : l.length ≤ 64) (hr : ∀ x ∈ l, R64 x) (k : Nat) (hk : 1200 ≤ k) : spec_l01List.f k l = some (bA (tx l l.length)) := by
  rw [spec_l01List.f, if_neg (by omega)]
  exact list_l0 l hl hr l.length 0 k (by omega) (by omega)
def pieces (l : List Int) (i : Nat) : List ByteArray := (l.take i).map fun n => bA (Lib.itoa n)
theorem pieces_succ (l : List Int) (i : Nat) (h : i < l.length) : pieces l (i + 1) = pieces l i ++ [bA (Lib.itoa l[i])] := by
  unfold pieces
  rw [List.take_succ_eq_append_getElem h, List.map_append]
  rfl
theorem text_l0 (l : List Int) (hl : l.length ≤ 64) (hr : ∀ x ∈ l, -1000000000000 ≤ x ∧ x ≤ 1000000000000) : ∀ (d i k : Nat), i + d = l.length → d < k →
    impl_ListText.l0 k (pieces l i) l (l.length : Int) (i : Int) = some (bA (tx l l.length))
  | 0, i, k, hi, hk => by
    obtain ⟨k, rfl⟩ := dsucc (n := 0) (k := k) (by omega)
    have e : i = l.length := by omega
    subst e
    rw [impl_ListText.l0, if_neg (by omega)]
    have e1 : (pieces l l.length).map (·.data.toList) = (l.take l.length).map Lib.itoa := by
      unfold pieces
      rw [List.map_map]
      rfl
    have hs := tx_len l l.length hl (fun x hx => by have := hr x hx; exact ⟨by omega, by omega⟩)
    have e2 : (pieces l l.length).length ≤ 64 := by unfold pieces; rw [List.length_map, List.length_take]; omega
    unfold tx at hs
    rw [strings_Join.f, e1]
    rw [if_pos ⟨by omega, by
      show (Lib.join _ [44]).length ≤ _
      omega⟩, Option.bind_some]
    rfl
  | d + 1, i, k, hi, hk => by
    obtain ⟨k, rfl⟩ := dsucc (n := 0) (k := k) (by omega)
    have hm := hr l[i] (List.getElem_mem (by omega))
    have hw : impl_within.f l[i] (-1000000000000) 1000000000000 = some true := by
      rw [impl_within.f, if_pos (by omega), decide_eq_true (by omega)]
    have hd : impl_Decimal.f l[i] = some (bA (Lib.itoa l[i])) := by rw [impl_Decimal.f, if_pos ⟨by omega, by omega⟩]; rfl
    have hlen : (pieces l i).length ≤ 64 := by unfold pieces; rw [List.length_map, List.length_take]; omega
    rw [impl_ListText.l0, if_pos (by omega), if_pos (by omega), if_pos (by omega), rd_list l i (by omega), hw, Option.bind_some, if_pos rfl, hd, Option.bind_some, if_pos (by omega), dw64 (by omega) (by omega), ← pieces_succ l i (by omega), show ((i : Int) + 1) = ((i + 1 : Nat) : Int) by omega]
    exact text_l0 l hl hr d (i + 1) k (by omega) (by omega)
theorem list_impl (l : List Int) (hn : 0 < l.length) (hl : l.length ≤ 64) (hr : ∀ x ∈ l, -1000000000000 ≤ x ∧ x ≤ 1000000000000) (k : Nat) (hk : 1200 ≤ k) : impl_ListText.f k l = some (bA (tx l l.length)) := by
  rw [impl_ListText.f, if_neg (by omega), if_neg (by omega), if_pos (by omega), if_pos (by omega)]
  exact text_l0 l hl hr l.length 0 k (by omega) (by omega)
end Go.Proofs.YtlmeijlandogaaaDoor.Pure
