/- Pieces joined by a separator, one more piece at a time. No condition. -/
import Derived.Test.YtlmeijlandogaaaDoorIx0
import Derived.Test.YtlmeijlandogaaaDoorIx15
import Derived.Test.YtlmeijlandogaaaDoorTListI
namespace Go.Proofs.YtlmeijlandogaaaDoor.Pure
open Go Go.RowKit Go.Proofs.YtlmeijlandogaaaDoor.I Go.Proofs.YtlmeijlandogaaaDoorW.PrintWords Go.Proofs.YtlmeijlandogaaaDoorW.PrintLast
/-- The first i pieces, joined. -/
def jt (ps : List (List UInt8)) (s : List UInt8) (i : Nat) : List UInt8 := Lib.join (ps.take i) s
theorem jt_zero (ps : List (List UInt8)) (s : List UInt8) : jt ps s 0 = [] := by simp [jt, Lib.join_nil]
theorem jt_succ (ps : List (List UInt8)) (s : List UInt8) (i : Nat) (h : i < ps.length) : jt ps s (i + 1) = if i = 0 then ps[i] else jt ps s i ++ (s ++ ps[i]) := by
  unfold jt
  rw [List.take_succ_eq_append_getElem h]
  by_cases c : i = 0
  · subst c
    simp [Lib.join_one]
  · rw [if_neg c, join_snoc]
    intro e
    have e2 : (ps.take i).length = 0 := by rw [e]; rfl
    rw [List.length_take] at e2
    omega
theorem jt_len (ps : List (List UInt8)) (s : List UInt8) (B N : Nat) (hN : ps.length ≤ N) (hB : ∀ x ∈ ps, x.length ≤ B) (i : Nat) : (jt ps s i).length ≤ N * (B + s.length) := by
  unfold jt
  have := join_le (ps.take i) s B (fun x hx => hB x (List.mem_of_mem_take hx))
  have e : (ps.take i).length ≤ N := by rw [List.length_take]; omega
  exact Nat.le_trans this (Nat.mul_le_mul_right _ e)
theorem join_f (ps : List (List UInt8)) (s : List UInt8) (hp : ps.length ≤ 1000) (hl : (jt ps s ps.length).length ≤ 1000000) : strings_Join.f (ps.map bA) (bA s) = some (bA (jt ps s ps.length)) := by
  have e1 : (ps.map bA).map (·.data.toList) = ps := by
    rw [List.map_map]
    conv => rhs; rw [← List.map_id ps]
    rfl
  unfold jt at hl ⊢
  rw [List.take_length] at hl ⊢
  rw [strings_Join.f, e1, if_pos ⟨by rw [List.length_map]; omega, by show (Lib.join ps s).length ≤ _; omega⟩]
  rfl
end Go.Proofs.YtlmeijlandogaaaDoor.Pure
