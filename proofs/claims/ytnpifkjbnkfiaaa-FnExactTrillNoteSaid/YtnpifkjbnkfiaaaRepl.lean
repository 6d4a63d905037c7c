/- A melody with some notes in place of one: what the reference and the program answer. No condition. -/
import Derived.Test.YtnpifkjbnkfiaaaMx0
import Derived.Test.YtnpifkjbnkfiaaaMx19
import Derived.Test.YtnpifkjbnkfiaaaMx21
import Derived.Test.YtnpifkjbnkfiaaaMx22
import Derived.Test.YtnpifkjbnkfiaaaMx24
import Derived.Test.YtnpifkjbnkfiaaaDone
namespace Go.Proofs.Ytnpifkjbnkfiaaa.Pure
open Go.RowKit Go.Proofs.Ytnpifkjbnkfiaaa.M Go.Proofs.YtnpifkjbnkfiaaaW.PrintWords Go.Proofs.YtnpifkjbnkfiaaaW.PrintLast
def repl (m : List S52) (i : Nat) (n : List S52) : List S52 := m.take i ++ n ++ m.drop (i + 1)
theorem repl_len (m : List S52) (i : Nat) (n : List S52) (h : i < m.length) : (repl m i n).length + 1 = m.length + n.length := by
  simp only [repl, List.length_append, List.length_take, List.length_drop]
  omega
theorem repl_ok {m : List S52} {n : List S52} (i : Nat) (hm : m.all noteOk = true) (h : n.all noteOk = true) : (repl m i n).all noteOk = true := by
  rw [List.all_eq_true] at hm h ⊢
  intro x hx
  simp only [repl, List.mem_append] at hx
  rcases hx with (hx | hx) | hx
  · exact hm x (List.mem_of_mem_take hx)
  · exact h x hx
  · exact hm x (List.mem_of_mem_drop hx)
theorem done_ok {x : List S52} (h : x.all noteOk = true) : doneN x = if (x.length : Int) > 48 then ([], 5) else (x, 0) := by
  unfold doneN
  rw [if_pos h]
  by_cases c : x.length > 48
  · rw [if_pos c, if_pos (by omega)]
  · rw [if_neg c, if_neg (by omega)]
theorem specRepl (m : List S52) (i : Nat) (n : List S52) (h : i < m.length) (hm : m.length ≤ 48) (hn : n.length ≤ 100) : spec_l10Replace.f m (i : Int) n = some (if ((repl m i n).length : Int) > 48 then ([], 5) else (repl m i n, 0)) := by
  have l1 : (m.take i).length = i := by rw [List.length_take]; omega
  have l2 : (m.drop (i + 1)).length = m.length - (i + 1) := by rw [List.length_drop]
  have ht : ((i : Int) : Int).toNat = i := Int.toNat_natCast i
  have ht1 : ((i : Int) + 1).toNat = i + 1 := by omega
  have g1 : ([] : List S52).length + (m.take i).length < 8796093022208 := by rw [l1, List.length_nil]; omega
  have g2 : ([] ++ m.take i : List S52).length + n.length < 8796093022208 := by rw [List.nil_append]; omega
  have g3 : ([] ++ m.take i ++ n : List S52).length + (m.drop (i + 1)).length < 8796093022208 := by rw [List.nil_append, List.length_append]; omega
  rw [spec_l10Replace.f, Option.bind_some, if_pos (by omega), if_pos (by omega), Option.bind_some, ht, if_pos g1, Option.bind_some, if_pos g2, Option.bind_some, w64 (n := (i : Int) + 1) (by omega) (by omega), if_pos (show (0 : Int) ≤ (i : Int) + 1 by omega), if_pos (show (i : Int) + 1 ≤ (m.length : Int) by omega), Option.bind_some, ht1, if_pos g3, Option.bind_some]
  rw [show [] ++ m.take i ++ n ++ m.drop (i + 1) = repl m i n from rfl]
  by_cases c : ((repl m i n).length : Int) > 48
  · rw [if_pos c, if_pos c]
  · rw [if_neg c, if_neg c]
theorem implCat (m : List S52) (i : Nat) (n : List S52) (h : i < m.length) (hm : m.length ≤ 48) (hn : n.length ≤ 100) : impl_Note_56.f [m.take i, n, m.drop (i + 1)] = some (repl m i n) := by
  have e : [m.take i, n, m.drop (i + 1)].flatten = repl m i n := by simp [repl]
  have := repl_len m i n h
  unfold impl_Note_56.f
  rw [e, if_pos (by omega)]
def askB (m : List S52) (a p l : Int) : Bool := inB a 0 ((m.length : Int) - 1) && inB p (-12) 23 && inB l 1 64
theorem implAsk (m : List S52) (hn : m.length ≤ 1048576) (a p l : Int) (k : Nat) (hk : 1048577 ≤ k) : impl_noteCode.f k m a p l = some (if okN m = true then (if askB m a p l = true then 0 else 2) else 1) := by
  rw [impl_noteCode.f, implOk m hn k hk, Option.bind_some]
  by_cases h : okN m = true
  · rw [if_pos h, if_pos h]
    simp only [impl_Note_76.f, implIn, implPitch, implLen, Option.bind_some]
    rw [w64 (by omega) (by omega)]
    unfold askB
    by_cases h1 : inB a 0 ((m.length : Int) - 1) = true <;> by_cases h2 : inB p (-12) 23 = true <;> by_cases h3 : inB l 1 64 = true <;> simp [h1, h2, h3]
  · rw [if_neg h, if_neg h]
theorem specAsk (m : List S52) (hn : m.length ≤ 1048576) (a p l : Int) (k : Nat) (hk : 1048577 ≤ k) : spec_l10Ask.f k m a p l = some (if okN m = true then (if askB m a p l = true then (if l ≥ (rd_T52 m a).f1 then 6 else 0) else 2) else 1) := by
  obtain ⟨k, rfl⟩ : ∃ j, k = j + 1 := ⟨k - 1, by omega⟩
  rw [spec_l10Ask.f, specOk m hn _ hk, Option.bind_some]
  by_cases h : okN m = true
  · rw [if_pos h, if_pos h]
    simp only [specIn, specPitch, specLen, Option.bind_some, spec_l10Ask.j0]
    rw [w64 (by omega) (by omega)]
    by_cases h1 : inB a 0 ((m.length : Int) - 1) = true
    · have := inB_true.1 h1
      unfold askB
      by_cases h2 : inB p (-12) 23 = true
      · by_cases h3 : inB l 1 64 = true
        · simp only [h1, h2, h3, if_true, Bool.and_self, Bool.not_true, Bool.false_eq_true, if_false]
          rw [if_pos (by omega), if_pos (by omega)]
          by_cases c : l ≥ (rd_T52 m a).f1
          · rw [if_pos c, if_pos c]
          · rw [if_neg c, if_neg c]
        · simp [h1, h2, h3]
      · simp [h1, h2]
    · unfold askB
      simp [h1]
  · rw [if_neg h, if_neg h]

end Go.Proofs.Ytnpifkjbnkfiaaa.Pure
