/- The law FnExactOrnamentText over numbers and bytes alone. No condition. -/
import Derived.Test.YtlphcdophgkdpaaDoorOx0
import Derived.Test.YtlphcdophgkdpaaDoorOx1
import Derived.Test.YtlphcdophgkdpaaDoorOx3
import Derived.Test.YtlphcdophgkdpaaDoorOx4
import Derived.Test.YtlphcdophgkdpaaDoorOx5
import Derived.Test.YtlphcdophgkdpaaDoorOx6
import Derived.Test.YtlphcdophgkdpaaDoorDecO
namespace Go.Proofs.YtlphcdophgkdpaaDoor.Pure
open Go Go.RowKit Go.Proofs.YtlphcdophgkdpaaDoor.O Go.Proofs.YtlphcdophgkdpaaDoorW.PrintWords Go.Proofs.YtlphcdophgkdpaaDoorW.PrintLast
theorem wfiT {n : Int} (h : (Lit.int .i64 n).wf = true) : -9223372036854775808 ≤ n ∧ n ≤ 9223372036854775807 := by
  have h2 : IntKind.i64.min ≤ n ∧ n ≤ IntKind.i64.max := by simpa [Lit.wf] using h
  have e1 : IntKind.i64.min = -9223372036854775808 := by decide
  have e2 : IntKind.i64.max = 9223372036854775807 := by decide
  omega
theorem name_some (a : Int) : ∃ t : ByteArray, spec_l10Name.f a = some t ∧ impl_OrnamentName.f a = some t ∧ t.size ≤ 5 := by
  unfold spec_l10Name.f impl_OrnamentName.f
  by_cases c1 : a = 1
  · simp only [if_pos c1]; exact ⟨_, rfl, rfl, by decide⟩
  · by_cases c2 : a = 2
    · simp only [if_neg c1, if_pos c2]; exact ⟨_, rfl, rfl, by decide⟩
    · by_cases c3 : a = 3
      · simp only [if_neg c1, if_neg c2, if_pos c3]; exact ⟨_, rfl, rfl, by decide⟩
      · by_cases c4 : a = 4
        · simp only [if_neg c1, if_neg c2, if_neg c3, if_pos c4]; exact ⟨_, rfl, rfl, by decide⟩
        · simp only [if_neg c1, if_neg c2, if_neg c3, if_neg c4]; exact ⟨_, rfl, rfl, by decide⟩
theorem within_in (a b c : Int) : impl_within.f a b c = spec_l00In.f a b c := rfl
theorem ok_same (a b c : Int) : impl_ValidOrnament.f a b c = spec_l10Ok.f a b c := rfl
theorem ok_some (a b c : Int) : ∃ q, spec_l10Ok.f a b c = some q := by
  have h : ∀ a b c, ∃ q, spec_l00In.f a b c = some q := by
    intro a b c
    unfold spec_l00In.f
    split
    · exact ⟨_, rfl⟩
    · exact ⟨_, rfl⟩
  obtain ⟨q1, e1⟩ := h a 1 4
  obtain ⟨q2, e2⟩ := h b (-1200) 1200
  obtain ⟨q3, e3⟩ := h c 1 16
  unfold spec_l10Ok.f
  rw [e1, Option.bind_some, e2, Option.bind_some, e3]
  cases q1
  · exact ⟨_, rfl⟩
  · cases q2
    · exact ⟨_, rfl⟩
    · exact ⟨_, rfl⟩
theorem text_both (a b c : Int) (hb : -9223372036854775808 ≤ b ∧ b ≤ 9223372036854775807) (hc : -9223372036854775808 ≤ c ∧ c ≤ 9223372036854775807) :
    ∃ t, spec_OrnamentText.f 1100 a b c = some t ∧ impl_OrnamentText.f a b c = some t := by
  obtain ⟨q, e⟩ := ok_some a b c
  rw [spec_OrnamentText.f, impl_OrnamentText.f, ok_same, e, Option.bind_some, Option.bind_some]
  cases q
  · exact ⟨_, rfl, rfl⟩
  · rw [if_pos rfl, if_pos rfl]
    obtain ⟨t, n1, n2, ht⟩ := name_some a
    have l1 := itoa_len b hb.1 hb.2
    have l2 := itoa_len c hc.1 hc.2
    have d1 : impl_Decimal.f b = some ⟨(Lib.itoa b).toArray⟩ := by rw [impl_Decimal.f, if_pos hb]
    have d2 : impl_Decimal.f c = some ⟨(Lib.itoa c).toArray⟩ := by rw [impl_Decimal.f, if_pos hc]
    have s1 : (⟨(Lib.itoa b).toArray⟩ : ByteArray).size ≤ 21 := by simpa [ByteArray.size] using l1
    have s2 : (⟨(Lib.itoa c).toArray⟩ : ByteArray).size ≤ 21 := by simpa [ByteArray.size] using l2
    rw [spec_l10Text.f, n1, n2, dec b hb.1 hb.2 1100 (by omega), dec c hc.1 hc.2 1100 (by omega), d1, d2]
    generalize (⟨(Lib.itoa b).toArray⟩ : ByteArray) = B at s1
    generalize (⟨(Lib.itoa c).toArray⟩ : ByteArray) = C at s2
    have g1 : (t ++ (⟨#[32]⟩ : ByteArray)).size = t.size + 1 := by rw [ByteArray.size_append]; rfl
    have g2 : ((t ++ (⟨#[32]⟩ : ByteArray)) ++ B).size = t.size + 1 + B.size := by rw [ByteArray.size_append, g1]
    have g3 : (((t ++ (⟨#[32]⟩ : ByteArray)) ++ B) ++ (⟨#[32]⟩ : ByteArray)).size = t.size + 1 + B.size + 1 := by rw [ByteArray.size_append, g2]; rfl
    simp only [Option.bind_some]
    rw [if_pos (by omega), if_pos (by omega), if_pos (by omega), if_pos (by omega)]
    exact ⟨_, rfl, rfl⟩
theorem FnExactOrnamentText : laws_FnExactOrnamentText.Pure := by
  intro a b c _ hb hc
  refine ⟨1100, ?_⟩
  obtain ⟨t, h1, h2⟩ := text_both a b c (wfiT hb) (wfiT hc)
  rw [laws_FnExactOrnamentText.f, laws_toOrnament.f, Option.bind_some]
  dsimp only
  rw [h1, Option.bind_some, Option.bind_some, h2, Option.bind_some, if_pos rfl]
end Go.Proofs.YtlphcdophgkdpaaDoor.Pure
