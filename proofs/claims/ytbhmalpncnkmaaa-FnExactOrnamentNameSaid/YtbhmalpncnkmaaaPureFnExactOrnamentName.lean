/- The law FnExactOrnamentName over numbers and bytes alone. No condition. -/
import Derived.Test.YtbhmalpncnkmaaaM2x0
import Derived.Test.YtbhmalpncnkmaaaM2x1
namespace Go.Proofs.Ytbhmalpncnkmaaa.Pure
open Go.RowKit Go.Proofs.Ytbhmalpncnkmaaa.M2 Go.Proofs.YtbhmalpncnkmaaaW.PrintWords Go.Proofs.YtbhmalpncnkmaaaW.PrintLast
theorem FnExactOrnamentName : laws_FnExactOrnamentName.Pure := by
  intro a _
  have h : spec_OrnamentName.f a = impl_OrnamentName.f a := by
    rw [spec_OrnamentName.f]
    show (impl_OrnamentName.f a).bind (fun t => some t) = _
    cases impl_OrnamentName.f a <;> rfl
  have g : ∃ s, impl_OrnamentName.f a = some s := by
    rw [impl_OrnamentName.f]
    split
    · exact ⟨_, rfl⟩
    · split
      · exact ⟨_, rfl⟩
      · split
        · exact ⟨_, rfl⟩
        · split
          · exact ⟨_, rfl⟩
          · exact ⟨_, rfl⟩
  obtain ⟨s, g⟩ := g
  rw [laws_FnExactOrnamentName.f, h, g, Option.bind_some, Option.bind_some, if_pos rfl]

end Go.Proofs.Ytbhmalpncnkmaaa.Pure
