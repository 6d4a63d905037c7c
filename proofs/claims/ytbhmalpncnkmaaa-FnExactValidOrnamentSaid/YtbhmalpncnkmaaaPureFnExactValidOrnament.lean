/- The law FnExactValidOrnament over numbers alone. No condition. -/
import Derived.Test.YtbhmalpncnkmaaaMx0
import Derived.Test.YtbhmalpncnkmaaaMx2
import Derived.Test.YtbhmalpncnkmaaaMx3
import Derived.Test.YtbhmalpncnkmaaaMel
namespace Go.Proofs.Ytbhmalpncnkmaaa.Pure
open Go.RowKit Go.Proofs.Ytbhmalpncnkmaaa.M Go.Proofs.YtbhmalpncnkmaaaW.PrintWords Go.Proofs.YtbhmalpncnkmaaaW.PrintLast
theorem FnExactValidOrnament : laws_FnExactValidOrnament.Pure := by
  intro a b c _ _ _
  rw [laws_FnExactValidOrnament.f]
  simp only [laws_toOrnament.f, Option.bind_some, spec_ValidOrnament.f, spec_l10Ok.f, impl_ValidOrnament.f, specIn, implIn]
  cases inB a 1 4 <;> cases inB b (-1200) 1200 <;> cases inB c 1 16 <;> simp

end Go.Proofs.Ytbhmalpncnkmaaa.Pure
