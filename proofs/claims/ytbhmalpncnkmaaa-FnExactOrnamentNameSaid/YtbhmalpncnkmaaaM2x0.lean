/- What functions of the given program compute, as plain Lean functions, and that the code comes to just that; by a program of this session over the kit's print. No condition. -/
import Derived.Test.YtbhmalpncnkmaaaProg
import Derived.Below
import Derived.Deep.Draws
import Derived.Deep.AppendLies
import Derived.Maps.AppendAt
import Derived.OwnWalk
import Derived.Laws.BytesArg
import Derived.Laws.MakeOwn
import Derived.Laws.OwnMore
import Derived.Deep.OwnRows
import Derived.Tactics
import Derived.Lib.ConvBytes
import Derived.Laws.Slices
import Derived.WalkKit
import Derived.KernelRfl
import Derived.RowKit3
import Derived.Deep.LoopGhost
import Derived.Deep.QuietTactic
import Derived.BigQuiet
import Derived.WideLaws
import Derived.Deep.DeepCutAuto
import Derived.Deep.CutBlock
import Derived.Deep.RegionHeld3
import Derived.Laws.Rows
import Derived.Lib.AppendStr
import Derived.ArgAppend
import Derived.Laws.IdiomCopy
import Derived.OrdersHeld
import Derived.Laws.BitsLemmas
import Derived.RowKit
import Derived.Lib.SliceRun
import Derived.Test.YtbhmalpncnkmaaaAid
import Derived.Test.YtbhmalpncnkmaaaWWords
import Derived.Test.YtbhmalpncnkmaaaWLast
import Derived.Test.YtbhmalpncnkmaaaWTab
import Derived.Test.YtbhmalpncnkmaaaWFour
import Derived.Test.YtbhmalpncnkmaaaWQPut
import Derived.Test.YtbhmalpncnkmaaaWApart
import Derived.Test.YtbhmalpncnkmaaaWArr
import Derived.Test.YtbhmalpncnkmaaaWZeros
import Derived.Test.YtbhmalpncnkmaaaWFoot
import Derived.Test.YtbhmalpncnkmaaaWKept
import Derived.Test.YtbhmalpncnkmaaaWShare
import Derived.Test.YtbhmalpncnkmaaaWN
import Derived.Test.YtbhmalpncnkmaaaWFootNe
import Derived.Test.YtbhmalpncnkmaaaWAt
import Derived.Test.YtbhmalpncnkmaaaWEqStruct
import Derived.Test.YtbhmalpncnkmaaaWRepsOne
import Derived.Test.YtbhmalpncnkmaaaWInv
import Derived.Test.YtbhmalpncnkmaaaWInvWords
import Derived.Test.YtbhmalpncnkmaaaWGuard
import Derived.Test.YtbhmalpncnkmaaaWNEv
import Derived.Test.YtbhmalpncnkmaaaWMore
namespace Go.Proofs.Ytbhmalpncnkmaaa.M2
open Go.RowKit Go.Proofs.YtbhmalpncnkmaaaW.PrintWords Go.Proofs.YtbhmalpncnkmaaaW.PrintLast Go.Proofs.YtbhmalpncnkmaaaW.PrintMore
attribute [local go_sem] max2_int min2_int max_two min_two max_three min_three max_four min_four   -- for this text's walks alone
set_option linter.unusedVariables false
set_option linter.unusedSimpArgs false



def errW : Option Int → Value
  | none => .nilIface
  | some c => .iface 0 (.int .i64 c)
theorem errW_none : errW none = .nilIface := rfl
theorem errW_some (c : Int) : errW (some c) = .iface 0 (.int .i64 c) := rfl

-- the values' own types

end Go.Proofs.Ytbhmalpncnkmaaa.M2
