-- Cut by pruneall.py out of the words that the kit's print.sh lays: only the declarations that this claim's texts name.
import Derived.Test.YtlmeijlandogaaaDoorWTab
namespace Go.Proofs.YtlmeijlandogaaaDoorW.PrintLast
def up (b : Nat → Bool) (i : Nat) : Nat → Bool := fun j => if j = i then true else b j
end Go.Proofs.YtlmeijlandogaaaDoorW.PrintLast
