-- Cut by pruneall.py out of the words that the kit's print.sh lays: only the declarations that this claim's texts name.
import Derived.Test.YtlmeijlandogaaaDoorWInv
import Derived.Test.YtlmeijlandogaaaDoorWFootNe
namespace Go.Proofs.YtlmeijlandogaaaDoorW.PrintWords
open Go.RowKit
end Go.Proofs.YtlmeijlandogaaaDoorW.PrintWords
namespace Go.Proofs.YtlmeijlandogaaaDoorW.PrintLast
end Go.Proofs.YtlmeijlandogaaaDoorW.PrintLast
