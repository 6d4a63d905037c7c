-- Cut by pruneall.py out of the words that the kit's print.sh lays: only the declarations that this claim's texts name.
import Derived.Test.YtlmeijlandogaaaDoorWTab
namespace Go.Proofs.YtlmeijlandogaaaDoorW.PrintLast
end Go.Proofs.YtlmeijlandogaaaDoorW.PrintLast
