-- Cut by pruneall.py out of the words that the kit's print.sh lays: only the declarations that this claim's texts name.
import Derived.Test.YtijbhcalknfijaaWWords
import Derived.Laws.StructEq
namespace Go.Proofs.YtijbhcalknfijaaW.PrintWords
open Go.RowKit
end Go.Proofs.YtijbhcalknfijaaW.PrintWords
