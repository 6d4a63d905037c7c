-- Cut by pruneall.py out of the words that the kit's print.sh lays: only the declarations that this claim's texts name.
import Derived.Test.YteljnbhbpidjpaaWWords
import Derived.Laws.StructEq
namespace Go.Proofs.YteljnbhbpidjpaaW.PrintWords
open Go.RowKit
end Go.Proofs.YteljnbhbpidjpaaW.PrintWords
