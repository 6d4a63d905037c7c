-- Cut by pruneall.py out of the words that the kit's print.sh lays: only the declarations that this claim's texts name.
import Derived.Test.YteljnbhbpidjpaaWInv
import Derived.Test.YteljnbhbpidjpaaWFootNe
namespace Go.Proofs.YteljnbhbpidjpaaW.PrintWords
open Go.RowKit
end Go.Proofs.YteljnbhbpidjpaaW.PrintWords
namespace Go.Proofs.YteljnbhbpidjpaaW.PrintLast
end Go.Proofs.YteljnbhbpidjpaaW.PrintLast
