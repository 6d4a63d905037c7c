-- Cut by pruneall.py out of the words that the kit's print.sh lays: only the declarations that this claim's texts name.
import Derived.Test.YteljnbhbpidjpaaWTab
namespace Go.Proofs.YteljnbhbpidjpaaW.PrintLast
end Go.Proofs.YteljnbhbpidjpaaW.PrintLast
