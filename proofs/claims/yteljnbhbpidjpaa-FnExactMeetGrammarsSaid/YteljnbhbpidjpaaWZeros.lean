-- Cut by pruneall.py out of the words that the kit's print.sh lays: only the declarations that this claim's texts name.
import Derived.Test.YteljnbhbpidjpaaWApart
import Derived.Test.YteljnbhbpidjpaaWArr
namespace Go.Proofs.YteljnbhbpidjpaaW.PrintWords
open Go.RowKit
namespace Kd
end Kd
end Go.Proofs.YteljnbhbpidjpaaW.PrintWords
