import Derived.Test.YtbanogkoaplcdaaVFnExactMapOfWWords
import Derived.Laws.StructEq
namespace Go.Proofs.YtbanogkoaplcdaaW.PrintWords
open Go.RowKit
end Go.Proofs.YtbanogkoaplcdaaW.PrintWords
