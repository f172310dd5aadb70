import Derived.Test.YtbanogkoaplcdaaVFnExactMapOfWInv
import Derived.Test.YtbanogkoaplcdaaVFnExactMapOfWFootNe
namespace Go.Proofs.YtbanogkoaplcdaaW.PrintWords
open Go.RowKit
end Go.Proofs.YtbanogkoaplcdaaW.PrintWords
namespace Go.Proofs.YtbanogkoaplcdaaW.PrintLast
end Go.Proofs.YtbanogkoaplcdaaW.PrintLast
