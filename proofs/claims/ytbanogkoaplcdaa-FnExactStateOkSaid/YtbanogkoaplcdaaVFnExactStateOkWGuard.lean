import Derived.Test.YtbanogkoaplcdaaVFnExactStateOkWWords
namespace Go.Proofs.YtbanogkoaplcdaaW.PrintWords
open Go.RowKit
end Go.Proofs.YtbanogkoaplcdaaW.PrintWords
