import Derived.Test.YtbanogkoaplcdaaVFnExactMapOfWWords
namespace Go.Proofs.YtbanogkoaplcdaaW.PrintWords
open Go.RowKit
end Go.Proofs.YtbanogkoaplcdaaW.PrintWords
