import Derived.Test.YtbanogkoaplcdaaVFnExactStateOkWShare
import Derived.Test.YtbanogkoaplcdaaVFnExactStateOkWZeros
namespace Go.Proofs.YtbanogkoaplcdaaW.PrintWords
open Go.RowKit
namespace Kd
end Kd
end Go.Proofs.YtbanogkoaplcdaaW.PrintWords
