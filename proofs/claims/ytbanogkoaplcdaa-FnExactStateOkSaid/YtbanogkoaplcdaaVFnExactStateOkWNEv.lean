import Derived.Test.YtbanogkoaplcdaaVFnExactStateOkWN
namespace Go.Proofs.YtbanogkoaplcdaaW.PrintWords
open Go.RowKit
namespace Kd
end Kd
end Go.Proofs.YtbanogkoaplcdaaW.PrintWords
