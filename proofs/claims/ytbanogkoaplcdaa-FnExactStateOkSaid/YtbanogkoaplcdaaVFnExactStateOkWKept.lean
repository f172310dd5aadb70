import Derived.Test.YtbanogkoaplcdaaVFnExactStateOkWFoot
namespace Go.Proofs.YtbanogkoaplcdaaW.PrintWords
open Go.RowKit
namespace Kd
end Kd
end Go.Proofs.YtbanogkoaplcdaaW.PrintWords
