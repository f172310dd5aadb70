import Derived.Test.YtmbjnblbbfbfjaaVFnExactReadActWApart
import Derived.Test.YtmbjnblbbfbfjaaVFnExactReadActWArr
namespace Go.Proofs.YtmbjnblbbfbfjaaW.PrintWords
open Go.RowKit
namespace Kd
end Kd
end Go.Proofs.YtmbjnblbbfbfjaaW.PrintWords
