import Derived.Test.YtmbjnblbbfbfjaaVFnExactReadActWWords
import Derived.Test.YtmbjnblbbfbfjaaVFnExactReadActWLast
namespace Go.Proofs.YtmbjnblbbfbfjaaW.PrintWords
open Go.RowKit
namespace Kd
end Kd
end Go.Proofs.YtmbjnblbbfbfjaaW.PrintWords
