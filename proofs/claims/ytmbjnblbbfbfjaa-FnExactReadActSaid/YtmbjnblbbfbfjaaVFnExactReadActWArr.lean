import Derived.Test.YtmbjnblbbfbfjaaVFnExactReadActWWords
namespace Go.Proofs.YtmbjnblbbfbfjaaW.PrintWords
open Go.RowKit
namespace Kd
end Kd
end Go.Proofs.YtmbjnblbbfbfjaaW.PrintWords
