import Derived.Test.YtmohbiagcbfkpaaVFnExactStateNewWShare
import Derived.Test.YtmohbiagcbfkpaaVFnExactStateNewWZeros
namespace Go.Proofs.YtmohbiagcbfkpaaW.PrintWords
open Go.RowKit
namespace Kd
end Kd
end Go.Proofs.YtmohbiagcbfkpaaW.PrintWords
