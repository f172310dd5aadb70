import Derived.Test.YtmohbiagcbfkpaaVFnKnowsWWords
import Derived.Test.YtmohbiagcbfkpaaVFnKnowsWLast
namespace Go.Proofs.YtmohbiagcbfkpaaW.PrintWords
open Go.RowKit
namespace Kd
end Kd
end Go.Proofs.YtmohbiagcbfkpaaW.PrintWords
