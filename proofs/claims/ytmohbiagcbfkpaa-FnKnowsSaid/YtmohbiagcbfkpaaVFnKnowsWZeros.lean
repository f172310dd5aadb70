import Derived.Test.YtmohbiagcbfkpaaVFnKnowsWApart
import Derived.Test.YtmohbiagcbfkpaaVFnKnowsWArr
namespace Go.Proofs.YtmohbiagcbfkpaaW.PrintWords
open Go.RowKit
namespace Kd
end Kd
end Go.Proofs.YtmohbiagcbfkpaaW.PrintWords
