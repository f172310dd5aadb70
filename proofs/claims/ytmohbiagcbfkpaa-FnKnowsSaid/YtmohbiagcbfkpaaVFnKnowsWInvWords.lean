import Derived.Test.YtmohbiagcbfkpaaVFnKnowsWInv
import Derived.Test.YtmohbiagcbfkpaaVFnKnowsWFootNe
namespace Go.Proofs.YtmohbiagcbfkpaaW.PrintWords
open Go.RowKit
end Go.Proofs.YtmohbiagcbfkpaaW.PrintWords
namespace Go.Proofs.YtmohbiagcbfkpaaW.PrintLast
end Go.Proofs.YtmohbiagcbfkpaaW.PrintLast
