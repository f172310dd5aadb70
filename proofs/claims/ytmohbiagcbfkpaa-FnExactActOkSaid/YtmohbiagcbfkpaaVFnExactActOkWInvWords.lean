import Derived.Test.YtmohbiagcbfkpaaVFnExactActOkWInv
import Derived.Test.YtmohbiagcbfkpaaVFnExactActOkWFootNe
namespace Go.Proofs.YtmohbiagcbfkpaaW.PrintWords
open Go.RowKit
end Go.Proofs.YtmohbiagcbfkpaaW.PrintWords
namespace Go.Proofs.YtmohbiagcbfkpaaW.PrintLast
end Go.Proofs.YtmohbiagcbfkpaaW.PrintLast
