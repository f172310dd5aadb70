import Derived.Test.YtmohbiagcbfkpaaVFnExactLivesOfWWords
import Derived.Test.YtmohbiagcbfkpaaVFnExactLivesOfWLast
namespace Go.Proofs.YtmohbiagcbfkpaaW.PrintWords
open Go.RowKit
namespace Kd
end Kd
end Go.Proofs.YtmohbiagcbfkpaaW.PrintWords
