import Derived.Test.YtmohbiagcbfkpaaVFnExactLivesOfWShare
import Derived.Test.YtmohbiagcbfkpaaVFnExactLivesOfWZeros
namespace Go.Proofs.YtmohbiagcbfkpaaW.PrintWords
open Go.RowKit
namespace Kd
end Kd
end Go.Proofs.YtmohbiagcbfkpaaW.PrintWords
