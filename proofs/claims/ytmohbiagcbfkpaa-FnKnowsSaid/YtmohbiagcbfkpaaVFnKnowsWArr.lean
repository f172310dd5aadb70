import Derived.Test.YtmohbiagcbfkpaaVFnKnowsWWords
namespace Go.Proofs.YtmohbiagcbfkpaaW.PrintWords
open Go.RowKit
namespace Kd
end Kd
end Go.Proofs.YtmohbiagcbfkpaaW.PrintWords
