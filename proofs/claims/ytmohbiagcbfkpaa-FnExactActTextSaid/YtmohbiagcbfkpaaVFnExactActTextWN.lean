import Derived.Test.YtmohbiagcbfkpaaVFnExactActTextWShare
import Derived.Test.YtmohbiagcbfkpaaVFnExactActTextWZeros
namespace Go.Proofs.YtmohbiagcbfkpaaW.PrintWords
open Go.RowKit
namespace Kd
end Kd
end Go.Proofs.YtmohbiagcbfkpaaW.PrintWords
