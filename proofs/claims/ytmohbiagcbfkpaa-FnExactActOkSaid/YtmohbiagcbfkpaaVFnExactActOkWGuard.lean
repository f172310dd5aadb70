import Derived.Test.YtmohbiagcbfkpaaVFnExactActOkWWords
namespace Go.Proofs.YtmohbiagcbfkpaaW.PrintWords
open Go.RowKit
end Go.Proofs.YtmohbiagcbfkpaaW.PrintWords
