import Derived.Test.YtmohbiagcbfkpaaVFnExactActTextWWords
namespace Go.Proofs.YtmohbiagcbfkpaaW.PrintWords
open Go.RowKit
end Go.Proofs.YtmohbiagcbfkpaaW.PrintWords
