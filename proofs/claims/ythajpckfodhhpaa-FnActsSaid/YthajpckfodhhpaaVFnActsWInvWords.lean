import Derived.Test.YthajpckfodhhpaaVFnActsWInv
import Derived.Test.YthajpckfodhhpaaVFnActsWFootNe
namespace Go.Proofs.YthajpckfodhhpaaW.PrintWords
open Go.RowKit
end Go.Proofs.YthajpckfodhhpaaW.PrintWords
namespace Go.Proofs.YthajpckfodhhpaaW.PrintLast
end Go.Proofs.YthajpckfodhhpaaW.PrintLast
