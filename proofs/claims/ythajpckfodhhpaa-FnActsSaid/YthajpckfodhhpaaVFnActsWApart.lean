import Derived.Test.YthajpckfodhhpaaVFnActsWWords
import Derived.Test.YthajpckfodhhpaaVFnActsWLast
namespace Go.Proofs.YthajpckfodhhpaaW.PrintWords
open Go.RowKit
namespace Kd
end Kd
end Go.Proofs.YthajpckfodhhpaaW.PrintWords
