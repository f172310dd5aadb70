import Derived.Test.YthajpckfodhhpaaVFnActsWShare
import Derived.Test.YthajpckfodhhpaaVFnActsWZeros
namespace Go.Proofs.YthajpckfodhhpaaW.PrintWords
open Go.RowKit
namespace Kd
end Kd
end Go.Proofs.YthajpckfodhhpaaW.PrintWords
