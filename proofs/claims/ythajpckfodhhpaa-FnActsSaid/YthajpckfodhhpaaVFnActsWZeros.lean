import Derived.Test.YthajpckfodhhpaaVFnActsWApart
import Derived.Test.YthajpckfodhhpaaVFnActsWArr
namespace Go.Proofs.YthajpckfodhhpaaW.PrintWords
open Go.RowKit
namespace Kd
end Kd
end Go.Proofs.YthajpckfodhhpaaW.PrintWords
