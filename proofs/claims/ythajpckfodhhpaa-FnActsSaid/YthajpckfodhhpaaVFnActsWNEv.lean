import Derived.Test.YthajpckfodhhpaaVFnActsWN
namespace Go.Proofs.YthajpckfodhhpaaW.PrintWords
open Go.RowKit
namespace Kd
end Kd
end Go.Proofs.YthajpckfodhhpaaW.PrintWords
