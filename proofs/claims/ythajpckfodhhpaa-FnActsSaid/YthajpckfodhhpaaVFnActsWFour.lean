import Derived.Test.YthajpckfodhhpaaVFnActsWTab
namespace Go.Proofs.YthajpckfodhhpaaW.PrintLast
end Go.Proofs.YthajpckfodhhpaaW.PrintLast
