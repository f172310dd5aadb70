/- How a struct that comes in is read: its cells as values of the printed kinds. Used by the rows of the laws that take structs. No condition. -/
import Derived.Test.YtmbjnblbbfbfjaaVFnExactReadActWWords
import Derived.Deep.Slices
import Derived.ChangeArms
import Derived.DataReads
namespace Go.Proofs.Ytmbjnblbbfbfjaa.Open
open Go.RowKit Go.Deep Go.ChangeShapes Go.WideShapes Go.Proofs.YtmbjnblbbfbfjaaW.PrintWords
end Go.Proofs.Ytmbjnblbbfbfjaa.Open
