import Derived.Test.YthajpckfodhhpaaVFnActsWKept
namespace Go.Proofs.YthajpckfodhhpaaW.PrintWords
open Go.RowKit
namespace Foot
variable {P Q : World → Prop} {W W1 : World} {ok ok' : Nat → Prop}
end Foot
namespace Kd
end Kd
end Go.Proofs.YthajpckfodhhpaaW.PrintWords
