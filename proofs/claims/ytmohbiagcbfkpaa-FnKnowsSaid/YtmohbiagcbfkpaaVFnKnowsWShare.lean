import Derived.Test.YtmohbiagcbfkpaaVFnKnowsWKept
namespace Go.Proofs.YtmohbiagcbfkpaaW.PrintWords
open Go.RowKit
namespace Foot
variable {P Q : World → Prop} {W W1 : World} {ok ok' : Nat → Prop}
end Foot
namespace Kd
end Kd
end Go.Proofs.YtmohbiagcbfkpaaW.PrintWords
