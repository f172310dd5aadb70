/- What the functions behind Act compute, and that the program's calls come to just that. Written by a program of this session on the base of the kit's print. No condition. -/
import Derived.Test.YtmohbiagcbfkpaaVFnExactStateNewQActx0
import Derived.Test.YtmohbiagcbfkpaaVFnExactStateNewQActx1
namespace Go.Proofs.Ytmohbiagcbfkpaa.QAct
open Go.RowKit Go.Proofs.YtmohbiagcbfkpaaW.PrintWords Go.Proofs.YtmohbiagcbfkpaaW.PrintLast Go.Proofs.YtmohbiagcbfkpaaW.PrintMore
attribute [local go_sem] max2_int min2_int max_two min_two max_three min_three max_four min_four   -- for this text's walks alone
set_option linter.unusedVariables false
set_option linter.unusedSimpArgs false
attribute [local go_sem high] eqA29
end Go.Proofs.Ytmohbiagcbfkpaa.QAct
