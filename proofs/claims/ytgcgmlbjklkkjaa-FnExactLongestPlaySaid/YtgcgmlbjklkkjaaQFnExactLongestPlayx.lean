-- Written by px.py, a program of this session, over the kit's printer: some functions have a definition and a proof of this session's own.
import Derived.Test.YtgcgmlbjklkkjaaQFnExactLongestPlayx0
import Derived.Test.YtgcgmlbjklkkjaaQFnExactLongestPlayx1
import Derived.Test.YtgcgmlbjklkkjaaQFnExactLongestPlayx2
import Derived.Test.YtgcgmlbjklkkjaaQFnExactLongestPlayx3
import Derived.Test.YtgcgmlbjklkkjaaQFnExactLongestPlayx4
import Derived.Test.YtgcgmlbjklkkjaaQFnExactLongestPlayx5
import Derived.Test.YtgcgmlbjklkkjaaQFnExactLongestPlayx6
import Derived.Test.YtgcgmlbjklkkjaaQFnExactLongestPlayx7
import Derived.Test.YtgcgmlbjklkkjaaQFnExactLongestPlayx8
import Derived.Test.YtgcgmlbjklkkjaaQFnExactLongestPlayx9
import Derived.Test.YtgcgmlbjklkkjaaQFnExactLongestPlayx10
import Derived.Test.YtgcgmlbjklkkjaaQFnExactLongestPlayx11
namespace Go.Proofs.Ytgcgmlbjklkkjaa.QFnExactLongestPlay
open Go.RowKit Go.Proofs.YtgcgmlbjklkkjaaW.PrintWords Go.Proofs.YtgcgmlbjklkkjaaW.PrintLast Go.Proofs.YtgcgmlbjklkkjaaW.PrintMore
attribute [local go_sem] max2_int min2_int max_two min_two max_three min_three max_four min_four   -- for this text's walks alone
set_option linter.unusedVariables false
set_option linter.unusedSimpArgs false

end Go.Proofs.Ytgcgmlbjklkkjaa.QFnExactLongestPlay
