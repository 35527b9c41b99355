-- Written by px.py, a program of this session, over the kit's printer: some functions have a definition and a proof of this session's own.
import Derived.Test.YtgcgmlbjklkkjaaQFnExactBestPlayx0
import Derived.Test.YtgcgmlbjklkkjaaQFnExactBestPlayx1
import Derived.Test.YtgcgmlbjklkkjaaQFnExactBestPlayx2
import Derived.Test.YtgcgmlbjklkkjaaQFnExactBestPlayx3
import Derived.Test.YtgcgmlbjklkkjaaQFnExactBestPlayx4
import Derived.Test.YtgcgmlbjklkkjaaQFnExactBestPlayx5
import Derived.Test.YtgcgmlbjklkkjaaQFnExactBestPlayx6
import Derived.Test.YtgcgmlbjklkkjaaQFnExactBestPlayx7
import Derived.Test.YtgcgmlbjklkkjaaQFnExactBestPlayx8
import Derived.Test.YtgcgmlbjklkkjaaQFnExactBestPlayx9
import Derived.Test.YtgcgmlbjklkkjaaQFnExactBestPlayx10
import Derived.Test.YtgcgmlbjklkkjaaQFnExactBestPlayx11
import Derived.Test.YtgcgmlbjklkkjaaQFnExactBestPlayx12
import Derived.Test.YtgcgmlbjklkkjaaQFnExactBestPlayx13
import Derived.Test.YtgcgmlbjklkkjaaQFnExactBestPlayx14
import Derived.Test.YtgcgmlbjklkkjaaQFnExactBestPlayx15
import Derived.Test.YtgcgmlbjklkkjaaQFnExactBestPlayx16
import Derived.Test.YtgcgmlbjklkkjaaQFnExactBestPlayx17
import Derived.Test.YtgcgmlbjklkkjaaQFnExactBestPlayx18
namespace Go.Proofs.Ytgcgmlbjklkkjaa.QFnExactBestPlay
open Go.RowKit Go.Proofs.YtgcgmlbjklkkjaaW.PrintWords Go.Proofs.YtgcgmlbjklkkjaaW.PrintLast Go.Proofs.YtgcgmlbjklkkjaaW.PrintMore
attribute [local go_sem] max2_int min2_int max_two min_two max_three min_three max_four min_four   -- for this text's walks alone
set_option linter.unusedVariables false
set_option linter.unusedSimpArgs false

end Go.Proofs.Ytgcgmlbjklkkjaa.QFnExactBestPlay
-- squeezed
