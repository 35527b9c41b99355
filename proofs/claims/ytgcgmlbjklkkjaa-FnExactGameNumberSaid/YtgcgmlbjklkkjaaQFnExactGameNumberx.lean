-- Written by px.py, a program of this session, over the kit's printer: some functions have a definition and a proof of this session's own.
import Derived.Test.YtgcgmlbjklkkjaaQFnExactGameNumberx0
import Derived.Test.YtgcgmlbjklkkjaaQFnExactGameNumberx1
import Derived.Test.YtgcgmlbjklkkjaaQFnExactGameNumberx2
import Derived.Test.YtgcgmlbjklkkjaaQFnExactGameNumberx3
import Derived.Test.YtgcgmlbjklkkjaaQFnExactGameNumberx4
import Derived.Test.YtgcgmlbjklkkjaaQFnExactGameNumberx5
import Derived.Test.YtgcgmlbjklkkjaaQFnExactGameNumberx6
import Derived.Test.YtgcgmlbjklkkjaaQFnExactGameNumberx7
import Derived.Test.YtgcgmlbjklkkjaaQFnExactGameNumberx8
import Derived.Test.YtgcgmlbjklkkjaaQFnExactGameNumberx9
import Derived.Test.YtgcgmlbjklkkjaaQFnExactGameNumberx10
import Derived.Test.YtgcgmlbjklkkjaaQFnExactGameNumberx11
import Derived.Test.YtgcgmlbjklkkjaaQFnExactGameNumberx12
import Derived.Test.YtgcgmlbjklkkjaaQFnExactGameNumberx13
namespace Go.Proofs.Ytgcgmlbjklkkjaa.QFnExactGameNumber
open Go.RowKit Go.Proofs.YtgcgmlbjklkkjaaW.PrintWords Go.Proofs.YtgcgmlbjklkkjaaW.PrintLast Go.Proofs.YtgcgmlbjklkkjaaW.PrintMore
attribute [local go_sem] max2_int min2_int max_two min_two max_three min_three max_four min_four   -- for this text's walks alone
set_option linter.unusedVariables false
set_option linter.unusedSimpArgs false

end Go.Proofs.Ytgcgmlbjklkkjaa.QFnExactGameNumber
-- squeezed
