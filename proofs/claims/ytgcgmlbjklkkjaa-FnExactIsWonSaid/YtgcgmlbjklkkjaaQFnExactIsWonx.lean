-- Written by px.py, a program of this session, over the kit's printer: some functions have a definition and a proof of this session's own.
import Derived.Test.YtgcgmlbjklkkjaaQFnExactIsWonx0
import Derived.Test.YtgcgmlbjklkkjaaQFnExactIsWonx1
import Derived.Test.YtgcgmlbjklkkjaaQFnExactIsWonx2
import Derived.Test.YtgcgmlbjklkkjaaQFnExactIsWonx3
import Derived.Test.YtgcgmlbjklkkjaaQFnExactIsWonx4
import Derived.Test.YtgcgmlbjklkkjaaQFnExactIsWonx5
import Derived.Test.YtgcgmlbjklkkjaaQFnExactIsWonx6
import Derived.Test.YtgcgmlbjklkkjaaQFnExactIsWonx7
import Derived.Test.YtgcgmlbjklkkjaaQFnExactIsWonx8
import Derived.Test.YtgcgmlbjklkkjaaQFnExactIsWonx9
import Derived.Test.YtgcgmlbjklkkjaaQFnExactIsWonx10
import Derived.Test.YtgcgmlbjklkkjaaQFnExactIsWonx11
import Derived.Test.YtgcgmlbjklkkjaaQFnExactIsWonx12
import Derived.Test.YtgcgmlbjklkkjaaQFnExactIsWonx13
namespace Go.Proofs.Ytgcgmlbjklkkjaa.QFnExactIsWon
open Go.RowKit Go.Proofs.YtgcgmlbjklkkjaaW.PrintWords Go.Proofs.YtgcgmlbjklkkjaaW.PrintLast Go.Proofs.YtgcgmlbjklkkjaaW.PrintMore
attribute [local go_sem] max2_int min2_int max_two min_two max_three min_three max_four min_four   -- for this text's walks alone
set_option linter.unusedVariables false
set_option linter.unusedSimpArgs false

end Go.Proofs.Ytgcgmlbjklkkjaa.QFnExactIsWon
-- squeezed
