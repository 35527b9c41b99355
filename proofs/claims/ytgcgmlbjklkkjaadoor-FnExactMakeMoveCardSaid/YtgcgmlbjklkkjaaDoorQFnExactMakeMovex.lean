-- Written by px.py, a program of this session, over the kit's printer: some functions have a definition and a proof of this session's own.
import Derived.Test.YtgcgmlbjklkkjaaDoorQFnExactMakeMovex0
import Derived.Test.YtgcgmlbjklkkjaaDoorQFnExactMakeMovex1
import Derived.Test.YtgcgmlbjklkkjaaDoorQFnExactMakeMovex2
import Derived.Test.YtgcgmlbjklkkjaaDoorQFnExactMakeMovex3
import Derived.Test.YtgcgmlbjklkkjaaDoorQFnExactMakeMovex4
import Derived.Test.YtgcgmlbjklkkjaaDoorQFnExactMakeMovex5
import Derived.Test.YtgcgmlbjklkkjaaDoorQFnExactMakeMovex6
import Derived.Test.YtgcgmlbjklkkjaaDoorQFnExactMakeMovex7
import Derived.Test.YtgcgmlbjklkkjaaDoorQFnExactMakeMovex8
import Derived.Test.YtgcgmlbjklkkjaaDoorQFnExactMakeMovex9
import Derived.Test.YtgcgmlbjklkkjaaDoorQFnExactMakeMovex10
namespace Go.Proofs.YtgcgmlbjklkkjaaDoor.QFnExactMakeMove
open Go.RowKit Go.Proofs.YtgcgmlbjklkkjaaDoorW.PrintWords Go.Proofs.YtgcgmlbjklkkjaaDoorW.PrintLast Go.Proofs.YtgcgmlbjklkkjaaDoorW.PrintMore
attribute [local go_sem] max2_int min2_int max_two min_two max_three min_three max_four min_four   -- for this text's walks alone
set_option linter.unusedVariables false
set_option linter.unusedSimpArgs false

end Go.Proofs.YtgcgmlbjklkkjaaDoor.QFnExactMakeMove
-- squeezed
