-- Written by px.py, a program of this session, over the kit's printer: some functions have a definition and a proof of this session's own.
import Derived.Test.YtgcgmlbjklkkjaaQFnExactFirstWithx0
import Derived.Test.YtgcgmlbjklkkjaaQFnExactFirstWithx1
import Derived.Test.YtgcgmlbjklkkjaaQFnExactFirstWithx2
import Derived.Test.YtgcgmlbjklkkjaaQFnExactFirstWithx3
import Derived.Test.YtgcgmlbjklkkjaaQFnExactFirstWithx4
import Derived.Test.YtgcgmlbjklkkjaaQFnExactFirstWithx5
import Derived.Test.YtgcgmlbjklkkjaaQFnExactFirstWithx6
import Derived.Test.YtgcgmlbjklkkjaaQFnExactFirstWithx7
import Derived.Test.YtgcgmlbjklkkjaaQFnExactFirstWithx8
import Derived.Test.YtgcgmlbjklkkjaaQFnExactFirstWithx9
import Derived.Test.YtgcgmlbjklkkjaaQFnExactFirstWithx10
import Derived.Test.YtgcgmlbjklkkjaaQFnExactFirstWithx11
namespace Go.Proofs.Ytgcgmlbjklkkjaa.QFnExactFirstWith
open Go.RowKit Go.Proofs.YtgcgmlbjklkkjaaW.PrintWords Go.Proofs.YtgcgmlbjklkkjaaW.PrintLast Go.Proofs.YtgcgmlbjklkkjaaW.PrintMore
attribute [local go_sem] max2_int min2_int max_two min_two max_three min_three max_four min_four   -- for this text's walks alone
set_option linter.unusedVariables false
set_option linter.unusedSimpArgs false

end Go.Proofs.Ytgcgmlbjklkkjaa.QFnExactFirstWith
