-- Written by px.py, a program of this session, over the kit's printer: some functions have a definition and a proof of this session's own.
import Derived.Test.YtgcgmlbjklkkjaaQFnExactReverseWonx0
import Derived.Test.YtgcgmlbjklkkjaaQFnExactReverseWonx1
import Derived.Test.YtgcgmlbjklkkjaaQFnExactReverseWonx2
import Derived.Test.YtgcgmlbjklkkjaaQFnExactReverseWonx3
import Derived.Test.YtgcgmlbjklkkjaaQFnExactReverseWonx4
import Derived.Test.YtgcgmlbjklkkjaaQFnExactReverseWonx5
import Derived.Test.YtgcgmlbjklkkjaaQFnExactReverseWonx6
import Derived.Test.YtgcgmlbjklkkjaaQFnExactReverseWonx7
import Derived.Test.YtgcgmlbjklkkjaaQFnExactReverseWonx8
import Derived.Test.YtgcgmlbjklkkjaaQFnExactReverseWonx9
namespace Go.Proofs.Ytgcgmlbjklkkjaa.QFnExactReverseWon
open Go.RowKit Go.Proofs.YtgcgmlbjklkkjaaW.PrintWords Go.Proofs.YtgcgmlbjklkkjaaW.PrintLast Go.Proofs.YtgcgmlbjklkkjaaW.PrintMore
attribute [local go_sem] max2_int min2_int max_two min_two max_three min_three max_four min_four   -- for this text's walks alone
set_option linter.unusedVariables false
set_option linter.unusedSimpArgs false

end Go.Proofs.Ytgcgmlbjklkkjaa.QFnExactReverseWon
