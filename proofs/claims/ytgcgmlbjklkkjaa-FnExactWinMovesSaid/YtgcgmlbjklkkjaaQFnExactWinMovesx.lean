-- Written by px.py, a program of this session, over the kit's printer: some functions have a definition and a proof of this session's own.
import Derived.Test.YtgcgmlbjklkkjaaQFnExactWinMovesx0
import Derived.Test.YtgcgmlbjklkkjaaQFnExactWinMovesx1
import Derived.Test.YtgcgmlbjklkkjaaQFnExactWinMovesx2
import Derived.Test.YtgcgmlbjklkkjaaQFnExactWinMovesx3
import Derived.Test.YtgcgmlbjklkkjaaQFnExactWinMovesx4
import Derived.Test.YtgcgmlbjklkkjaaQFnExactWinMovesx5
import Derived.Test.YtgcgmlbjklkkjaaQFnExactWinMovesx6
import Derived.Test.YtgcgmlbjklkkjaaQFnExactWinMovesx7
import Derived.Test.YtgcgmlbjklkkjaaQFnExactWinMovesx8
import Derived.Test.YtgcgmlbjklkkjaaQFnExactWinMovesx9
import Derived.Test.YtgcgmlbjklkkjaaQFnExactWinMovesx10
import Derived.Test.YtgcgmlbjklkkjaaQFnExactWinMovesx11
import Derived.Test.YtgcgmlbjklkkjaaQFnExactWinMovesx12
import Derived.Test.YtgcgmlbjklkkjaaQFnExactWinMovesx13
import Derived.Test.YtgcgmlbjklkkjaaQFnExactWinMovesx14
import Derived.Test.YtgcgmlbjklkkjaaQFnExactWinMovesx15
import Derived.Test.YtgcgmlbjklkkjaaQFnExactWinMovesx16
import Derived.Test.YtgcgmlbjklkkjaaQFnExactWinMovesx17
import Derived.Test.YtgcgmlbjklkkjaaQFnExactWinMovesx18
namespace Go.Proofs.Ytgcgmlbjklkkjaa.QFnExactWinMoves
open Go.RowKit Go.Proofs.YtgcgmlbjklkkjaaW.PrintWords Go.Proofs.YtgcgmlbjklkkjaaW.PrintLast Go.Proofs.YtgcgmlbjklkkjaaW.PrintMore
attribute [local go_sem] max2_int min2_int max_two min_two max_three min_three max_four min_four   -- for this text's walks alone
set_option linter.unusedVariables false
set_option linter.unusedSimpArgs false

end Go.Proofs.Ytgcgmlbjklkkjaa.QFnExactWinMoves
-- squeezed
