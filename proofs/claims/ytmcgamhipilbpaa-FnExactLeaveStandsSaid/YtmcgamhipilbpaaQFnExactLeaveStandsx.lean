-- Written by px.py, a program of this session, over the kit's printer: some functions have a definition and a proof of this session's own.
import Derived.Test.YtmcgamhipilbpaaQFnExactLeaveStandsx0
import Derived.Test.YtmcgamhipilbpaaQFnExactLeaveStandsx1
import Derived.Test.YtmcgamhipilbpaaQFnExactLeaveStandsx2
import Derived.Test.YtmcgamhipilbpaaQFnExactLeaveStandsx3
import Derived.Test.YtmcgamhipilbpaaQFnExactLeaveStandsx4
import Derived.Test.YtmcgamhipilbpaaQFnExactLeaveStandsx5
import Derived.Test.YtmcgamhipilbpaaQFnExactLeaveStandsx6
import Derived.Test.YtmcgamhipilbpaaQFnExactLeaveStandsx7
namespace Go.Proofs.Ytmcgamhipilbpaa.QFnExactLeaveStands
open Go.RowKit Go.Proofs.YtmcgamhipilbpaaW.PrintWords Go.Proofs.YtmcgamhipilbpaaW.PrintLast Go.Proofs.YtmcgamhipilbpaaW.PrintMore
attribute [local go_sem] max2_int min2_int max_two min_two max_three min_three max_four min_four   -- for this text's walks alone
set_option linter.unusedVariables false
set_option linter.unusedSimpArgs false

end Go.Proofs.Ytmcgamhipilbpaa.QFnExactLeaveStands
