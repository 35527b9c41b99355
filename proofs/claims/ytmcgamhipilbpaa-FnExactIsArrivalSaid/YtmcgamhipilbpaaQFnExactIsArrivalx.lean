-- Written by px.py, a program of this session, over the kit's printer: some functions have a definition and a proof of this session's own.
import Derived.Test.YtmcgamhipilbpaaQFnExactIsArrivalx0
import Derived.Test.YtmcgamhipilbpaaQFnExactIsArrivalx1
import Derived.Test.YtmcgamhipilbpaaQFnExactIsArrivalx2
import Derived.Test.YtmcgamhipilbpaaQFnExactIsArrivalx3
import Derived.Test.YtmcgamhipilbpaaQFnExactIsArrivalx4
import Derived.Test.YtmcgamhipilbpaaQFnExactIsArrivalx5
namespace Go.Proofs.Ytmcgamhipilbpaa.QFnExactIsArrival
open Go.RowKit Go.Proofs.YtmcgamhipilbpaaW.PrintWords Go.Proofs.YtmcgamhipilbpaaW.PrintLast Go.Proofs.YtmcgamhipilbpaaW.PrintMore
attribute [local go_sem] max2_int min2_int max_two min_two max_three min_three max_four min_four   -- for this text's walks alone
set_option linter.unusedVariables false
set_option linter.unusedSimpArgs false

end Go.Proofs.Ytmcgamhipilbpaa.QFnExactIsArrival
