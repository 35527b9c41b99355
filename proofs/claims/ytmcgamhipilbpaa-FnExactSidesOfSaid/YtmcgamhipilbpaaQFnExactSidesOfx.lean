-- Written by px.py, a program of this session, over the kit's printer: some functions have a definition and a proof of this session's own.
import Derived.Test.YtmcgamhipilbpaaQFnExactSidesOfx0
import Derived.Test.YtmcgamhipilbpaaQFnExactSidesOfx1
import Derived.Test.YtmcgamhipilbpaaQFnExactSidesOfx2
import Derived.Test.YtmcgamhipilbpaaQFnExactSidesOfx3
import Derived.Test.YtmcgamhipilbpaaQFnExactSidesOfx4
import Derived.Test.YtmcgamhipilbpaaQFnExactSidesOfx5
import Derived.Test.YtmcgamhipilbpaaQFnExactSidesOfx6
import Derived.Test.YtmcgamhipilbpaaQFnExactSidesOfx7
import Derived.Test.YtmcgamhipilbpaaQFnExactSidesOfx8
import Derived.Test.YtmcgamhipilbpaaQFnExactSidesOfx9
import Derived.Test.YtmcgamhipilbpaaQFnExactSidesOfx10
namespace Go.Proofs.Ytmcgamhipilbpaa.QFnExactSidesOf
open Go.RowKit Go.Proofs.YtmcgamhipilbpaaW.PrintWords Go.Proofs.YtmcgamhipilbpaaW.PrintLast Go.Proofs.YtmcgamhipilbpaaW.PrintMore
attribute [local go_sem] max2_int min2_int max_two min_two max_three min_three max_four min_four   -- for this text's walks alone
set_option linter.unusedVariables false
set_option linter.unusedSimpArgs false

end Go.Proofs.Ytmcgamhipilbpaa.QFnExactSidesOf
