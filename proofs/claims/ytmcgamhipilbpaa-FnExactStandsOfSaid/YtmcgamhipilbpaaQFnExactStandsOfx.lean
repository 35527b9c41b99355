-- Written by px.py, a program of this session, over the kit's printer: some functions have a definition and a proof of this session's own.
import Derived.Test.YtmcgamhipilbpaaQFnExactStandsOfx0
import Derived.Test.YtmcgamhipilbpaaQFnExactStandsOfx1
import Derived.Test.YtmcgamhipilbpaaQFnExactStandsOfx2
import Derived.Test.YtmcgamhipilbpaaQFnExactStandsOfx3
import Derived.Test.YtmcgamhipilbpaaQFnExactStandsOfx4
import Derived.Test.YtmcgamhipilbpaaQFnExactStandsOfx5
import Derived.Test.YtmcgamhipilbpaaQFnExactStandsOfx6
import Derived.Test.YtmcgamhipilbpaaQFnExactStandsOfx7
import Derived.Test.YtmcgamhipilbpaaQFnExactStandsOfx8
import Derived.Test.YtmcgamhipilbpaaQFnExactStandsOfx9
import Derived.Test.YtmcgamhipilbpaaQFnExactStandsOfx10
namespace Go.Proofs.Ytmcgamhipilbpaa.QFnExactStandsOf
open Go.RowKit Go.Proofs.YtmcgamhipilbpaaW.PrintWords Go.Proofs.YtmcgamhipilbpaaW.PrintLast Go.Proofs.YtmcgamhipilbpaaW.PrintMore
attribute [local go_sem] max2_int min2_int max_two min_two max_three min_three max_four min_four   -- for this text's walks alone
set_option linter.unusedVariables false
set_option linter.unusedSimpArgs false

end Go.Proofs.Ytmcgamhipilbpaa.QFnExactStandsOf
