-- Written by px.py, a program of this session, over the kit's printer: some functions have a definition and a proof of this session's own.
import Derived.Test.YtphcagjmpaajmaaDoorQFnExactRecoverLogx0
import Derived.Test.YtphcagjmpaajmaaDoorQFnExactRecoverLogx1
import Derived.Test.YtphcagjmpaajmaaDoorQFnExactRecoverLogx2
import Derived.Test.YtphcagjmpaajmaaDoorQFnExactRecoverLogx3
import Derived.Test.YtphcagjmpaajmaaDoorQFnExactRecoverLogx4
import Derived.Test.YtphcagjmpaajmaaDoorQFnExactRecoverLogx5
namespace Go.Proofs.YtphcagjmpaajmaaDoor.QFnExactRecoverLog
open Go.RowKit Go.Proofs.YtphcagjmpaajmaaDoorW.PrintWords Go.Proofs.YtphcagjmpaajmaaDoorW.PrintLast Go.Proofs.YtphcagjmpaajmaaDoorW.PrintMore
attribute [local go_sem] max2_int min2_int max_two min_two max_three min_three max_four min_four   -- for this text's walks alone
set_option linter.unusedVariables false
set_option linter.unusedSimpArgs false

end Go.Proofs.YtphcagjmpaajmaaDoor.QFnExactRecoverLog
