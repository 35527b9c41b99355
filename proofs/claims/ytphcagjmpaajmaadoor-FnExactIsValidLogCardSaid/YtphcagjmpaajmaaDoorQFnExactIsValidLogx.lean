-- Written by px.py, a program of this session, over the kit's printer: some functions have a definition and a proof of this session's own.
import Derived.Test.YtphcagjmpaajmaaDoorQFnExactIsValidLogx0
import Derived.Test.YtphcagjmpaajmaaDoorQFnExactIsValidLogx1
import Derived.Test.YtphcagjmpaajmaaDoorQFnExactIsValidLogx2
import Derived.Test.YtphcagjmpaajmaaDoorQFnExactIsValidLogx3
import Derived.Test.YtphcagjmpaajmaaDoorQFnExactIsValidLogx4
import Derived.Test.YtphcagjmpaajmaaDoorQFnExactIsValidLogx5
namespace Go.Proofs.YtphcagjmpaajmaaDoor.QFnExactIsValidLog
open Go.RowKit Go.Proofs.YtphcagjmpaajmaaDoorW.PrintWords Go.Proofs.YtphcagjmpaajmaaDoorW.PrintLast Go.Proofs.YtphcagjmpaajmaaDoorW.PrintMore
attribute [local go_sem] max2_int min2_int max_two min_two max_three min_three max_four min_four   -- for this text's walks alone
set_option linter.unusedVariables false
set_option linter.unusedSimpArgs false

end Go.Proofs.YtphcagjmpaajmaaDoor.QFnExactIsValidLog
