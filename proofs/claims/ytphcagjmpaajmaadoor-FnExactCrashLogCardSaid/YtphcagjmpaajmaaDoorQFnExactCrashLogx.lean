-- Written by px.py, a program of this session, over the kit's printer: some functions have a definition and a proof of this session's own.
import Derived.Test.YtphcagjmpaajmaaDoorQFnExactCrashLogx0
import Derived.Test.YtphcagjmpaajmaaDoorQFnExactCrashLogx1
import Derived.Test.YtphcagjmpaajmaaDoorQFnExactCrashLogx2
import Derived.Test.YtphcagjmpaajmaaDoorQFnExactCrashLogx3
import Derived.Test.YtphcagjmpaajmaaDoorQFnExactCrashLogx4
import Derived.Test.YtphcagjmpaajmaaDoorQFnExactCrashLogx5
import Derived.Test.YtphcagjmpaajmaaDoorQFnExactCrashLogx6
namespace Go.Proofs.YtphcagjmpaajmaaDoor.QFnExactCrashLog
open Go.RowKit Go.Proofs.YtphcagjmpaajmaaDoorW.PrintWords Go.Proofs.YtphcagjmpaajmaaDoorW.PrintLast Go.Proofs.YtphcagjmpaajmaaDoorW.PrintMore
attribute [local go_sem] max2_int min2_int max_two min_two max_three min_three max_four min_four   -- for this text's walks alone
set_option linter.unusedVariables false
set_option linter.unusedSimpArgs false

end Go.Proofs.YtphcagjmpaajmaaDoor.QFnExactCrashLog
