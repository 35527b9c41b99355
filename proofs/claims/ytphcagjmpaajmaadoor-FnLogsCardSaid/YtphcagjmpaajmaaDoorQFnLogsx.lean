-- Written by px.py, a program of this session, over the kit's printer: some functions have a definition and a proof of this session's own.
import Derived.Test.YtphcagjmpaajmaaDoorQFnLogsx0
import Derived.Test.YtphcagjmpaajmaaDoorQFnLogsx1
import Derived.Test.YtphcagjmpaajmaaDoorQFnLogsx2
import Derived.Test.YtphcagjmpaajmaaDoorQFnLogsx3
import Derived.Test.YtphcagjmpaajmaaDoorQFnLogsx4
import Derived.Test.YtphcagjmpaajmaaDoorQFnLogsx5
import Derived.Test.YtphcagjmpaajmaaDoorQFnLogsx6
import Derived.Test.YtphcagjmpaajmaaDoorQFnLogsx7
import Derived.Test.YtphcagjmpaajmaaDoorQFnLogsx8
import Derived.Test.YtphcagjmpaajmaaDoorQFnLogsx9
import Derived.Test.YtphcagjmpaajmaaDoorQFnLogsx10
import Derived.Test.YtphcagjmpaajmaaDoorQFnLogsx11
import Derived.Test.YtphcagjmpaajmaaDoorQFnLogsx12
namespace Go.Proofs.YtphcagjmpaajmaaDoor.QFnLogs
open Go.RowKit Go.Proofs.YtphcagjmpaajmaaDoorW.PrintWords Go.Proofs.YtphcagjmpaajmaaDoorW.PrintLast Go.Proofs.YtphcagjmpaajmaaDoorW.PrintMore
attribute [local go_sem] max2_int min2_int max_two min_two max_three min_three max_four min_four   -- for this text's walks alone
set_option linter.unusedVariables false
set_option linter.unusedSimpArgs false

end Go.Proofs.YtphcagjmpaajmaaDoor.QFnLogs
-- squeezed
