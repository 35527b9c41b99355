-- Written by px.py, a program of this session, over the kit's printer: some functions have a definition and a proof of this session's own.
import Derived.Test.YtphcagjmpaajmaaDoorQFnCrashesx0
import Derived.Test.YtphcagjmpaajmaaDoorQFnCrashesx1
import Derived.Test.YtphcagjmpaajmaaDoorQFnCrashesx2
import Derived.Test.YtphcagjmpaajmaaDoorQFnCrashesx3
import Derived.Test.YtphcagjmpaajmaaDoorQFnCrashesx4
import Derived.Test.YtphcagjmpaajmaaDoorQFnCrashesx5
import Derived.Test.YtphcagjmpaajmaaDoorQFnCrashesx6
import Derived.Test.YtphcagjmpaajmaaDoorQFnCrashesx7
import Derived.Test.YtphcagjmpaajmaaDoorQFnCrashesx8
import Derived.Test.YtphcagjmpaajmaaDoorQFnCrashesx9
import Derived.Test.YtphcagjmpaajmaaDoorQFnCrashesx10
import Derived.Test.YtphcagjmpaajmaaDoorQFnCrashesx11
import Derived.Test.YtphcagjmpaajmaaDoorQFnCrashesx12
import Derived.Test.YtphcagjmpaajmaaDoorQFnCrashesx13
namespace Go.Proofs.YtphcagjmpaajmaaDoor.QFnCrashes
open Go.RowKit Go.Proofs.YtphcagjmpaajmaaDoorW.PrintWords Go.Proofs.YtphcagjmpaajmaaDoorW.PrintLast Go.Proofs.YtphcagjmpaajmaaDoorW.PrintMore
attribute [local go_sem] max2_int min2_int max_two min_two max_three min_three max_four min_four   -- for this text's walks alone
set_option linter.unusedVariables false
set_option linter.unusedSimpArgs false

end Go.Proofs.YtphcagjmpaajmaaDoor.QFnCrashes
-- squeezed
