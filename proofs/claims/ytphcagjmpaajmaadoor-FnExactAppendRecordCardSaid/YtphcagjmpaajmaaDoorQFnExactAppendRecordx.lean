-- Written by px.py, a program of this session, over the kit's printer: some functions have a definition and a proof of this session's own.
import Derived.Test.YtphcagjmpaajmaaDoorQFnExactAppendRecordx0
import Derived.Test.YtphcagjmpaajmaaDoorQFnExactAppendRecordx1
import Derived.Test.YtphcagjmpaajmaaDoorQFnExactAppendRecordx2
import Derived.Test.YtphcagjmpaajmaaDoorQFnExactAppendRecordx3
import Derived.Test.YtphcagjmpaajmaaDoorQFnExactAppendRecordx4
import Derived.Test.YtphcagjmpaajmaaDoorQFnExactAppendRecordx5
import Derived.Test.YtphcagjmpaajmaaDoorQFnExactAppendRecordx6
import Derived.Test.YtphcagjmpaajmaaDoorQFnExactAppendRecordx7
namespace Go.Proofs.YtphcagjmpaajmaaDoor.QFnExactAppendRecord
open Go.RowKit Go.Proofs.YtphcagjmpaajmaaDoorW.PrintWords Go.Proofs.YtphcagjmpaajmaaDoorW.PrintLast Go.Proofs.YtphcagjmpaajmaaDoorW.PrintMore
attribute [local go_sem] max2_int min2_int max_two min_two max_three min_three max_four min_four   -- for this text's walks alone
set_option linter.unusedVariables false
set_option linter.unusedSimpArgs false

end Go.Proofs.YtphcagjmpaajmaaDoor.QFnExactAppendRecord
