-- Written by px.py, a program of this session, over the kit's printer: some functions have a definition and a proof of this session's own.
import Derived.Test.YtohmonfaabofaaaDoorQFnExactLeastStandsx0
import Derived.Test.YtohmonfaabofaaaDoorQFnExactLeastStandsx1
import Derived.Test.YtohmonfaabofaaaDoorQFnExactLeastStandsx2
import Derived.Test.YtohmonfaabofaaaDoorQFnExactLeastStandsx3
import Derived.Test.YtohmonfaabofaaaDoorQFnExactLeastStandsx4
import Derived.Test.YtohmonfaabofaaaDoorQFnExactLeastStandsx5
import Derived.Test.YtohmonfaabofaaaDoorQFnExactLeastStandsx6
import Derived.Test.YtohmonfaabofaaaDoorQFnExactLeastStandsx7
import Derived.Test.YtohmonfaabofaaaDoorQFnExactLeastStandsx8
import Derived.Test.YtohmonfaabofaaaDoorQFnExactLeastStandsx9
namespace Go.Proofs.YtohmonfaabofaaaDoor.QFnExactLeastStands
open Go.RowKit Go.Proofs.YtohmonfaabofaaaDoorW.PrintWords Go.Proofs.YtohmonfaabofaaaDoorW.PrintLast Go.Proofs.YtohmonfaabofaaaDoorW.PrintMore
attribute [local go_sem] max2_int min2_int max_two min_two max_three min_three max_four min_four   -- for this text's walks alone
set_option linter.unusedVariables false
set_option linter.unusedSimpArgs false

end Go.Proofs.YtohmonfaabofaaaDoor.QFnExactLeastStands
