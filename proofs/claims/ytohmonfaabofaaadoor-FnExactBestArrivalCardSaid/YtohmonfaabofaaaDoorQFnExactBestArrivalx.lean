-- Written by px.py, a program of this session, over the kit's printer: some functions have a definition and a proof of this session's own.
import Derived.Test.YtohmonfaabofaaaDoorQFnExactBestArrivalx0
import Derived.Test.YtohmonfaabofaaaDoorQFnExactBestArrivalx1
import Derived.Test.YtohmonfaabofaaaDoorQFnExactBestArrivalx2
import Derived.Test.YtohmonfaabofaaaDoorQFnExactBestArrivalx3
import Derived.Test.YtohmonfaabofaaaDoorQFnExactBestArrivalx4
import Derived.Test.YtohmonfaabofaaaDoorQFnExactBestArrivalx5
import Derived.Test.YtohmonfaabofaaaDoorQFnExactBestArrivalx6
import Derived.Test.YtohmonfaabofaaaDoorQFnExactBestArrivalx7
import Derived.Test.YtohmonfaabofaaaDoorQFnExactBestArrivalx8
import Derived.Test.YtohmonfaabofaaaDoorQFnExactBestArrivalx9
import Derived.Test.YtohmonfaabofaaaDoorQFnExactBestArrivalx10
namespace Go.Proofs.YtohmonfaabofaaaDoor.QFnExactBestArrival
open Go.RowKit Go.Proofs.YtohmonfaabofaaaDoorW.PrintWords Go.Proofs.YtohmonfaabofaaaDoorW.PrintLast Go.Proofs.YtohmonfaabofaaaDoorW.PrintMore
attribute [local go_sem] max2_int min2_int max_two min_two max_three min_three max_four min_four   -- for this text's walks alone
set_option linter.unusedVariables false
set_option linter.unusedSimpArgs false

end Go.Proofs.YtohmonfaabofaaaDoor.QFnExactBestArrival
-- squeezed
