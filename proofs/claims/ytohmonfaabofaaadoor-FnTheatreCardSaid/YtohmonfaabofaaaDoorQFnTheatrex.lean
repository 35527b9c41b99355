-- Written by px.py, a program of this session, over the kit's printer: some functions have a definition and a proof of this session's own.
import Derived.Test.YtohmonfaabofaaaDoorQFnTheatrex0
import Derived.Test.YtohmonfaabofaaaDoorQFnTheatrex1
import Derived.Test.YtohmonfaabofaaaDoorQFnTheatrex2
import Derived.Test.YtohmonfaabofaaaDoorQFnTheatrex3
import Derived.Test.YtohmonfaabofaaaDoorQFnTheatrex4
import Derived.Test.YtohmonfaabofaaaDoorQFnTheatrex5
namespace Go.Proofs.YtohmonfaabofaaaDoor.QFnTheatre
open Go.RowKit Go.Proofs.YtohmonfaabofaaaDoorW.PrintWords Go.Proofs.YtohmonfaabofaaaDoorW.PrintLast Go.Proofs.YtohmonfaabofaaaDoorW.PrintMore
attribute [local go_sem] max2_int min2_int max_two min_two max_three min_three max_four min_four   -- for this text's walks alone
set_option linter.unusedVariables false
set_option linter.unusedSimpArgs false

end Go.Proofs.YtohmonfaabofaaaDoor.QFnTheatre
-- squeezed
