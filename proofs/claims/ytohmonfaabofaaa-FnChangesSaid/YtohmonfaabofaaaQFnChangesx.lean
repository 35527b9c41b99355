-- Written by px.py, a program of this session, over the kit's printer: some functions have a definition and a proof of this session's own.
import Derived.Test.YtohmonfaabofaaaQFnChangesx0
import Derived.Test.YtohmonfaabofaaaQFnChangesx1
import Derived.Test.YtohmonfaabofaaaQFnChangesx2
import Derived.Test.YtohmonfaabofaaaQFnChangesx3
import Derived.Test.YtohmonfaabofaaaQFnChangesx4
import Derived.Test.YtohmonfaabofaaaQFnChangesx5
import Derived.Test.YtohmonfaabofaaaQFnChangesx6
import Derived.Test.YtohmonfaabofaaaQFnChangesx7
import Derived.Test.YtohmonfaabofaaaQFnChangesx8
import Derived.Test.YtohmonfaabofaaaQFnChangesx9
import Derived.Test.YtohmonfaabofaaaQFnChangesx10
import Derived.Test.YtohmonfaabofaaaQFnChangesx11
namespace Go.Proofs.Ytohmonfaabofaaa.QFnChanges
open Go.RowKit Go.Proofs.YtohmonfaabofaaaW.PrintWords Go.Proofs.YtohmonfaabofaaaW.PrintLast Go.Proofs.YtohmonfaabofaaaW.PrintMore
attribute [local go_sem] max2_int min2_int max_two min_two max_three min_three max_four min_four   -- for this text's walks alone
set_option linter.unusedVariables false
set_option linter.unusedSimpArgs false

end Go.Proofs.Ytohmonfaabofaaa.QFnChanges
-- squeezed
