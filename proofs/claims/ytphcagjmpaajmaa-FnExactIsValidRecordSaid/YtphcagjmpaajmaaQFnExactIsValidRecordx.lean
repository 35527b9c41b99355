-- Written by px.py, a program of this session, over the kit's printer: some functions have a definition and a proof of this session's own.
import Derived.Test.YtphcagjmpaajmaaQFnExactIsValidRecordx0
import Derived.Test.YtphcagjmpaajmaaQFnExactIsValidRecordx1
namespace Go.Proofs.Ytphcagjmpaajmaa.QFnExactIsValidRecord
open Go.RowKit Go.Proofs.YtphcagjmpaajmaaW.PrintWords Go.Proofs.YtphcagjmpaajmaaW.PrintLast Go.Proofs.YtphcagjmpaajmaaW.PrintMore
attribute [local go_sem] max2_int min2_int max_two min_two max_three min_three max_four min_four   -- for this text's walks alone
set_option linter.unusedVariables false
set_option linter.unusedSimpArgs false

end Go.Proofs.Ytphcagjmpaajmaa.QFnExactIsValidRecord
