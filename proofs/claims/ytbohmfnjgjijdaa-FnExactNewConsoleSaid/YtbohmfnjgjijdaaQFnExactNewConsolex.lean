-- Written by px.py, a program of this session, over the kit's printer: some functions have a definition and a proof of this session's own.
import Derived.Test.YtbohmfnjgjijdaaQFnExactNewConsolex0
import Derived.Test.YtbohmfnjgjijdaaQFnExactNewConsolex1
import Derived.Test.YtbohmfnjgjijdaaQFnExactNewConsolex2
import Derived.Test.YtbohmfnjgjijdaaQFnExactNewConsolex3
import Derived.Test.YtbohmfnjgjijdaaQFnExactNewConsolex4
import Derived.Test.YtbohmfnjgjijdaaQFnExactNewConsolex5
import Derived.Test.YtbohmfnjgjijdaaQFnExactNewConsolex6
import Derived.Test.YtbohmfnjgjijdaaQFnExactNewConsolex7
import Derived.Test.YtbohmfnjgjijdaaQFnExactNewConsolex8
namespace Go.Proofs.Ytbohmfnjgjijdaa.QFnExactNewConsole
open Go.RowKit Go.Proofs.YtbohmfnjgjijdaaW.PrintWords Go.Proofs.YtbohmfnjgjijdaaW.PrintLast Go.Proofs.YtbohmfnjgjijdaaW.PrintMore
attribute [local go_sem] max2_int min2_int max_two min_two max_three min_three max_four min_four   -- for this text's walks alone
set_option linter.unusedVariables false
set_option linter.unusedSimpArgs false

end Go.Proofs.Ytbohmfnjgjijdaa.QFnExactNewConsole
-- squeezed
