-- Written by px.py, a program of this session, over the kit's printer: some functions have a definition and a proof of this session's own.
import Derived.Test.YtbohmfnjgjijdaaQFnExactIsHousex0
import Derived.Test.YtbohmfnjgjijdaaQFnExactIsHousex1
import Derived.Test.YtbohmfnjgjijdaaQFnExactIsHousex2
import Derived.Test.YtbohmfnjgjijdaaQFnExactIsHousex3
import Derived.Test.YtbohmfnjgjijdaaQFnExactIsHousex4
import Derived.Test.YtbohmfnjgjijdaaQFnExactIsHousex5
namespace Go.Proofs.Ytbohmfnjgjijdaa.QFnExactIsHouse
open Go.RowKit Go.Proofs.YtbohmfnjgjijdaaW.PrintWords Go.Proofs.YtbohmfnjgjijdaaW.PrintLast Go.Proofs.YtbohmfnjgjijdaaW.PrintMore
attribute [local go_sem] max2_int min2_int max_two min_two max_three min_three max_four min_four   -- for this text's walks alone
set_option linter.unusedVariables false
set_option linter.unusedSimpArgs false

end Go.Proofs.Ytbohmfnjgjijdaa.QFnExactIsHouse
