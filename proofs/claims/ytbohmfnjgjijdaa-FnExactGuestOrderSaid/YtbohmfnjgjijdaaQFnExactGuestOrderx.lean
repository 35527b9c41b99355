-- Written by px.py, a program of this session, over the kit's printer: some functions have a definition and a proof of this session's own.
import Derived.Test.YtbohmfnjgjijdaaQFnExactGuestOrderx0
import Derived.Test.YtbohmfnjgjijdaaQFnExactGuestOrderx1
import Derived.Test.YtbohmfnjgjijdaaQFnExactGuestOrderx2
import Derived.Test.YtbohmfnjgjijdaaQFnExactGuestOrderx3
import Derived.Test.YtbohmfnjgjijdaaQFnExactGuestOrderx4
import Derived.Test.YtbohmfnjgjijdaaQFnExactGuestOrderx5
import Derived.Test.YtbohmfnjgjijdaaQFnExactGuestOrderx6
import Derived.Test.YtbohmfnjgjijdaaQFnExactGuestOrderx7
namespace Go.Proofs.Ytbohmfnjgjijdaa.QFnExactGuestOrder
open Go.RowKit Go.Proofs.YtbohmfnjgjijdaaW.PrintWords Go.Proofs.YtbohmfnjgjijdaaW.PrintLast Go.Proofs.YtbohmfnjgjijdaaW.PrintMore
attribute [local go_sem] max2_int min2_int max_two min_two max_three min_three max_four min_four   -- for this text's walks alone
set_option linter.unusedVariables false
set_option linter.unusedSimpArgs false

end Go.Proofs.Ytbohmfnjgjijdaa.QFnExactGuestOrder
