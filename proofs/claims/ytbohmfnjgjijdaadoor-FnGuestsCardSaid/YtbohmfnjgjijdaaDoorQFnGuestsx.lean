-- Written by px.py, a program of this session, over the kit's printer: some functions have a definition and a proof of this session's own.
import Derived.Test.YtbohmfnjgjijdaaDoorQFnGuestsx0
import Derived.Test.YtbohmfnjgjijdaaDoorQFnGuestsx1
import Derived.Test.YtbohmfnjgjijdaaDoorQFnGuestsx2
import Derived.Test.YtbohmfnjgjijdaaDoorQFnGuestsx3
import Derived.Test.YtbohmfnjgjijdaaDoorQFnGuestsx4
import Derived.Test.YtbohmfnjgjijdaaDoorQFnGuestsx5
namespace Go.Proofs.YtbohmfnjgjijdaaDoor.QFnGuests
open Go.RowKit Go.Proofs.YtbohmfnjgjijdaaDoorW.PrintWords Go.Proofs.YtbohmfnjgjijdaaDoorW.PrintLast Go.Proofs.YtbohmfnjgjijdaaDoorW.PrintMore
attribute [local go_sem] max2_int min2_int max_two min_two max_three min_three max_four min_four   -- for this text's walks alone
set_option linter.unusedVariables false
set_option linter.unusedSimpArgs false

end Go.Proofs.YtbohmfnjgjijdaaDoor.QFnGuests
-- squeezed
