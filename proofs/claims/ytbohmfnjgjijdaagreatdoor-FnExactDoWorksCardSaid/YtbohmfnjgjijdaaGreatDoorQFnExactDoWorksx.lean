-- Written by px.py, a program of this session, over the kit's printer: some functions have a definition and a proof of this session's own.
import Derived.Test.YtbohmfnjgjijdaaGreatDoorQFnExactDoWorksx0
import Derived.Test.YtbohmfnjgjijdaaGreatDoorQFnExactDoWorksx1
import Derived.Test.YtbohmfnjgjijdaaGreatDoorQFnExactDoWorksx2
import Derived.Test.YtbohmfnjgjijdaaGreatDoorQFnExactDoWorksx3
import Derived.Test.YtbohmfnjgjijdaaGreatDoorQFnExactDoWorksx4
import Derived.Test.YtbohmfnjgjijdaaGreatDoorQFnExactDoWorksx5
namespace Go.Proofs.YtbohmfnjgjijdaaGreatDoor.QFnExactDoWorks
open Go.RowKit Go.Proofs.YtbohmfnjgjijdaaGreatDoorW.PrintWords Go.Proofs.YtbohmfnjgjijdaaGreatDoorW.PrintLast Go.Proofs.YtbohmfnjgjijdaaGreatDoorW.PrintMore
attribute [local go_sem] max2_int min2_int max_two min_two max_three min_three max_four min_four   -- for this text's walks alone
set_option linter.unusedVariables false
set_option linter.unusedSimpArgs false

end Go.Proofs.YtbohmfnjgjijdaaGreatDoor.QFnExactDoWorks
-- squeezed
