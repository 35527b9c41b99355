-- Written by px.py, a program of this session, over the kit's printer: some functions have a definition and a proof of this session's own.
import Derived.Test.YtgmodeeebkngcaaGreatDoorQFnExactIsValidConsolex0
import Derived.Test.YtgmodeeebkngcaaGreatDoorQFnExactIsValidConsolex1
import Derived.Test.YtgmodeeebkngcaaGreatDoorQFnExactIsValidConsolex2
import Derived.Test.YtgmodeeebkngcaaGreatDoorQFnExactIsValidConsolex3
namespace Go.Proofs.YtgmodeeebkngcaaGreatDoor.QFnExactIsValidConsole
open Go.RowKit Go.Proofs.YtgmodeeebkngcaaGreatDoorW.PrintWords Go.Proofs.YtgmodeeebkngcaaGreatDoorW.PrintLast Go.Proofs.YtgmodeeebkngcaaGreatDoorW.PrintMore
attribute [local go_sem] max2_int min2_int max_two min_two max_three min_three max_four min_four   -- for this text's walks alone
set_option linter.unusedVariables false
set_option linter.unusedSimpArgs false

end Go.Proofs.YtgmodeeebkngcaaGreatDoor.QFnExactIsValidConsole
-- squeezed
