-- Written by px.py, a program of this session, over the kit's printer: some functions have a definition and a proof of this session's own.
import Derived.Test.YtbohmfnjgjijdaaGreatDoorQFnHousesx0
import Derived.Test.YtbohmfnjgjijdaaGreatDoorQFnHousesx1
import Derived.Test.YtbohmfnjgjijdaaGreatDoorQFnHousesx2
import Derived.Test.YtbohmfnjgjijdaaGreatDoorQFnHousesx3
import Derived.Test.YtbohmfnjgjijdaaGreatDoorQFnHousesx4
import Derived.Test.YtbohmfnjgjijdaaGreatDoorQFnHousesx5
import Derived.Test.YtbohmfnjgjijdaaGreatDoorQFnHousesx6
namespace Go.Proofs.YtbohmfnjgjijdaaGreatDoor.QFnHouses
open Go.RowKit Go.Proofs.YtbohmfnjgjijdaaGreatDoorW.PrintWords Go.Proofs.YtbohmfnjgjijdaaGreatDoorW.PrintLast Go.Proofs.YtbohmfnjgjijdaaGreatDoorW.PrintMore
attribute [local go_sem] ek el eM eN dU dV en eo   -- for this text's walks alone
set_option linter.unusedVariables false
set_option linter.unusedSimpArgs false

end Go.Proofs.YtbohmfnjgjijdaaGreatDoor.QFnHouses
-- squeezed
