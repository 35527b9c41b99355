-- Out of what the kit's print.sh wrote for this seat: the part that this law's texts use (squeeze.py, a program of this session).
import Derived.Test.YtbohmfnjgjijdaaGreatDoorVHousesInv
import Derived.Test.YtbohmfnjgjijdaaGreatDoorVHousesFootNe
namespace Go.Proofs.YtbohmfnjgjijdaaGreatDoorW.PrintWords
open Go.RowKit
end Go.Proofs.YtbohmfnjgjijdaaGreatDoorW.PrintWords
namespace Go.Proofs.YtbohmfnjgjijdaaGreatDoorW.PrintLast
section
variable {ops:Array Oper} {a:Act} {o og:Oper} {g:Nat} {t:Tmp} {u:Bool}
end
end Go.Proofs.YtbohmfnjgjijdaaGreatDoorW.PrintLast
