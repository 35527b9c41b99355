-- Out of what the kit's print.sh wrote for this seat: the part that this law's texts use (squeeze.py, a program of this session).
import Derived.Test.YtgmodeeebkngcaaGreatDoorVIsValidConsoleInv
import Derived.Test.YtgmodeeebkngcaaGreatDoorVIsValidConsoleFootNe
namespace Go.Proofs.YtgmodeeebkngcaaGreatDoorW.PrintWords
open Go.RowKit
end Go.Proofs.YtgmodeeebkngcaaGreatDoorW.PrintWords
namespace Go.Proofs.YtgmodeeebkngcaaGreatDoorW.PrintLast
section
variable {ops : Array Oper} {a : Act} {o og : Oper} {g : Nat} {t : Tmp} {u : Bool}
end
end Go.Proofs.YtgmodeeebkngcaaGreatDoorW.PrintLast
