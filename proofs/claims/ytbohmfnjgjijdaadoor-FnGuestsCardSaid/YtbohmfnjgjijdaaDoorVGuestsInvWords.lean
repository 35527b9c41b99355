-- Out of what the kit's print.sh wrote for this seat: the part that this law's texts use (squeeze.py, a program of this session).
import Derived.Test.YtbohmfnjgjijdaaDoorVGuestsInv
import Derived.Test.YtbohmfnjgjijdaaDoorVGuestsFootNe
namespace Go.Proofs.YtbohmfnjgjijdaaDoorW.PrintWords
open Go.RowKit
end Go.Proofs.YtbohmfnjgjijdaaDoorW.PrintWords
namespace Go.Proofs.YtbohmfnjgjijdaaDoorW.PrintLast
section
variable {ops : Array Oper} {a : Act} {o og : Oper} {g : Nat} {t : Tmp} {u : Bool}
end
end Go.Proofs.YtbohmfnjgjijdaaDoorW.PrintLast
