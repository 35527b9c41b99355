-- Out of what the kit's print.sh wrote for this seat: the part that this law's texts use (squeeze.py, a program of this session).
import Derived.Test.YtbohmfnjgjijdaaVNewConsoleInv
import Derived.Test.YtbohmfnjgjijdaaVNewConsoleFootNe
namespace Go.Proofs.YtbohmfnjgjijdaaW.PrintWords
open Go.RowKit
end Go.Proofs.YtbohmfnjgjijdaaW.PrintWords
namespace Go.Proofs.YtbohmfnjgjijdaaW.PrintLast
section
variable {ops : Array Oper} {a : Act} {o og : Oper} {g : Nat} {t : Tmp} {u : Bool}
end
end Go.Proofs.YtbohmfnjgjijdaaW.PrintLast
