-- Out of what the kit's print.sh wrote for this seat: the part that this law's texts use (squeeze.py, a program of this session).
import Derived.Test.YtphcagjmpaajmaaDoorVLogsInv
import Derived.Test.YtphcagjmpaajmaaDoorVLogsFootNe
namespace Go.Proofs.YtphcagjmpaajmaaDoorW.PrintWords
open Go.RowKit
end Go.Proofs.YtphcagjmpaajmaaDoorW.PrintWords
namespace Go.Proofs.YtphcagjmpaajmaaDoorW.PrintLast
section
variable {ops : Array Oper} {a : Act} {o og : Oper} {g : Nat} {t : Tmp} {u : Bool}
end
end Go.Proofs.YtphcagjmpaajmaaDoorW.PrintLast
