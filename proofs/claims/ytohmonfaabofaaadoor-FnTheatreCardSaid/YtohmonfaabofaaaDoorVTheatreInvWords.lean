-- Out of what the kit's print.sh wrote for this seat: the part that this law's texts use (squeeze.py, a program of this session).
import Derived.Test.YtohmonfaabofaaaDoorVTheatreInv
import Derived.Test.YtohmonfaabofaaaDoorVTheatreFootNe
namespace Go.Proofs.YtohmonfaabofaaaDoorW.PrintWords
open Go.RowKit
end Go.Proofs.YtohmonfaabofaaaDoorW.PrintWords
namespace Go.Proofs.YtohmonfaabofaaaDoorW.PrintLast
section
variable {ops : Array Oper} {a : Act} {o og : Oper} {g : Nat} {t : Tmp} {u : Bool}
end
end Go.Proofs.YtohmonfaabofaaaDoorW.PrintLast
